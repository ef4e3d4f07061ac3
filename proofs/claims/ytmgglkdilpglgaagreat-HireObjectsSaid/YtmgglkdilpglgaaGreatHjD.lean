/-
 What is used in the proof of a statement (part HjD); no condition.
-/
import Derived.Test.YtmgglkdilpglgaaGreatHiZ
import Derived.Test.YtmgglkdilpglgaaGreatVm2
import Derived.Test.YtmgglkdilpglgaaGreatHiT
import Derived.Test.YtmgglkdilpglgaaGreatHjC
import Derived.Test.YtmgglkdilpglgaaGreatHiS
set_option linter.all false
section
namespace Go.Am.Hi
open Go Go.Am Go.Proofs
set_option maxRecDepth 100000
set_option maxHeartbeats 4000000
set_option linter.unusedSimpArgs false
set_option linter.unusedVariables false
attribute [local simp] vrun vwanted vyielded vop vopA vputAll VHeap.back hidI hidF backL bm Nat.testBit_eq_decide_div_mod_eq veval vevals vparts vO vbuiltin vlen vappend velems vcopy vmakeSlice vbuildSlice valloc vbox vmakeMap vload vpartT vpart vstore vfieldAddr vfield vindexAddr vindex vextract vslice vsliceZ vbounds vbnd zeroO vidx vlookup vmget vmapUpdate vdelete vclear vnilq vnilp vnils vbin vsc vsc1 vscs vscl abinOp aint ashift aunOp aconvert amaxs amax2 pvcV pvc pvcs tput tget vargs VHeap.get VHeap.alloc VHeap.put VHeap.drop VHeap.empty vlook vput vdrop psplice pfill preps chunk List.range List.range.loop vresults vresult vresultV frz frzL PV.isF PV.allF PV.scal PV.allS retP subT allFT PV.one PV.ids PV.idsL dropL beq_eq ble_dec blt_dec
theorem itL_next {b : Int → Int} {f : Int} {k : Nat} {T : Int → Prop} (hb : ∀ x, T x → T (b x)) (hi : ∀ x y, T x → T y → b x = b y → x = y) (hf : T f) (h : (itL b f (k + 1)).Nodup) (hne : ¬itr b (k + 1) f = f) : (itL b f (k + 1 + 1)).Nodup := by
 have hT : ∀ n, T (itr b n f) := fun n => by
  induction n with
  | zero => exact hf
  | succ n ih => rw [itr_succ]; exact hb _ ih
 rw [itL_succ, List.nodup_append]
 refine ⟨h, by simp, fun x hx y hy he => ?_⟩
 rw [List.mem_singleton] at hy
 obtain ⟨i, hik, hie⟩ := itL_mem.1 hx
 rw [← hie, hy] at he
 cases i with
 | zero => exact hne he.symm
 | succ i =>
  rw [itr_succ, itr_succ] at he
  have e := hi _ _ (hT i) (hT k) he
  have hl := itL_len b f (k + 1)
  have := (List.pairwise_iff_getElem.1 h) i k (by omega) (by omega) (by omega)
  rw [itL_at, itL_at] at this
  exact this e
theorem sorted_lt {L : List Int} (h : L.Nodup) : (L.mergeSort fun x y => decide (x ≤ y)).Pairwise (· < ·) := by
 have hs : (L.mergeSort fun x y => decide (x ≤ y)).Pairwise fun x y => decide (x ≤ y) = true := List.pairwise_mergeSort (fun a b c h1 h2 => by simp at h1 h2 ⊢; omega) (fun a b => by simp; omega) L
 have hn : (L.mergeSort fun x y => decide (x ≤ y)).Nodup := (List.mergeSort_perm L _).nodup_iff.2 h
 refine List.pairwise_iff_getElem.2 fun i j hi hj hlt => ?_
 have h1 := (List.pairwise_iff_getElem.1 hs) i j hi hj hlt
 have h2 := (List.pairwise_iff_getElem.1 hn) i j hi hj hlt
 simp at h1
 omega
theorem loop_obj {ws : List (List Int)} {l G R : List Int} (hm : Mkt ws) (h : AccL ws G R) (hl : gts ws l = true) {f k : Nat} (hf : f < ws.length) (hne : ¬nx l f = nx G f) (hlow : ∀ j : Nat, j < ws.length → ¬nx l j = nx G j → nx R f ≤ nx R j) (hn : (itL (nx G) f (k + 1)).Nodup) (hk : itr (nx G) (k + 1) f = f) : ObjP ws l ((itL (nx G) f (k + 1)).mergeSort fun x y => decide (x ≤ y)) (nowL G ((itL (nx G) f (k + 1)).mergeSort fun x y => decide (x ≤ y))) := by
 have hF : InN ws.length f := ⟨by omega, by omega⟩
 have hT : ∀ n, InN ws.length (itr (nx G) n f) ∧ nx R (itr (nx G) n f) = nx R f := fun n => by
  induction n with
  | zero => exact ⟨hF, rfl⟩
  | succ n ih => rw [itr_succ]; exact ⟨h.acc.gin _ ih.1, by rw [h.acc.rg _ ih.1]; exact ih.2⟩
 have hmem : ∀ x, x ∈ ((itL (nx G) f (k + 1)).mergeSort fun x y => decide (x ≤ y)) ↔ ∃ i, i < k + 1 ∧ itr (nx G) i f = x := fun x => by rw [(List.mergeSort_perm _ _).mem_iff]; exact itL_mem
 refine obj_of hm h hl hF hne (fun j hj hjn => ?_) (sorted_lt hn) ((hmem _).2 ⟨0, by omega, rfl⟩) (fun x hx => ?_) (fun x hx => ?_)
 ·obtain ⟨i, hi, rfl⟩ := hj.nat
  exact hlow i hi hjn
 ·obtain ⟨i, _, rfl⟩ := (hmem x).1 hx
  exact hT i
 ·obtain ⟨i, hi, rfl⟩ := (hmem x).1 hx
  rw [← itr_succ (nx G) i]
  by_cases h1 : i + 1 < k + 1
  ·exact (hmem _).2 ⟨i + 1, h1, rfl⟩
  ·exact (hmem _).2 ⟨0, by omega, by rw [show i + 1 = k + 1 by omega, hk]; rfl⟩
theorem alt_own1 {vh : VHeap} {n2 : Nat} {D : Nat → Bool} {ρ : Nat → Nat} (i : Nat) (l : List Int) (n : Nat) (hn : l.length = n) (hD : D i = true) (hg : vh.get i = some (.arr false 1 (l.map (PV.int .i64)))) : Alt vh n2 D ρ (.own i 0 n n) (ints l) := by
 refine .fown i 0 n n false 1 _ _ hD hg ?_
 subst hn
 have h2 : (l.map (PV.int .i64)).take l.length = l.map (PV.int .i64) := by
  have := List.take_length (l := l.map (PV.int .i64)); simpa using this
 simp only [hg, velems, all_one_int, beq_eq, ble_dec, List.drop_zero, chunk, cond_false, h2, List.length_map]
 simp
def grpV (k : Nat) : PV := match k with
 | 0 => .own 3 0 1 1
 | k + 1 => .grow 3 (k + 2) false
def grpO (L : List Int) (k : Nat) : List (Nat × VObj) := match k with
 | 0 => [(3, .arr false 1 (L.map (.int .i64)))]
 | _ + 1 => [(3, .grow 1 (L.map (.int .i64)))]
theorem p34 (ws : List (List Int)) (l : List Int) (hl : ws.length < 4294967296) (hll : ∀ l ∈ ws, l.length < 4294967296) (h1 : l.length < 4294967296) : VPure Tryz.prog 34 [encM ws, ints l] fun r => ∃ g o is, Soft r (.tup [ints g, ints o, .bool is, .int .i64 (gE ws l)]) ∧ ObjR ws l g o is := by
 refine .of_body Tryz.func34 rfl rfl ?_
 refine .seq ?_
 refine .rn ?_
 refine .seq ?_
 refine .seq ?_
 refine .regionL [0,1,2,3,4] rfl zz0 ?_
 refine .rn [0,1,2] [3,4] ?_
 refine .step rfl rfl (.borrow rfl rfl rfl Tryz.call97 (by decide) (by first | (simp <;> rfl) | (simp [*] <;> rfl) | (simp [*]; done)) (p97 ws [l] hl hll (by simp) (by simp [h1])) (by rintro _ rfl <;> first | (simp; done) | rfl) ?_)
 rw [gotE_one]; rintro _ rfl
 refine .rn [4] [] ?_
 refine .done ?_
 refine .seq ?_
 refine .rn ?_
 refine .condS rfl (fun c22 => ?_) (fun c22 => ?_)
 ·try simp at c22
  refine .seq ?_
  refine .rn ?_
  refine .ret ?_
  refine ⟨_, _, zz2,zz2,[],[], false, ?_, .inl ⟨rfl, rfl, rfl, fun h => absurd h c22⟩⟩
  exact soft_tup (AltL.cons .sl0v (AltL.cons .sl0v (AltL.cons (.same _ rfl) (AltL.cons (.same _ rfl) AltL.nil))))
 ·try simp at c22
  obtain ⟨hm0, hgl⟩ := gE_zero c22
  have hm := mkt_of hm0
  have hwl := (gts_spec hgl).1
  have hn16 := hm.le
  have hnp := hm.pos
  refine .skip ?_
  refine .seq ?_
  refine .regionL [0,1,2,3] rfl zz0 ?_
  refine .rn [0] [1,2,3] ?_
  refine .step rfl rfl (.pure rfl rfl rfl Tryz.call96 (by decide) (p96 ws hm hll) (by first | rfl | simp [*]) ?_)
  rintro _ ⟨G, R, rfl, hA⟩
  refine .rn [2,3] [] ?_
  refine .done ?_
  refine .seq ?_
  have hGl := hA.gl
  have hRl := hA.rl
  have hmk := mkG_ok hm0 hA.g
  refine .rn ?_
  refine .seq ?_
  refine .seq ?_
  refine .rn ?_
  refine .block ?_
  refine .loopS (fun st : Nat × Nat => ([(1, ints l),(9, .vp [ints G, ints R]),(10, .int .i64 st.2),(27, .int .i64 l.length),(28, .int .i64 st.1)], VHeap.empty)) (fun st => st.1 ≤ l.length ∧ st.2 < ws.length ∧ ∀ j : Nat, j < st.1 → ¬nx l j = nx G j → ¬nx l st.2 = nx G st.2 ∧ nx R st.2 ≤ nx R j) (fun st => l.length - st.1) (0,0) ⟨Nat.zero_le _, hnp, fun j hj => absurd hj (Nat.not_lt_zero j)⟩ (.mk [0,2] [] zz22 zz23 rfl rfl rfl) ?_
  rintro ⟨s, f⟩ ⟨hs, hf, hr⟩
  simp only at hs hf hr ⊢
  have hfl : f < l.length := by omega
  have hfG : f < G.length := by omega
  have hfR : f < R.length := by omega
  have e1 := nx_at hfl
  have e2 := nx_at hfG
  have e3 := nx_at hfR
  refine .seq ?_
  refine .rn ?_
  refine .seq ?_
  refine .condS rfl (fun c29 => ?_) (fun c29 => ?_)
  ·try simp at c29
   have hw2 : IntKind.i64.wrap ((s : Int) + 1) = (s : Int) + 1 := wrap64 (by omega) (by omega)
   have hsG : s < G.length := by omega
   have hsR : s < R.length := by omega
   have c29' : s < l.length := by omega
   have e4 := nx_at c29'
   have e5 := nx_at hsG
   have e6 := nx_at hsR
   have hsw : s < ws.length := by omega
   obtain ⟨b41, hb41⟩ : ∃ b, (l[s] != G[s]) = b := ⟨_, rfl⟩
   obtain ⟨b52, hb52⟩ : ∃ b, (l[f] == G[f]) = b := ⟨_, rfl⟩
   refine .skip ?_
   refine .seq ?_
   refine .block ?_
   refine .seq ?_
   refine .rn ?_
   refine .seq ?_
   refine .drawn (ms := [0,0,3,7,0,16,0,112,240,511,1023,2047,2047,8191,16383,2047,34815,2047,231423,493567,1048575,2097151,4194303,8388607,4194303,33554431,67108863,4194303,138412031,4194303,943718399,2017460223,4294967295,8589934591,17179869183]) (W := []) (items := [.op 0, .op 1, .op 2, .op 3, .op 4, .op 5, .op 6, .op 7, .op 8, .op 9, .op 10, .op 11, .op 12, .op 13, .op 14, .op 15, .op 16, .op 17, .op 18, .op 19, .op 20, .op 21, .op 22, .op 23, .op 24, .op 25, .op 26, .op 27, .op 28, .op 29, .op 30, .op 31, .op 32, .op 33, .op 34]) rfl zz0 zz0 zz0 ?_
   refine .rd rfl rfl (by decide) rfl (by decide) zz1 ?_   -- 0
   refine .rd rfl rfl (by decide) rfl (by decide) zz1 ?_   -- 1
   refine .rd rfl rfl (by decide) rfl (by decide) zz1 ?_   -- 2
   refine .rd rfl rfl (by decide) rfl (by decide) zz1 ?_   -- 3
   refine .rd rfl rfl (by decide) rfl (by decide) zz1 ?_   -- 4
   refine .rd rfl rfl (by decide) rfl (by decide) zz1 ?_   -- 5
   refine .rd rfl rfl (by decide) rfl (by decide) zz1 ?_   -- 6
   refine .rd rfl rfl (by decide) rfl (by decide) zz1 ?_   -- 7
   refine .rd rfl rfl (by decide) rfl (by decide) zz1 ?_   -- 8
   refine .rd rfl rfl (by decide) rfl (by decide) zz1 ?_   -- 9
   refine .rd rfl rfl (by decide) rfl (by decide) zz1 ?_   -- 10
   refine .split (t := 41) rfl (fun c41 => ?_) (fun c41 => ?_)
   ·first | cases c41 | (simp only [Bool.not_eq_true', Bool.not_eq_false', Bool.not_not, Bool.not_true, Bool.not_false] at c41; cases c41) | try rw [c41]
    try simp at c41
    refine .rd rfl rfl (by decide) rfl (by decide) zz1 ?_   -- 11
    refine .rd rfl rfl (by decide) rfl (by decide) zz1 ?_   -- 12
    refine .rd rfl rfl (by decide) rfl (by decide) zz1 ?_   -- 13
    refine .rd rfl rfl (by decide) rfl (by decide) zz1 ?_   -- 14
    refine .rd rfl rfl (by decide) rfl (by decide) zz1 ?_   -- 15
    refine .rd rfl rfl (by decide) rfl (by decide) zz1 ?_   -- 16
    refine .rd rfl rfl (by decide) rfl (by decide) zz1 ?_   -- 17
    refine .rd rfl rfl (by decide) rfl (by decide) zz1 ?_   -- 18
    refine .rd rfl rfl (by decide) rfl (by decide) zz1 ?_   -- 19
    refine .rd rfl rfl (by decide) rfl (by decide) zz1 ?_   -- 20
    refine .rd rfl rfl (by decide) rfl (by decide) zz1 ?_   -- 21
    refine .split (t := 52) rfl (fun c52 => ?_) (fun c52 => ?_)
    ·first | cases c52 | (simp only [Bool.not_eq_true', Bool.not_eq_false', Bool.not_not, Bool.not_true, Bool.not_false] at c52; cases c52) | try rw [c52]
     try simp at c52
     refine .un rfl rfl (by decide) ?_   -- 22
     refine .un rfl rfl (by decide) ?_   -- 23
     refine .un rfl rfl (by decide) ?_   -- 24
     refine .un rfl rfl (by decide) ?_   -- 25
     refine .un rfl rfl (by decide) ?_   -- 26
     refine .un rfl rfl (by decide) ?_   -- 27
     refine .un rfl rfl (by decide) ?_   -- 28
     refine .un rfl rfl (by decide) ?_   -- 29
     refine .un rfl rfl (by decide) ?_   -- 30
     refine .un rfl rfl (by decide) ?_   -- 31
     refine .un rfl rfl (by decide) ?_   -- 32
     refine .rd rfl rfl (by decide) rfl (by decide) zz1 ?_   -- 33
     refine .rd rfl rfl (by decide) rfl (by decide) zz1 ?_   -- 34
     refine .done ?_
     refine .condT rfl ?_
     refine .rn ?_
     refine .rn ?_
     refine ⟨(s + 1, s), ⟨c29', hsw, fun j hj hjn => ?_⟩, by simp only; omega, (.mk [] [] zz8 zz9 rfl rfl rfl)⟩
     by_cases h : j = s
     ·subst h; exact ⟨hjn, Int.le_refl _⟩
     ·have := (hr j (by simp only at hj; omega) hjn).1
      rw [e1, e2] at this
      exact absurd (by simpa using hb52) this
    ·first | cases c52 | (simp only [Bool.not_eq_true', Bool.not_eq_false', Bool.not_not, Bool.not_true, Bool.not_false] at c52; cases c52) | try rw [c52]
     try simp at c52
     refine .rd rfl rfl (by decide) rfl (by decide) zz1 ?_   -- 22
     refine .rd rfl rfl (by decide) rfl (by decide) zz1 ?_   -- 23
     refine .rd rfl rfl (by decide) rfl (by decide) zz1 ?_   -- 24
     refine .rd rfl rfl (by decide) rfl (by decide) zz1 ?_   -- 25
     refine .rd rfl rfl (by decide) rfl (by decide) zz1 ?_   -- 26
     refine .rd rfl rfl (by decide) rfl (by decide) zz1 ?_   -- 27
     refine .rd rfl rfl (by decide) rfl (by decide) zz1 ?_   -- 28
     refine .rd rfl rfl (by decide) rfl (by decide) zz1 ?_   -- 29
     refine .rd rfl rfl (by decide) rfl (by decide) zz1 ?_   -- 30
     refine .rd rfl rfl (by decide) rfl (by decide) zz1 ?_   -- 31
     refine .rd rfl rfl (by decide) rfl (by decide) zz1 ?_   -- 32
     refine .rd rfl rfl (by decide) rfl (by decide) zz1 ?_   -- 33
     refine .rd rfl rfl (by decide) rfl (by decide) zz1 ?_   -- 34
     refine .done ?_
     refine .condS rfl (fun c65 => ?_) (fun c65 => ?_)
     ·try simp at c65
      refine .rn ?_
      refine .rn ?_
      refine ⟨(s + 1, s), ⟨c29', hsw, fun j hj hjn => ?_⟩, by simp only; omega, (.mk [] [] zz8 zz9 rfl rfl rfl)⟩
      by_cases h : j = s
      ·subst h; exact ⟨hjn, Int.le_refl _⟩
      ·have := (hr j (by simp only at hj; omega) hjn).2
       rw [e3] at this
       refine ⟨by rw [e4, e5]; simpa using hb41, by simp only; rw [e6]; omega⟩
     ·try simp at c65
      refine .skip ?_
      refine .rn ?_
      refine ⟨(s + 1, f), ⟨c29', hf, fun j hj hjn => ?_⟩, by simp only; omega, (.mk [] [] zz8 zz9 rfl rfl rfl)⟩
      by_cases h : j = s
      ·subst h; exact ⟨by simp only; rw [e1, e2]; simpa using hb52, by simp only; rw [e3, e6]; omega⟩
      ·exact hr j (by simp only at hj; omega) hjn
   ·first | cases c41 | (simp only [Bool.not_eq_true', Bool.not_eq_false', Bool.not_not, Bool.not_true, Bool.not_false] at c41; cases c41) | try rw [c41]
    try simp at c41
    refine .un rfl rfl (by decide) ?_   -- 11
    refine .un rfl rfl (by decide) ?_   -- 12
    refine .un rfl rfl (by decide) ?_   -- 13
    refine .un rfl rfl (by decide) ?_   -- 14
    refine .un rfl rfl (by decide) ?_   -- 15
    refine .un rfl rfl (by decide) ?_   -- 16
    refine .un rfl rfl (by decide) ?_   -- 17
    refine .un rfl rfl (by decide) ?_   -- 18
    refine .un rfl rfl (by decide) ?_   -- 19
    refine .un rfl rfl (by decide) ?_   -- 20
    refine .un rfl rfl (by decide) ?_   -- 21
    refine .un rfl rfl (by decide) ?_   -- 22
    refine .un rfl rfl (by decide) ?_   -- 23
    refine .un rfl rfl (by decide) ?_   -- 24
    refine .un rfl rfl (by decide) ?_   -- 25
    refine .un rfl rfl (by decide) ?_   -- 26
    refine .un rfl rfl (by decide) ?_   -- 27
    refine .un rfl rfl (by decide) ?_   -- 28
    refine .un rfl rfl (by decide) ?_   -- 29
    refine .un rfl rfl (by decide) ?_   -- 30
    refine .un rfl rfl (by decide) ?_   -- 31
    refine .un rfl rfl (by decide) ?_   -- 32
    refine .un rfl rfl (by decide) ?_   -- 33
    refine .rd rfl rfl (by decide) rfl (by decide) zz1 ?_   -- 34
    refine .done ?_
    refine .condF rfl ?_
    refine .skip ?_
    refine .rn ?_
    refine ⟨(s + 1, f), ⟨c29', hf, fun j hj hjn => ?_⟩, by simp only; omega, (.mk [] [] zz8 zz9 rfl rfl rfl)⟩
    by_cases h : j = s
    ·subst h; rw [e4, e5] at hjn; exact absurd (by simpa using hb41) hjn
    ·exact hr j (by simp only at hj; omega) hjn
  ·try simp at c29
   have hsn : s = l.length := by omega
   subst hsn
   refine .exit ?_
   refine .seq ?_
   refine .seq ?_
   refine .drawn (ms := [0,0,3,7,0,16,0,112,240,511]) (W := []) (items := [.op 0, .op 1, .op 2, .op 3, .op 4, .op 5, .op 6, .op 7, .op 8, .op 9]) rfl zz0 zz0 zz0 ?_
   refine .rd rfl rfl (by decide) rfl (by decide) zz1 ?_   -- 0
   refine .rd rfl rfl (by decide) rfl (by decide) zz1 ?_   -- 1
   refine .rd rfl rfl (by decide) rfl (by decide) zz1 ?_   -- 2
   refine .rd rfl rfl (by decide) rfl (by decide) zz1 ?_   -- 3
   refine .rd rfl rfl (by decide) rfl (by decide) zz1 ?_   -- 4
   refine .rd rfl rfl (by decide) rfl (by decide) zz1 ?_   -- 5
   refine .rd rfl rfl (by decide) rfl (by decide) zz1 ?_   -- 6
   refine .rd rfl rfl (by decide) rfl (by decide) zz1 ?_   -- 7
   refine .rd rfl rfl (by decide) rfl (by decide) zz1 ?_   -- 8
   refine .rd rfl rfl (by decide) rfl (by decide) zz1 ?_   -- 9
   refine .done ?_
   refine .condS rfl (fun c77 => ?_) (fun c77 => ?_)
   ·try simp at c77
    refine .seq ?_
    refine .rn ?_
    refine .ret ?_
    refine ⟨_, _, zz2,zz2,[],[], false, ?_, .inl ⟨rfl, rfl, rfl, fun _ => ?_⟩⟩
    ·rw [c22]; exact soft_tup (AltL.cons .sl0v (AltL.cons .sl0v (AltL.cons (.same _ rfl) (AltL.cons (.same _ rfl) AltL.nil))))
    ·rw [hmk]
     refine ext_nx (by omega) fun i hi => ?_
     obtain ⟨j, hj, rfl⟩ := hi.nat
     refine Classical.byContradiction fun hno => ?_
     have := (hr j (by omega) hno).1
     rw [e1, e2] at this
     exact this c77
   ·try simp at c77
    have hlow : ∀ j : Nat, j < ws.length → ¬nx l j = nx G j → nx R f ≤ nx R j := fun j hj hjn => (hr j (by omega) hjn).2
    have hne : ¬nx l f = nx G f := by rw [e1, e2]; exact c77
    have hnl : ¬l = mkG ws := by rw [hmk]; rintro rfl; exact hne rfl
    have hFi : InN ws.length f := ⟨by omega, by omega⟩
    have hbi : ∀ x ∈ idn ws.length, nx G x ∈ idn ws.length := fun x hx => by
     obtain ⟨i, hi, he⟩ := (hA.acc.gin x (idn_in x hx)).nat
     rw [he]; exact List.mem_map.2 ⟨i, List.mem_range.2 hi, rfl⟩
    have hfi : (f : Int) ∈ idn ws.length := List.mem_map.2 ⟨f, List.mem_range.2 hf, rfl⟩
    have hG1 : G[f] = itr (nx G) 1 f := e2.symm
    refine .skip ?_
    refine .seq ?_
    refine .rn ?_
    refine .seq ?_
    refine .seq ?_
    refine .rn ?_
    refine .block ?_
    refine .loopS (fun k : Nat => ([(9, .vp [ints G, ints R]),(10, .int .i64 f),(12, grpV k),(13, .int .i64 (itr (nx G) (k + 1) f))], ⟨4, grpO (itL (nx G) f (k + 1)) k⟩)) (fun k => (itL (nx G) f (k + 1)).Nodup) (fun k => ws.length + 1 - k) 0 (by simp [itL, List.range, List.range.loop]) (.mk [] [(3,0)] zz8 ⟨⟨Nat.le_of_ble_eq_true rfl, Or.inr ⟨rfl, _, rfl, rfl⟩⟩, trivial⟩ rfl rfl rfl) ?_
    rintro k hk
    simp only at hk ⊢
    have hkl := itL_le hbi hfi hk
    rw [idn_len] at hkl
    have hLl := itL_len (nx G) f (k + 1)
    obtain ⟨a, ha, hae⟩ := (idn_in _ (itr_in hbi hfi (k + 1))).nat
    have haG : a < G.length := by omega
    have hI2 : itr (nx G) (k + 1 + 1) f = G[a] := by rw [itr_succ, hae, nx_at haG]
    refine .seq ?_
    refine .seq ?_
    refine .rn ?_
    refine .condS rfl (fun c87 => ?_) (fun c87 => ?_)
    ·try simp at c87
     have hN := itL_next (T := InN ws.length) (fun x hx => hA.acc.gin x hx) (fun x y hx hy => hA.acc.inj x y hx hy) hFi hk (by rw [hae]; exact c87)
     have hS := itL_succ (nx G) f (k + 1)
     have hmeas : ws.length + 1 - (k + 1) < ws.length + 1 - k := by omega
     rw [hae] at hS
     obtain ⟨L, hL⟩ : ∃ L, itL (nx G) f (k + 1) = L := ⟨_, rfl⟩
     rw [hL] at hLl hS ⊢
     have hk4 : k + 1 + 1 ≤ 4294967296 := by omega
     have hL1 : k = 0 → L = [(f : Int)] := fun h => by subst h; rw [← hL]; rfl
     rcases k with _ | k
     all_goals try (have hz := hL1 rfl; subst hz)
     all_goals simp only [grpV, grpO]
     ·skip
      refine .skip ?_
      refine .seq ?_
      refine .block ?_
      refine .rn ?_
      refine .rn ?_
      refine ⟨_, hN, hmeas, ?_⟩
      simp only [grpV, grpO]
      exact (.mk [] [(3,5)] zz8 zz9 rfl rfl rfl)
     ·skip
      refine .skip ?_
      refine .seq ?_
      refine .block ?_
      refine .rn ?_
      refine .rn ?_
      refine ⟨_, hN, hmeas, ?_⟩
      simp only [grpV, grpO]
      exact (.mk [] [(3,5)] zz8 zz9 rfl rfl rfl)
    ·try simp at c87
     have hob := loop_obj hm hA hgl hf hne hlow hk (by rw [hae]; exact c87)
     obtain ⟨L, hL⟩ : ∃ L, itL (nx G) f (k + 1) = L := ⟨_, rfl⟩
     rw [hL] at hLl hob ⊢
     obtain ⟨z, hz⟩ : ∃ z, (L.mergeSort fun x y => decide (x ≤ y)) = z := ⟨_, rfl⟩
     have hzl : z.length = k + 1 := by rw [← hz, List.length_mergeSort, hLl]
     rw [hz] at hob
     have hzi : ∀ x ∈ z, InN ws.length x := hob.inn
     rcases k with _ | k
     all_goals simp only [grpV, grpO]
     ·skip
      refine .exit ?_
      refine .seq ?_
      refine .regionL [0,1] rfl zz0 ?_
      refine .rn [0] [1] ?_
      refine .step rfl rfl (.call rfl rfl rfl Tryz.call98 (by decide) (((VCall.sortOwn (zs := L) lsort (by simp) hLl (by decide) (by decide))).mono ?_))
      rintro _ _ ⟨rfl, rfl⟩
      refine .done ?_
      refine .seq ?_
      rw [hz]
      refine .rec (vts2 := [(9, .vp [ints G, ints R]),(12, ints z)]) (vh2 := VHeap.empty) (.mk [3] [] (by repeat' (first | exact trivial | refine And.intro (Exists.intro _ (And.intro rfl ?_)) ?_ | exact alt_own1 3 z _ hzl rfl rfl | (refine Alt.fgrow _ _ _ _ _ rfl rfl ?_; simp [*]; done) | (refine Alt.same _ ?_; first | rfl | (simp [*]; done)))) zz9 rfl rfl rfl) ?_
      have hz4 : z.length ≤ 16 := by have := inn_len hzi (nd_of_lt hob.inc); omega
      clear hzl hLl
      refine .rn ?_
      refine .seq ?_
      refine .seq ?_
      refine .rn ?_
      refine .block ?_
      refine .loopS (fun k : Nat => ([(9, .vp [ints G, ints R]),(12, ints z),(14, .grow 0 k true),(99, ints z),(100, .int .i64 z.length),(101, .int .i64 k)], ⟨1,[(0, .grow 1 ((nowL G (z.take k)).map (.int .i64)))]⟩)) (fun k => k ≤ z.length) (fun k => z.length - k) 0 (Nat.zero_le _) (.mk [] [] zz8 zz9 rfl rfl rfl) ?_
      rintro i hi
      simp only at hi ⊢
      have hNl := nowL_tl (l := G) hi
      refine .seq ?_
      refine .rn ?_
      refine .seq ?_
      refine .condS rfl (fun c102 => ?_) (fun c102 => ?_)
      ·try simp at c102
       have hw2 : IntKind.i64.wrap ((i : Int) + 1) = (i : Int) + 1 := wrap64 (by omega) (by omega)
       have hS := nowL_take (l := G) c102
       obtain ⟨N, hN⟩ : ∃ N, nowL G (z.take i) = N := ⟨_, rfl⟩
       rw [hN] at hNl hS ⊢
       have hN4 : i + 1 ≤ 4294967296 := by omega
       obtain ⟨b, hb, hbe⟩ := (hzi _ (List.getElem_mem c102)).nat
       have hbG : b < G.length := by omega
       have hGb := nx_at hbG
       refine .skip ?_
       refine .seq ?_
       refine .block ?_
       refine .seq ?_
       refine .rn ?_
       refine .rn ?_
       refine .rn ?_
       refine ⟨i + 1, c102,zz3,(.mk [] [(0,2)] zz8 zz9 rfl rfl rfl)⟩
      ·try simp at c102
       have hiz : i = z.length := by omega
       have hzt : nowL G (z.take i) = nowL G z := by rw [hiz, List.take_length]
       rw [hzt] at hNl ⊢
       refine .exit ?_
       refine .seq ?_
       refine .rn ?_
       refine .ret ?_
       refine ⟨_, .tup [ints z, ints (nowL G z), .bool true, .int .i64 0],zz2,(by simp [*]), z, nowL G z, true, by rw [c22]; exact soft_rfl rfl, .inr ⟨rfl, c22, hnl, hob⟩⟩
     ·skip
      refine .exit ?_
      refine .seq ?_
      refine .regionL [0,1] rfl zz0 ?_
      refine .rn [0] [1] ?_
      refine .step rfl rfl (.call rfl rfl rfl Tryz.call98 (by decide) (((VCall.sortGrow (zs := L) lsort (by simp) (by omega))).mono ?_))
      rintro _ _ ⟨rfl, rfl⟩
      refine .done ?_
      refine .seq ?_
      rw [hz]
      refine .rec (vts2 := [(9, .vp [ints G, ints R]),(12, ints z)]) (vh2 := VHeap.empty) (.mk [3] [] (by repeat' (first | exact trivial | refine And.intro (Exists.intro _ (And.intro rfl ?_)) ?_ | exact alt_own1 3 z _ hzl rfl rfl | (refine Alt.fgrow _ _ _ _ _ rfl rfl ?_; simp [*]; done) | (refine Alt.same _ ?_; first | rfl | (simp [*]; done)))) zz9 rfl rfl rfl) ?_
      have hz4 : z.length ≤ 16 := by have := inn_len hzi (nd_of_lt hob.inc); omega
      clear hzl hLl
      refine .rn ?_
      refine .seq ?_
      refine .seq ?_
      refine .rn ?_
      refine .block ?_
      refine .loopS (fun k : Nat => ([(9, .vp [ints G, ints R]),(12, ints z),(14, .grow 0 k true),(99, ints z),(100, .int .i64 z.length),(101, .int .i64 k)], ⟨1,[(0, .grow 1 ((nowL G (z.take k)).map (.int .i64)))]⟩)) (fun k => k ≤ z.length) (fun k => z.length - k) 0 (Nat.zero_le _) (.mk [] [] zz8 zz9 rfl rfl rfl) ?_
      rintro i hi
      simp only at hi ⊢
      have hNl := nowL_tl (l := G) hi
      refine .seq ?_
      refine .rn ?_
      refine .seq ?_
      refine .condS rfl (fun c102 => ?_) (fun c102 => ?_)
      ·try simp at c102
       have hw2 : IntKind.i64.wrap ((i : Int) + 1) = (i : Int) + 1 := wrap64 (by omega) (by omega)
       have hS := nowL_take (l := G) c102
       obtain ⟨N, hN⟩ : ∃ N, nowL G (z.take i) = N := ⟨_, rfl⟩
       rw [hN] at hNl hS ⊢
       have hN4 : i + 1 ≤ 4294967296 := by omega
       obtain ⟨b, hb, hbe⟩ := (hzi _ (List.getElem_mem c102)).nat
       have hbG : b < G.length := by omega
       have hGb := nx_at hbG
       refine .skip ?_
       refine .seq ?_
       refine .block ?_
       refine .seq ?_
       refine .rn ?_
       refine .rn ?_
       refine .rn ?_
       refine ⟨i + 1, c102,zz3,(.mk [] [(0,2)] zz8 zz9 rfl rfl rfl)⟩
      ·try simp at c102
       have hiz : i = z.length := by omega
       have hzt : nowL G (z.take i) = nowL G z := by rw [hiz, List.take_length]
       rw [hzt] at hNl ⊢
       refine .exit ?_
       refine .seq ?_
       refine .rn ?_
       refine .ret ?_
       refine ⟨_, .tup [ints z, ints (nowL G z), .bool true, .int .i64 0],zz2,(by simp [*]), z, nowL G z, true, by rw [c22]; exact soft_rfl rfl, .inr ⟨rfl, c22, hnl, hob⟩⟩
theorem p34p (ws : List (List Int)) (l : List Int) (hl : ws.length < 4294967296) (hll : ∀ l ∈ ws, l.length < 4294967296) (h1 : l.length < 4294967296) : VPure Tryz.prog 34 [encM ws, ints l] fun r => ∃ g o is, r = .tup [ints g, ints o, .bool is, .int .i64 (gE ws l)] ∧ ObjR ws l g o is :=
 (p34 ws l hl hll h1).alt fun r ⟨g, o, is, h1, h2⟩ => ⟨_, h1, rfl, g, o, is, rfl, h2⟩
end Go.Am.Hi
end

section
namespace Go.Am.Hi
open Go Go.Am Go.Proofs
set_option maxRecDepth 100000
set_option maxHeartbeats 4000000
set_option linter.unusedSimpArgs false
set_option linter.unusedVariables false
attribute [local simp] vrun vwanted vyielded vop vopA vputAll VHeap.back hidI hidF backL bm Nat.testBit_eq_decide_div_mod_eq veval vevals vparts vO vbuiltin vlen vappend velems vcopy vmakeSlice vbuildSlice valloc vbox vmakeMap vload vpartT vpart vstore vfieldAddr vfield vindexAddr vindex vextract vslice vsliceZ vbounds vbnd zeroO vidx vlookup vmget vmapUpdate vdelete vclear vnilq vnilp vnils vbin vsc vsc1 vscs vscl abinOp aint ashift aunOp aconvert amaxs amax2 pvcV pvc pvcs tput tget vargs VHeap.get VHeap.alloc VHeap.put VHeap.drop VHeap.empty vlook vput vdrop psplice pfill preps chunk List.range List.range.loop vresults vresult vresultV frz frzL PV.isF PV.allF PV.scal PV.allS retP subT allFT PV.one PV.ids PV.idsL dropL beq_eq ble_dec blt_dec
theorem pg_of {ws : List (List Int)} {l g o : List Int} {k : Nat} (h : oB ws l g o = true) (hk : k < g.length) : pg ws g o k ≤ pg ws g (nowL l g) k := by
 have := (oB_iff.1 h).le k hk
 unfold pg
 rw [nowL_at hk]
 exact this
theorem p132 (ws : List (List Int)) (l g o : List Int) (hl : ws.length < 4294967296) (hll : ∀ l ∈ ws, l.length < 4294967296) (h1 : l.length < 4294967296) (h2 : g.length < 4294967296) (h3 : o.length < 4294967296) (hgl : gts ws l = true) : VPure Tryz.prog 132 [encM ws, ints l, ints g, ints o] fun r => r = .bool (oB ws l g o) := by
 have hwl := (gts_spec hgl).1
 have hw1 : IntKind.i64.wrap ((ws.length : Int) - 1) = (ws.length : Int) - 1 := wrap64 (by omega) (by omega)
 refine .of_body Tryz.func132 rfl rfl ?_
 refine .seq ?_
 refine .rn ?_
 refine .seq ?_
 refine .seq ?_
 refine .rn ?_
 refine .condS rfl (fun c17 => ?_) (fun c17 => ?_)
 ·try simp at c17
  refine .seq ?_
  refine .rn ?_
  refine .ret ?_
  refine ⟨_, _, zz2,zz2, ?_⟩
  rw [oB_len (by omega)]
 ·try simp at c17
  have hog : o.length = g.length := by omega
  refine .skip ?_
  refine .seq ?_
  refine .rn ?_
  refine .seq ?_
  refine .seq ?_
  refine .rn ?_
  refine .block ?_
  refine .loopS (fun k : Nat => ([(1, ints l),(2, ints g),(3, ints o),(4, .vp [.vec (ws.map ints)]),(9, .bool (someG ws g o (nowL l g) k)),(10, .int .i64 k)], VHeap.empty)) (fun k => k ≤ g.length ∧ (∀ j, j < k → rowO ws.length g o j = true) ∧ ∀ j, j < k → pg ws g o j ≤ pg ws g (nowL l g) j) (fun k => g.length - k) 0 ⟨Nat.zero_le _, fun j hj => absurd hj (Nat.not_lt_zero j), fun j hj => absurd hj (Nat.not_lt_zero j)⟩ (.mk [0] [] zz14 zz15 rfl rfl rfl) ?_
  rintro k ⟨hk, hr, hp⟩
  simp only at hk hr hp ⊢
  obtain ⟨sg, hsg⟩ : ∃ b, someG ws g o (nowL l g) k = b := ⟨_, rfl⟩
  have hss := someG_succ ws g o (nowL l g) k
  rw [hsg] at hss ⊢
  refine .seq ?_
  refine .seq ?_
  refine .rn ?_
  refine .condS rfl (fun c21 => ?_) (fun c21 => ?_)
  ·try simp at c21
   have hw2 : IntKind.i64.wrap ((k : Int) + 1) = (k : Int) + 1 := wrap64 (by omega) (by omega)
   have hko : k < o.length := by omega
   have htl : (o.take k).length < 4294967296 := by rw [List.length_take]; omega
   have hgk := nx_at c21
   have hok := nx_at hko
   obtain ⟨b34, hb34⟩ : ∃ b, (decide (0 ≤ g[k]) && decide (g[k] ≤ (ws.length : Int) - 1)) = b := ⟨_, rfl⟩
   obtain ⟨b37, hb37⟩ : ∃ b, decide (0 < k) = b := ⟨_, rfl⟩
   obtain ⟨b57, hb57⟩ : ∃ b, decide (o[k] ∈ o.take k) = b := ⟨_, rfl⟩
   have hw3 : 0 < k → IntKind.i64.wrap ((k : Int) - 1) = ((k - 1 : Nat) : Int) := fun h => by rw [wrap64 (by omega) (by omega)]; omega
   refine .skip ?_
   refine .seq ?_
   refine .block ?_
   refine .seq ?_
   refine .rn ?_
   refine .seq ?_
   refine .seq ?_
   refine .regionL [0,1,2,3,4,5,6,7,8,9,10,11,12,13,14,15,16,17,18,19] rfl zz0 ?_
   refine .rn [0,1,2,3] [4,5,6,7,8,9,10,11,12,13,14,15,16,17,18,19] ?_
   refine .step rfl rfl (.pure rfl rfl rfl Tryz.call80 (by decide) ((by have := p80 g[k] 0 ((ws.length : Int) - 1); rw [hb34] at this; exact this)) (by first | rfl | simp [*]) ?_)
   rintro _ rfl
   refine .rn [5,6] [7,8,9,10,11,12,13,14,15,16,17,18,19] ?_
   refine .split (t := 34) rfl (fun c34 => ?_) (fun c34 => ?_)
   ·first | cases c34 | (simp only [Bool.not_eq_true', Bool.not_eq_false', Bool.not_not, Bool.not_true, Bool.not_false] at c34; cases c34) | try rw [c34]
    try simp at c34
    have c34 : ¬(0 ≤ g[k] ∧ g[k] ≤ (ws.length : Int) - 1) := by simpa using hb34
    have hR : rowO ws.length g o k = false := rowO_f fun h => by
     have := h.1
     rw [hgk] at this
     have h1 := this.1
     have h2 := this.2
     omega
    refine .rn [7,8,9,10,11,12,13,14,15,16,17,18,19] [] ?_
    refine .done ?_
    refine .condT rfl ?_
    refine .seq ?_
    refine .rn ?_
    refine .ret ?_
    refine ⟨_, _, zz2,zz2, ?_⟩
    rw [oB_row c21 hR]
   ·first | cases c34 | (simp only [Bool.not_eq_true', Bool.not_eq_false', Bool.not_not, Bool.not_true, Bool.not_false] at c34; cases c34) | try rw [c34]
    try simp at c34
    have c34 : 0 ≤ g[k] ∧ g[k] ≤ (ws.length : Int) - 1 := by simpa using hb34
    have hI : InN ws.length g[k] := ⟨by omega, by omega⟩
    obtain ⟨s, hs, hse⟩ := hI.nat
    have hsl : s < l.length := by omega
    have hL := hll ws[s] (List.getElem_mem hs)
    have ea : pg ws g o k = rkL ws[s] s o[k] := by unfold pg; rw [hgk, hok, hse, prk_at hs]
    have eb : pg ws g (nowL l g) k = rkL ws[s] s l[s] := by unfold pg; rw [nowL_at c21, hgk, hse, nx_at hsl, prk_at hs]
    rw [ea, eb] at hss
    refine .rn [7,8,9] [10,11,12,13,14,15,16,17,18,19] ?_
    refine .split (t := 37) rfl (fun c37 => ?_) (fun c37 => ?_)
    ·first | cases c37 | (simp only [Bool.not_eq_true', Bool.not_eq_false', Bool.not_not, Bool.not_true, Bool.not_false] at c37; cases c37) | try rw [c37]
     try simp at c37
     have c37 : 0 < k := by simpa using hb37
     have hw4 := hw3 c37
     have hk1 : k - 1 < g.length := by omega
     have hgk1 := nx_at hk1
     have hmx : (if 0 < k - 1 then ((k - 1 : Nat) : Int) else 0) = ((k - 1 : Nat) : Int) := by split <;> omega
     refine .rn [10,11,12,13,14,15,16,17,18,19] [] ?_
     refine .done ?_
     refine .condS rfl (fun c47 => ?_) (fun c47 => ?_)
     ·try simp at c47
      have hR : rowO ws.length g o k = false := rowO_f fun h => by
       have := h.2.1
       rw [hgk, hgk1] at this
       omega
      refine .seq ?_
      refine .rn ?_
      refine .ret ?_
      refine ⟨_, _, zz2,zz2, ?_⟩
      rw [oB_row c21 hR]
     ·try simp at c47
      refine .skip ?_
      refine .seq ?_
      refine .drawn (ms := [0,0,3,0,0,24,56,127,255]) (W := [7]) (items := [.op 0, .op 1, .op 2, .op 3, .op 4, .op 5, .op 6, .op 7, .op 8]) rfl zz0 zz0 zz0 ?_
      refine .rd rfl rfl (by decide) rfl (by decide) zz1 ?_   -- 0
      refine .rd rfl rfl (by decide) rfl (by decide) zz1 ?_   -- 1
      refine .rd rfl rfl (by decide) rfl (by decide) zz1 ?_   -- 2
      refine .rd rfl rfl (by decide) rfl (by decide) zz1 ?_   -- 3
      refine .rd rfl rfl (by decide) rfl (by decide) zz1 ?_   -- 4
      refine .rd rfl rfl (by decide) rfl (by decide) zz1 ?_   -- 5
      refine .rd rfl rfl (by decide) rfl (by decide) zz1 ?_   -- 6
      refine .wr rfl rfl (by decide) (.pure rfl rfl rfl Tryz.call107 (by decide) ((by first | exact p107 g o[k] h2 | (have := p107 (o.take k) o[k] htl; rw [ints, List.map_take, hb57] at this; exact this))) (by first | rfl | simp [*]) ?_)
      rintro _ rfl
      refine .rd rfl rfl (by decide) rfl (by decide) zz1 ?_   -- 8
      refine .done ?_
      refine .seq ?_
      refine .seq ?_
      refine .regionL [0,1,2,3,4,5,6,7,8,9] rfl zz0 ?_
      refine .rn [0,1] [2,3,4,5,6,7,8,9] ?_
      refine .split (t := 57) rfl (fun c57 => ?_) (fun c57 => ?_)
      ·first | cases c57 | (simp only [Bool.not_eq_true', Bool.not_eq_false', Bool.not_not, Bool.not_true, Bool.not_false] at c57; cases c57) | try rw [c57]
       try simp at c57
       have c57 : o[k] ∈ o.take k := by simpa using hb57
       have hR : rowO ws.length g o k = false := rowO_f fun h => by
        have := h.2.2.2
        rw [hok] at this
        exact this c57
       refine .rn [2,3,4,5,6,7,8,9] [] ?_
       refine .done ?_
       refine .condT rfl ?_
       refine .seq ?_
       refine .rn ?_
       refine .ret ?_
       refine ⟨_, _, zz2,zz2, ?_⟩
       rw [oB_row c21 hR]
      ·first | cases c57 | (simp only [Bool.not_eq_true', Bool.not_eq_false', Bool.not_not, Bool.not_true, Bool.not_false] at c57; cases c57) | try rw [c57]
       try simp at c57
       have c57 : o[k] ∉ o.take k := by simpa using hb57
       refine .rn [2,3,4,5,6] [7,8,9] ?_
       refine .step rfl rfl (.pure rfl rfl rfl Tryz.call107 (by decide) ((by first | exact p107 g o[k] h2 | (have := p107 (o.take k) o[k] htl; rw [ints, List.map_take, hb57] at this; exact this))) (by first | rfl | simp [*]) ?_)
       rintro _ rfl
       refine .rn [8,9] [] ?_
       refine .done ?_
       refine .condS rfl (fun c65 => ?_) (fun c65 => ?_)
       ·try simp at c65
        have hR : rowO ws.length g o k = false := rowO_f fun h => by
         have := h.2.2.1
         rw [hok] at this
         exact c65 this
        refine .seq ?_
        refine .rn ?_
        refine .ret ?_
        refine ⟨_, _, zz2,zz2, ?_⟩
        rw [oB_row c21 hR]
       ·try simp at c65
        have hR : rowO ws.length g o k = true := rowO_iff.2 (by
         rw [hgk, hok]
         refine ⟨hI, ?_, c65, c57⟩
         first | exact .inl (by omega) | exact .inr (by rw [hgk1]; omega))
        refine .skip ?_
        refine .seq ?_
        refine .seq ?_
        refine .drawn (ms := [0,0,0,0,12,28,63,0,0,0,0,1536,3584,8191,16383]) (W := [6,13]) (items := [.op 0, .op 1, .op 2, .op 3, .op 4, .op 5, .op 7, .op 8, .op 9, .op 10, .op 11, .op 12, .op 6, .ck 12, .ck 7, .op 13, .op 14]) rfl zz0 zz0 zz0 ?_
        refine .rd rfl rfl (by decide) rfl (by decide) zz1 ?_   -- 0
        refine .rd rfl rfl (by decide) rfl (by decide) zz1 ?_   -- 1
        refine .rd rfl rfl (by decide) rfl (by decide) zz1 ?_   -- 2
        refine .rd rfl rfl (by decide) rfl (by decide) zz1 ?_   -- 3
        refine .rd rfl rfl (by decide) rfl (by decide) zz1 ?_   -- 4
        refine .rd rfl rfl (by decide) rfl (by decide) zz1 ?_   -- 5
        refine .rd rfl rfl (by decide) rfl (by decide) zz1 ?_   -- 7
        refine .rd rfl rfl (by decide) rfl (by decide) zz1 ?_   -- 8
        refine .rd rfl rfl (by decide) rfl (by decide) zz1 ?_   -- 9
        refine .rd rfl rfl (by decide) rfl (by decide) zz1 ?_   -- 10
        refine .rd rfl rfl (by decide) rfl (by decide) zz1 ?_   -- 11
        refine .rd rfl rfl (by decide) rfl (by decide) zz1 ?_   -- 12
        refine .wr rfl rfl (by decide) (.pure rfl rfl rfl Tryz.call105 (by decide) ((by first | exact p105 ws s o[k] hs hL | exact p105 ws s l[s] hs hL)) (by first | rfl | simp [*]) ?_)
        rintro _ rfl
        refine .ck rfl zz0 ?_   -- 12
        refine .ck rfl zz0 ?_   -- 7
        refine .wr rfl rfl (by decide) (.pure rfl rfl rfl Tryz.call105 (by decide) ((by first | exact p105 ws s o[k] hs hL | exact p105 ws s l[s] hs hL)) (by first | rfl | simp [*]) ?_)
        rintro _ rfl
        refine .rd rfl rfl (by decide) rfl (by decide) zz1 ?_   -- 14
        refine .done ?_
        refine .condS rfl (fun c80 => ?_) (fun c80 => ?_)
        ·try simp at c80
         refine .seq ?_
         refine .rn ?_
         refine .ret ?_
         refine ⟨_, _, zz2,zz2, ?_⟩
         refine congrArg PV.bool (Bool.eq_false_iff.2 fun h => ?_).symm
         have := pg_of h c21
         rw [ea, eb] at this
         omega
        ·try simp at c80
         refine .skip ?_
         refine .drawn (ms := [0,1,3,3,3,3,51,115,255,3,3,3,3,6147,14339,32767,65535,131071,262143]) (W := [8,15]) (items := [.op 0, .op 1, .op 2, .op 3, .op 4, .op 5, .op 6, .op 7, .op 9, .op 10, .op 11, .op 12, .op 13, .op 14, .op 8, .ck 14, .ck 9, .op 15, .op 16, .op 17, .op 18]) rfl zz0 zz0 zz0 ?_
         refine .rd rfl rfl (by decide) rfl (by decide) zz1 ?_   -- 0
         refine .rd rfl rfl (by decide) rfl (by decide) zz1 ?_   -- 1
         refine .split (t := 82) rfl (fun c82 => ?_) (fun c82 => ?_)
         ·first | cases c82 | (simp only [Bool.not_eq_true', Bool.not_eq_false', Bool.not_not, Bool.not_true, Bool.not_false] at c82; cases c82) | try rw [c82]
          try simp at c82
          refine .un rfl rfl (by decide) ?_   -- 2
          refine .un rfl rfl (by decide) ?_   -- 3
          refine .un rfl rfl (by decide) ?_   -- 4
          refine .un rfl rfl (by decide) ?_   -- 5
          refine .un rfl rfl (by decide) ?_   -- 6
          refine .un rfl rfl (by decide) ?_   -- 7
          refine .un rfl rfl (by decide) ?_   -- 9
          refine .un rfl rfl (by decide) ?_   -- 10
          refine .un rfl rfl (by decide) ?_   -- 11
          refine .un rfl rfl (by decide) ?_   -- 12
          refine .un rfl rfl (by decide) ?_   -- 13
          refine .un rfl rfl (by decide) ?_   -- 14
          refine .un rfl rfl (by decide) ?_   -- 8
          refine .ckU rfl rfl rfl ?_   -- 14
          refine .ckU rfl rfl rfl ?_   -- 9
          refine .un rfl rfl (by decide) ?_   -- 15
          refine .un rfl rfl (by decide) ?_   -- 16
          refine .rd rfl rfl (by decide) rfl (by decide) zz1 ?_   -- 17
          refine .rd rfl rfl (by decide) rfl (by decide) zz1 ?_   -- 18
          refine .done ?_
          refine .rn ?_
          refine ⟨k + 1, ⟨zz3, all_lt_succ hr hR, all_lt_succ hp (by rw [ea, eb]; omega)⟩, zz3,(.mk [] [] zz8 zz9 rfl rfl rfl)⟩
         ·first | cases c82 | (simp only [Bool.not_eq_true', Bool.not_eq_false', Bool.not_not, Bool.not_true, Bool.not_false] at c82; cases c82) | try rw [c82]
          try simp at c82
          refine .rd rfl rfl (by decide) rfl (by decide) zz1 ?_   -- 2
          refine .rd rfl rfl (by decide) rfl (by decide) zz1 ?_   -- 3
          refine .rd rfl rfl (by decide) rfl (by decide) zz1 ?_   -- 4
          refine .rd rfl rfl (by decide) rfl (by decide) zz1 ?_   -- 5
          refine .rd rfl rfl (by decide) rfl (by decide) zz1 ?_   -- 6
          refine .rd rfl rfl (by decide) rfl (by decide) zz1 ?_   -- 7
          refine .rd rfl rfl (by decide) rfl (by decide) zz1 ?_   -- 9
          refine .rd rfl rfl (by decide) rfl (by decide) zz1 ?_   -- 10
          refine .rd rfl rfl (by decide) rfl (by decide) zz1 ?_   -- 11
          refine .rd rfl rfl (by decide) rfl (by decide) zz1 ?_   -- 12
          refine .rd rfl rfl (by decide) rfl (by decide) zz1 ?_   -- 13
          refine .rd rfl rfl (by decide) rfl (by decide) zz1 ?_   -- 14
          refine .wr rfl rfl (by decide) (.pure rfl rfl rfl Tryz.call105 (by decide) ((by first | exact p105 ws s o[k] hs hL | exact p105 ws s l[s] hs hL)) (by first | rfl | simp [*]) ?_)
          rintro _ rfl
          refine .ck rfl zz0 ?_   -- 14
          refine .ck rfl zz0 ?_   -- 9
          refine .wr rfl rfl (by decide) (.pure rfl rfl rfl Tryz.call105 (by decide) ((by first | exact p105 ws s o[k] hs hL | exact p105 ws s l[s] hs hL)) (by first | rfl | simp [*]) ?_)
          rintro _ rfl
          refine .rd rfl rfl (by decide) rfl (by decide) zz1 ?_   -- 16
          refine .rd rfl rfl (by decide) rfl (by decide) zz1 ?_   -- 17
          refine .rd rfl rfl (by decide) rfl (by decide) zz1 ?_   -- 18
          refine .done ?_
          refine .rn ?_
          refine ⟨k + 1, ⟨zz3, all_lt_succ hr hR, all_lt_succ hp (by rw [ea, eb]; omega)⟩, zz3,(.mk [] [] zz8 zz9 rfl rfl rfl)⟩
    ·first | cases c37 | (simp only [Bool.not_eq_true', Bool.not_eq_false', Bool.not_not, Bool.not_true, Bool.not_false] at c37; cases c37) | try rw [c37]
     try simp at c37
     have c37 : ¬0 < k := by simpa using hb37
     refine .rn [10,11,12,13,14,15,16,17,18,19] [] ?_
     refine .done ?_
     refine .condF rfl ?_
     refine .skip ?_
     refine .seq ?_
     refine .drawn (ms := [0,0,3,0,0,24,56,127,255]) (W := [7]) (items := [.op 0, .op 1, .op 2, .op 3, .op 4, .op 5, .op 6, .op 7, .op 8]) rfl zz0 zz0 zz0 ?_
     refine .rd rfl rfl (by decide) rfl (by decide) zz1 ?_   -- 0
     refine .rd rfl rfl (by decide) rfl (by decide) zz1 ?_   -- 1
     refine .rd rfl rfl (by decide) rfl (by decide) zz1 ?_   -- 2
     refine .rd rfl rfl (by decide) rfl (by decide) zz1 ?_   -- 3
     refine .rd rfl rfl (by decide) rfl (by decide) zz1 ?_   -- 4
     refine .rd rfl rfl (by decide) rfl (by decide) zz1 ?_   -- 5
     refine .rd rfl rfl (by decide) rfl (by decide) zz1 ?_   -- 6
     refine .wr rfl rfl (by decide) (.pure rfl rfl rfl Tryz.call107 (by decide) ((by first | exact p107 g o[k] h2 | (have := p107 (o.take k) o[k] htl; rw [ints, List.map_take, hb57] at this; exact this))) (by first | rfl | simp [*]) ?_)
     rintro _ rfl
     refine .rd rfl rfl (by decide) rfl (by decide) zz1 ?_   -- 8
     refine .done ?_
     refine .seq ?_
     refine .seq ?_
     refine .regionL [0,1,2,3,4,5,6,7,8,9] rfl zz0 ?_
     refine .rn [0,1] [2,3,4,5,6,7,8,9] ?_
     refine .split (t := 57) rfl (fun c57 => ?_) (fun c57 => ?_)
     ·first | cases c57 | (simp only [Bool.not_eq_true', Bool.not_eq_false', Bool.not_not, Bool.not_true, Bool.not_false] at c57; cases c57) | try rw [c57]
      try simp at c57
      have c57 : o[k] ∈ o.take k := by simpa using hb57
      have hR : rowO ws.length g o k = false := rowO_f fun h => by
       have := h.2.2.2
       rw [hok] at this
       exact this c57
      refine .rn [2,3,4,5,6,7,8,9] [] ?_
      refine .done ?_
      refine .condT rfl ?_
      refine .seq ?_
      refine .rn ?_
      refine .ret ?_
      refine ⟨_, _, zz2,zz2, ?_⟩
      rw [oB_row c21 hR]
     ·first | cases c57 | (simp only [Bool.not_eq_true', Bool.not_eq_false', Bool.not_not, Bool.not_true, Bool.not_false] at c57; cases c57) | try rw [c57]
      try simp at c57
      have c57 : o[k] ∉ o.take k := by simpa using hb57
      refine .rn [2,3,4,5,6] [7,8,9] ?_
      refine .step rfl rfl (.pure rfl rfl rfl Tryz.call107 (by decide) ((by first | exact p107 g o[k] h2 | (have := p107 (o.take k) o[k] htl; rw [ints, List.map_take, hb57] at this; exact this))) (by first | rfl | simp [*]) ?_)
      rintro _ rfl
      refine .rn [8,9] [] ?_
      refine .done ?_
      refine .condS rfl (fun c65 => ?_) (fun c65 => ?_)
      ·try simp at c65
       have hR : rowO ws.length g o k = false := rowO_f fun h => by
        have := h.2.2.1
        rw [hok] at this
        exact c65 this
       refine .seq ?_
       refine .rn ?_
       refine .ret ?_
       refine ⟨_, _, zz2,zz2, ?_⟩
       rw [oB_row c21 hR]
      ·try simp at c65
       have hR : rowO ws.length g o k = true := rowO_iff.2 (by
        rw [hgk, hok]
        refine ⟨hI, ?_, c65, c57⟩
        first | exact .inl (by omega) | exact .inr (by rw [hgk1]; omega))
       refine .skip ?_
       refine .seq ?_
       refine .seq ?_
       refine .drawn (ms := [0,0,0,0,12,28,63,0,0,0,0,1536,3584,8191,16383]) (W := [6,13]) (items := [.op 0, .op 1, .op 2, .op 3, .op 4, .op 5, .op 7, .op 8, .op 9, .op 10, .op 11, .op 12, .op 6, .ck 12, .ck 7, .op 13, .op 14]) rfl zz0 zz0 zz0 ?_
       refine .rd rfl rfl (by decide) rfl (by decide) zz1 ?_   -- 0
       refine .rd rfl rfl (by decide) rfl (by decide) zz1 ?_   -- 1
       refine .rd rfl rfl (by decide) rfl (by decide) zz1 ?_   -- 2
       refine .rd rfl rfl (by decide) rfl (by decide) zz1 ?_   -- 3
       refine .rd rfl rfl (by decide) rfl (by decide) zz1 ?_   -- 4
       refine .rd rfl rfl (by decide) rfl (by decide) zz1 ?_   -- 5
       refine .rd rfl rfl (by decide) rfl (by decide) zz1 ?_   -- 7
       refine .rd rfl rfl (by decide) rfl (by decide) zz1 ?_   -- 8
       refine .rd rfl rfl (by decide) rfl (by decide) zz1 ?_   -- 9
       refine .rd rfl rfl (by decide) rfl (by decide) zz1 ?_   -- 10
       refine .rd rfl rfl (by decide) rfl (by decide) zz1 ?_   -- 11
       refine .rd rfl rfl (by decide) rfl (by decide) zz1 ?_   -- 12
       refine .wr rfl rfl (by decide) (.pure rfl rfl rfl Tryz.call105 (by decide) ((by first | exact p105 ws s o[k] hs hL | exact p105 ws s l[s] hs hL)) (by first | rfl | simp [*]) ?_)
       rintro _ rfl
       refine .ck rfl zz0 ?_   -- 12
       refine .ck rfl zz0 ?_   -- 7
       refine .wr rfl rfl (by decide) (.pure rfl rfl rfl Tryz.call105 (by decide) ((by first | exact p105 ws s o[k] hs hL | exact p105 ws s l[s] hs hL)) (by first | rfl | simp [*]) ?_)
       rintro _ rfl
       refine .rd rfl rfl (by decide) rfl (by decide) zz1 ?_   -- 14
       refine .done ?_
       refine .condS rfl (fun c80 => ?_) (fun c80 => ?_)
       ·try simp at c80
        refine .seq ?_
        refine .rn ?_
        refine .ret ?_
        refine ⟨_, _, zz2,zz2, ?_⟩
        refine congrArg PV.bool (Bool.eq_false_iff.2 fun h => ?_).symm
        have := pg_of h c21
        rw [ea, eb] at this
        omega
       ·try simp at c80
        refine .skip ?_
        refine .drawn (ms := [0,1,3,3,3,3,51,115,255,3,3,3,3,6147,14339,32767,65535,131071,262143]) (W := [8,15]) (items := [.op 0, .op 1, .op 2, .op 3, .op 4, .op 5, .op 6, .op 7, .op 9, .op 10, .op 11, .op 12, .op 13, .op 14, .op 8, .ck 14, .ck 9, .op 15, .op 16, .op 17, .op 18]) rfl zz0 zz0 zz0 ?_
        refine .rd rfl rfl (by decide) rfl (by decide) zz1 ?_   -- 0
        refine .rd rfl rfl (by decide) rfl (by decide) zz1 ?_   -- 1
        refine .split (t := 82) rfl (fun c82 => ?_) (fun c82 => ?_)
        ·first | cases c82 | (simp only [Bool.not_eq_true', Bool.not_eq_false', Bool.not_not, Bool.not_true, Bool.not_false] at c82; cases c82) | try rw [c82]
         try simp at c82
         refine .un rfl rfl (by decide) ?_   -- 2
         refine .un rfl rfl (by decide) ?_   -- 3
         refine .un rfl rfl (by decide) ?_   -- 4
         refine .un rfl rfl (by decide) ?_   -- 5
         refine .un rfl rfl (by decide) ?_   -- 6
         refine .un rfl rfl (by decide) ?_   -- 7
         refine .un rfl rfl (by decide) ?_   -- 9
         refine .un rfl rfl (by decide) ?_   -- 10
         refine .un rfl rfl (by decide) ?_   -- 11
         refine .un rfl rfl (by decide) ?_   -- 12
         refine .un rfl rfl (by decide) ?_   -- 13
         refine .un rfl rfl (by decide) ?_   -- 14
         refine .un rfl rfl (by decide) ?_   -- 8
         refine .ckU rfl rfl rfl ?_   -- 14
         refine .ckU rfl rfl rfl ?_   -- 9
         refine .un rfl rfl (by decide) ?_   -- 15
         refine .un rfl rfl (by decide) ?_   -- 16
         refine .rd rfl rfl (by decide) rfl (by decide) zz1 ?_   -- 17
         refine .rd rfl rfl (by decide) rfl (by decide) zz1 ?_   -- 18
         refine .done ?_
         refine .rn ?_
         refine ⟨k + 1, ⟨zz3, all_lt_succ hr hR, all_lt_succ hp (by rw [ea, eb]; omega)⟩, zz3,(.mk [] [] zz8 zz9 rfl rfl rfl)⟩
        ·first | cases c82 | (simp only [Bool.not_eq_true', Bool.not_eq_false', Bool.not_not, Bool.not_true, Bool.not_false] at c82; cases c82) | try rw [c82]
         try simp at c82
         refine .rd rfl rfl (by decide) rfl (by decide) zz1 ?_   -- 2
         refine .rd rfl rfl (by decide) rfl (by decide) zz1 ?_   -- 3
         refine .rd rfl rfl (by decide) rfl (by decide) zz1 ?_   -- 4
         refine .rd rfl rfl (by decide) rfl (by decide) zz1 ?_   -- 5
         refine .rd rfl rfl (by decide) rfl (by decide) zz1 ?_   -- 6
         refine .rd rfl rfl (by decide) rfl (by decide) zz1 ?_   -- 7
         refine .rd rfl rfl (by decide) rfl (by decide) zz1 ?_   -- 9
         refine .rd rfl rfl (by decide) rfl (by decide) zz1 ?_   -- 10
         refine .rd rfl rfl (by decide) rfl (by decide) zz1 ?_   -- 11
         refine .rd rfl rfl (by decide) rfl (by decide) zz1 ?_   -- 12
         refine .rd rfl rfl (by decide) rfl (by decide) zz1 ?_   -- 13
         refine .rd rfl rfl (by decide) rfl (by decide) zz1 ?_   -- 14
         refine .wr rfl rfl (by decide) (.pure rfl rfl rfl Tryz.call105 (by decide) ((by first | exact p105 ws s o[k] hs hL | exact p105 ws s l[s] hs hL)) (by first | rfl | simp [*]) ?_)
         rintro _ rfl
         refine .ck rfl zz0 ?_   -- 14
         refine .ck rfl zz0 ?_   -- 9
         refine .wr rfl rfl (by decide) (.pure rfl rfl rfl Tryz.call105 (by decide) ((by first | exact p105 ws s o[k] hs hL | exact p105 ws s l[s] hs hL)) (by first | rfl | simp [*]) ?_)
         rintro _ rfl
         refine .rd rfl rfl (by decide) rfl (by decide) zz1 ?_   -- 16
         refine .rd rfl rfl (by decide) rfl (by decide) zz1 ?_   -- 17
         refine .rd rfl rfl (by decide) rfl (by decide) zz1 ?_   -- 18
         refine .done ?_
         refine .rn ?_
         refine ⟨k + 1, ⟨zz3, all_lt_succ hr hR, all_lt_succ hp (by rw [ea, eb]; omega)⟩, zz3,(.mk [] [] zz8 zz9 rfl rfl rfl)⟩
  ·try simp at c21
   have hkn : k = g.length := by omega
   refine .exit ?_
   refine .seq ?_
   refine .rn ?_
   refine .ret ?_
   refine ⟨_, _, zz2,zz2, ?_⟩
   subst hkn
   rw [oB_bet hog hr, betG_yes hp, hsg]
theorem p64 (ws : List (List Int)) (l g o : List Int) (hl : ws.length < 4294967296) (hll : ∀ l ∈ ws, l.length < 4294967296) (h1 : l.length < 4294967296) (h2 : g.length < 4294967296) (h3 : o.length < 4294967296) : VPure Tryz.prog 64 [encM ws, ints l, ints g, ints o] fun r => r = .int .i64 (oE ws l g o) := by
 refine .of_body Tryz.func64 rfl rfl ?_
 refine .seq ?_
 refine .rn ?_
 refine .seq ?_
 refine .regionL [0,1,2,3] rfl zz0 ?_
 refine .rn [0,1] [2,3] ?_
 refine .step rfl rfl (.pure rfl rfl rfl Tryz.call65 (by decide) (p65 ws l hl hll h1) (by first | rfl | simp [*]) ?_)
 rintro _ rfl
 refine .rn [3] [] ?_
 refine .done ?_
 refine .seq ?_
 refine .seq ?_
 refine .rn ?_
 refine .condS rfl (fun c15 => ?_) (fun c15 => ?_)
 ·try simp at c15
  refine .seq ?_
  refine .rn ?_
  refine .ret ?_
  refine ⟨_, _, zz2,zz2, ?_⟩
  rw [oE_err c15]
 ·try simp at c15
  refine .skip ?_
  refine .seq ?_
  refine .regionL [0,1,2,3,4,5] rfl zz0 ?_
  refine .rn [0,1,2,3] [4,5] ?_
  refine .step rfl rfl (.pure rfl rfl rfl Tryz.call132 (by decide) (p132 ws l g o hl hll h1 h2 h3 (gE_zero c15).2) (by first | rfl | simp [*]) ?_)
  rintro _ rfl
  refine .rn [5] [] ?_
  refine .done ?_
  refine .seq ?_
  refine .seq ?_
  refine .rn ?_
  refine .condS rfl (fun c23 => ?_) (fun c23 => ?_)
  ·try simp at c23
   refine .seq ?_
   refine .rn ?_
   refine .ret ?_
   refine ⟨_, _, zz2,zz2, ?_⟩
   rw [oE_no c15 c23]
  ·try simp at c23
   refine .skip ?_
   refine .seq ?_
   refine .rn ?_
   refine .ret ?_
   refine ⟨_, _, zz2,zz2, ?_⟩
   rw [oE_yes c15 c23]
end Go.Am.Hi
end

section
namespace Go.Am.Hi
open Go Go.Am Go.Proofs
set_option maxRecDepth 100000
set_option maxHeartbeats 4000000
set_option linter.unusedSimpArgs false
set_option linter.unusedVariables false
attribute [local simp] vrun vwanted vyielded vop vopA vputAll VHeap.back hidI hidF backL bm Nat.testBit_eq_decide_div_mod_eq veval vevals vparts vO vbuiltin vlen vappend velems vcopy vmakeSlice vbuildSlice valloc vbox vmakeMap vload vpartT vpart vstore vfieldAddr vfield vindexAddr vindex vextract vslice vsliceZ vbounds vbnd zeroO vidx vlookup vmget vmapUpdate vdelete vclear vnilq vnilp vnils vbin vsc vsc1 vscs vscl abinOp aint ashift aunOp aconvert amaxs amax2 pvcV pvc pvcs tput tget vargs VHeap.get VHeap.alloc VHeap.put VHeap.drop VHeap.empty vlook vput vdrop psplice pfill preps chunk List.range List.range.loop vresults vresult vresultV frz frzL PV.isF PV.allF PV.scal PV.allS retP subT allFT PV.one PV.ids PV.idsL dropL beq_eq ble_dec blt_dec
theorem same_stepL' {a b : List (List Int)} {i : Nat} (ha : i < a.length) (hb : i < b.length) : decide (a.drop i = b.drop i) = (decide (a[i] = b[i]) && decide (a.drop (i + 1) = b.drop (i + 1))) := by
 rw [List.drop_eq_getElem_cons ha, List.drop_eq_getElem_cons hb, Bool.eq_iff_iff]
 simp only [List.cons.injEq, Bool.and_eq_true, decide_eq_true_eq]
theorem p50n (a b : List (List Int)) (ha : a.length < 4294967296) (hb : b.length < 4294967296) (hla : ∀ l ∈ a, l.length < 4294967296) (hlb : ∀ l ∈ b, l.length < 4294967296) : VPure Tryz.prog 50 [.vec (a.map ints), .vec (b.map ints)] fun r => r = .bool (decide (a = b)) := by
 refine .of_body Tryz.func50 rfl rfl ?_
 refine .seq ?_
 refine .rn ?_
 refine .seq ?_
 refine .seq ?_
 refine .rn ?_
 refine .condS rfl (fun c11 => ?_) (fun c11 => ?_)
 ·try simp at c11
  refine .seq ?_
  refine .rn ?_
  refine .ret ?_
  refine ⟨_, _, zz2,zz2, ?_⟩
  rw [decide_eq_false fun h => c11 (by rw [h])]
 ·try simp at c11
  refine .skip ?_
  refine .seq ?_
  refine .seq ?_
  refine .rn ?_
  refine .block ?_
  refine .loopS (fun s : Nat => ([(0, .vec (a.map ints)),(1, .vec (b.map ints)),(5, .int .i64 s)], VHeap.empty)) (fun s => s ≤ a.length ∧ decide (a.drop s = b.drop s) = decide (a = b)) (fun s => a.length - s) 0 ⟨by simp, by simp⟩ (.pure (by simp [*]) (by simp)) ?_
  rintro i ⟨hi, hr⟩
  simp only at hi hr ⊢
  refine .seq ?_
  refine .seq ?_
  refine .rn ?_
  refine .condS rfl (fun c15 => ?_) (fun c15 => ?_)
  ·try simp at c15
   have hw2 : IntKind.i64.wrap ((i : Int) + 1) = (i : Int) + 1 := wrap64 (by omega) (by omega)
   have hib : i < b.length := by omega
   have hia : i < a.length := by omega
   rw [same_stepL' hia hib] at hr
   have h1 := hla a[i] (List.getElem_mem hia)
   have h2 := hlb b[i] (List.getElem_mem hib)
   refine .skip ?_
   refine .seq ?_
   refine .block ?_
   refine .seq ?_
   refine .drawn (ms := [0,0,3,7,0,0,48,112,255,511]) (W := [8]) (items := [.op 0, .op 1, .op 2, .op 3, .op 4, .op 5, .op 6, .op 7, .op 8, .op 9]) rfl zz0 zz0 zz0 ?_
   refine .rd rfl rfl (by decide) rfl (by decide) zz1 ?_   -- 0
   refine .rd rfl rfl (by decide) rfl (by decide) zz1 ?_   -- 1
   refine .rd rfl rfl (by decide) rfl (by decide) zz1 ?_   -- 2
   refine .rd rfl rfl (by decide) rfl (by decide) zz1 ?_   -- 3
   refine .rd rfl rfl (by decide) rfl (by decide) zz1 ?_   -- 4
   refine .rd rfl rfl (by decide) rfl (by decide) zz1 ?_   -- 5
   refine .rd rfl rfl (by decide) rfl (by decide) zz1 ?_   -- 6
   refine .rd rfl rfl (by decide) rfl (by decide) zz1 ?_   -- 7
   refine .wr rfl rfl (by decide) (.pure rfl rfl rfl Tryz.call27 (by decide) (p27 a[i] b[i] h1 h2) (by first | rfl | simp [*]) ?_)
   rintro _ rfl
   refine .rd rfl rfl (by decide) rfl (by decide) zz1 ?_   -- 9
   refine .done ?_
   refine .seq ?_
   refine .rn ?_
   refine .condS rfl (fun c28 => ?_) (fun c28 => ?_)
   ·try simp at c28
    refine .seq ?_
    refine .rn ?_
    refine .ret ?_
    refine ⟨_, _, zz2,zz2, ?_⟩
    rw [← hr]; simp [c28]
   ·try simp at c28
    refine .skip ?_
    refine .rn ?_
    refine ⟨i + 1, ⟨zz3, ?_⟩, zz3, .pure (by simp [*]) (by simp)⟩
    rw [← hr, c28]; simp
  ·try simp at c15
   have : i = a.length := by omega
   refine .exit ?_
   refine .seq ?_
   refine .rn ?_
   refine .ret ?_
   refine ⟨_, _, zz2,zz2, ?_⟩
   rw [← hr, this, List.drop_length, List.drop_eq_nil_of_le (by omega)]; rfl
end Go.Am.Hi
end
