/-
 What is used in the proof of a statement (part HjC); no condition.
-/
import Derived.Test.YtmgglkdilpglgaaGreatHiZ
import Derived.Test.YtmgglkdilpglgaaGreatVm2
import Derived.Test.YtmgglkdilpglgaaGreatHiT
import Derived.Test.YtmgglkdilpglgaaGreatHjB
import Derived.Test.YtmgglkdilpglgaaGreatHiS
set_option linter.all false
section
namespace Go.Am.Hi
open Go Go.Am Go.Proofs
set_option maxRecDepth 100000
set_option maxHeartbeats 4000000
set_option linter.unusedSimpArgs false
set_option linter.unusedVariables false
attribute [local simp] vrun vwanted vyielded vop vopA vputAll VHeap.back hidI hidF backL bm Nat.testBit_eq_decide_div_mod_eq veval vevals vparts vO vbuiltin vlen vappend velems vcopy vmakeSlice vbuildSlice valloc vbox vmakeMap vload vpartT vpart vstore vfieldAddr vfield vindexAddr vindex vextract vslice vsliceZ vbounds vbnd zeroO vidx vlookup vmget vmapUpdate vdelete vclear vnilq vnilp vnils vbin vsc vsc1 vscs vscl abinOp aint ashift aunOp aconvert amaxs amax2 pvcV pvc pvcs tput tget vargs VHeap.get VHeap.alloc VHeap.put VHeap.drop VHeap.empty vlook vput vdrop psplice pfill preps chunk List.range List.range.loop vresults vresult vresultV frz frzL PV.isF PV.allF PV.scal PV.allS retP subT allFT PV.one PV.ids PV.idsL dropL beq_eq ble_dec blt_dec
noncomputable def mkG (ws : List (List Int)) : List Int := if mkE ws = 0 then madeL ws else []
def MkR (ws : List (List Int)) (R : List Int) : Prop := (mkE ws = 0 → AccL ws (mkG ws) R) ∧ (¬mkE ws = 0 → R = [])
theorem mkG_ok {ws : List (List Int)} (h : mkE ws = 0) {G : List Int} (hg : AccG ws G) : mkG ws = G := by
 unfold mkG; rw [if_pos h]; exact madeL_of (mkt_of h) hg
theorem mkG_err {ws : List (List Int)} (h : ¬mkE ws = 0) : mkG ws = [] := by unfold mkG; rw [if_neg h]
theorem frz_own_agg (vh : VHeap) (i : Nat) (G : List Int) (n : Nat) (e : Int) (hG : G.length = n) (h1 : vh.get i = some (.arr false 1 (G.map (PV.int .i64)))) : frz vh (.agg [.own i 0 n n, .int .i64 e]) = some (.agg [ints G, .int .i64 e]) := by
 have e1 := frz_own_int vh i n G h1
 rw [hG] at e1
 simp only [frz] at e1
 simp only [frz, frzL]
 rw [e1]; rfl
def bR (ws : List (List Int)) (left : List Int) (x : Int) : Int := bstR (ws.getD x.toNat []) x left
theorem bR_at {ws : List (List Int)} {left : List Int} {s : Nat} (hs : s < ws.length) : bR ws left s = bstR ws[s] s left := by
 unfold bR; rw [Int.toNat_natCast]; simp [hs]
theorem bR_in {ws : List (List Int)} {left : List Int} {x : Int} (h : x ∈ left) : bR ws left x ∈ left := bstR_in h
theorem bR_le {ws : List (List Int)} {left : List Int} {x y : Int} (h : y ∈ left) : prk ws x (bR ws left x) ≤ prk ws x y := bstR_le h
def itL (b : Int → Int) (a : Int) (k : Nat) : List Int := (List.range k).map fun i => itr b i a
theorem itL_len (b : Int → Int) (a : Int) (k : Nat) : (itL b a k).length = k := by unfold itL; rw [List.length_map, List.length_range]
theorem itL_succ (b : Int → Int) (a : Int) (k : Nat) : itL b a (k + 1) = itL b a k ++ [itr b k a] := by unfold itL; rw [List.range_succ, List.map_append]; rfl
theorem itL_mem {b : Int → Int} {a : Int} {k : Nat} {x : Int} : x ∈ itL b a k ↔ ∃ i, i < k ∧ itr b i a = x := by
 unfold itL; rw [List.mem_map]; simp [-List.range, -List.range.loop]
theorem itL_at {b : Int → Int} {a : Int} {k i : Nat} (h : i < (itL b a k).length) : (itL b a k)[i] = itr b i a := by simp only [itL, List.getElem_map, List.getElem_range]
theorem itr_in {b : Int → Int} {l : List Int} (hb : ∀ x ∈ l, b x ∈ l) {a : Int} (ha : a ∈ l) : ∀ k, itr b k a ∈ l
 | 0 => ha
 | k + 1 => by rw [itr_succ]; exact hb _ (itr_in hb ha k)
theorem itL_le {b : Int → Int} {l : List Int} (hb : ∀ x ∈ l, b x ∈ l) {a : Int} (ha : a ∈ l) {k : Nat} (hn : (itL b a k).Nodup) : k ≤ l.length := by
 have := hn.length_le_of_subset (l₂ := l) fun x hx => by
  obtain ⟨i, _, rfl⟩ := itL_mem.1 hx
  exact itr_in hb ha i
 rwa [itL_len] at this
structure CycP (b : Int → Int) (left C : List Int) : Prop where
  pos : 0 < C.length
  le : C.length ≤ left.length
  sub : ∀ x ∈ C, x ∈ left
  to : ∀ x ∈ C, b x ∈ C
  back : ∀ x ∈ C, Back b C.length x
theorem cyc_of {b : Int → Int} {l : List Int} (hb : ∀ x ∈ l, b x ∈ l) {a : Int} (ha : a ∈ l) {k j : Nat} (hj : j < k) (hk : k ≤ l.length) (he : itr b j a = itr b k a) : CycP b l ((itL b a k).drop j) := by
 have hlen : ((itL b a k).drop j).length = k - j := by rw [List.length_drop, itL_len]
 have hmem : ∀ x, x ∈ (itL b a k).drop j ↔ ∃ i, i < k - j ∧ itr b (j + i) a = x := fun x => by
  rw [List.mem_iff_getElem]
  constructor
  ·rintro ⟨i, hi, rfl⟩
   rw [hlen] at hi
   exact ⟨i, hi, by rw [List.getElem_drop, itL_at]⟩
  ·rintro ⟨i, hi, rfl⟩
   exact ⟨i, by rw [hlen]; exact hi, by rw [List.getElem_drop, itL_at]⟩
 have hcyc : ∀ i, itr b (k - j) (itr b (j + i) a) = itr b (j + i) a := fun i => by
  rw [← itr_add, show j + i + (k - j) = k + i by omega, itr_add, ← he, ← itr_add]
 refine ⟨by omega, by omega, fun x hx => ?_, fun x hx => ?_, fun x hx => ?_⟩
 ·obtain ⟨i, _, rfl⟩ := (hmem x).1 hx
  exact itr_in hb ha _
 ·obtain ⟨i, hi, rfl⟩ := (hmem x).1 hx
  rw [← itr_succ b _ a]
  by_cases h : i + 1 < k - j
  ·exact (hmem _).2 ⟨i + 1, h, rfl⟩
  ·exact (hmem _).2 ⟨0, by omega, by rw [show j + i + 1 = k by omega, Nat.add_zero, he]⟩
 ·obtain ⟨i, _, rfl⟩ := (hmem x).1 hx
  exact ⟨k - j, by omega, by rw [hlen]; exact Nat.le_refl _, hcyc i⟩
theorem p101 (ws : List (List Int)) (a : Int) (left : List Int) (hll : ∀ l ∈ ws, l.length < 4294967296) (h2 : left.length < 4294967296) (hin : ∀ x ∈ left, InN ws.length x) (ha : a ∈ left) : VPure Tryz.prog 101 [encM ws, .int .i64 a, ints left] fun r => ∃ C, r = ints C ∧ CycP (bR ws left) left C := by
 obtain ⟨b, hb⟩ : ∃ b, bR ws left = b := ⟨_, rfl⟩
 have hbi : ∀ x ∈ left, b x ∈ left := fun x hx => by rw [← hb]; exact bR_in hx
 refine .of_body Tryz.func101 rfl rfl ?_
 refine .seq ?_
 refine .rn ?_
 refine .seq ?_
 refine .rn ?_
 refine .seq ?_
 refine .rn ?_
 refine .seq ?_
 refine .block ?_
 refine .loopS (fun k : Nat => ([(2, ints left),(3, .vp [.vec (ws.map ints)]),(7, .grow 0 k true),(8, .int .i64 (itr b k a))], ⟨1,[(0, .grow 1 ((itL b a k).map (.int .i64)))]⟩)) (fun k => (itL b a k).Nodup) (fun k => left.length + 1 - k) 0 List.nodup_nil (.mk [0] [] zz14 zz15 rfl rfl rfl) ?_
 rintro k hk
 simp only at hk ⊢
 have hkl := itL_le hbi ha hk
 have hlen := itL_len b a k
 have hm := itr_in hbi ha k
 obtain ⟨s, hs, hse⟩ := (hin _ hm).nat
 obtain ⟨L, hL⟩ : ∃ L, itL b a k = L := ⟨_, rfl⟩
 have hS : itL b a (k + 1) = L ++ [itr b k a] := by rw [itL_succ, hL]
 have hI : itr b (k + 1) a = bstR ws[s] s left := by rw [itr_succ, hse, ← hb, bR_at hs]
 rw [hL] at hk hlen ⊢
 have hLl := hll ws[s] (List.getElem_mem hs)
 have hk4 : k ≤ 4294967295 := by omega
 refine .seq ?_
 refine .seq ?_
 refine .regionL [0,1,2,3] rfl zz0 ?_
 refine .rn [0,1] [2,3] ?_
 refine .step rfl rfl (.borrow rfl rfl rfl Tryz.call107 (by decide) (by first | (simp <;> rfl) | (simp [*] <;> rfl) | (simp [*]; done)) (p107 L (itr b k a) (by omega)) (by rintro _ rfl <;> first | (simp; done) | rfl) ?_)
 rintro _ rfl
 refine .rn [3] [] ?_
 refine .done ?_
 refine .condS rfl (fun c13 => ?_) (fun c13 => ?_)
 ·try simp at c13
  have hN : (itL b a (k + 1)).Nodup := by
   rw [hS, hse, List.nodup_append]
   exact ⟨hk, by simp, fun x hx y hy he => by rw [List.mem_singleton] at hy; rw [he, hy] at hx; exact c13 hx⟩
  have hle2 := itL_le hbi ha hN
  refine .skip ?_
  refine .block ?_
  refine .seq ?_
  refine .rn ?_
  refine .regionL [0,1,2,3,4] rfl zz0 ?_
  refine .rn [0,1,2] [3,4] ?_
  refine .step rfl rfl (.pure rfl rfl rfl Tryz.call102 (by decide) (p102 ws s left hs hLl h2) (by first | rfl | simp [*]) ?_)
  rintro _ rfl
  refine .rn [4] [] ?_
  refine .done ?_
  refine ⟨k + 1, hN, by omega, (.mk [] [(0,2)] zz8 zz9 rfl rfl rfl)⟩
 ·try simp at c13
  obtain ⟨j0, hj0, hje⟩ := itL_mem.1 (show (s : Int) ∈ itL b a k by rw [hL]; exact c13)
  refine .exit ?_
  refine .seq ?_
  refine .block ?_
  refine .loopS (fun j : Nat => ([(7, ints (L.drop j)),(8, .int .i64 s)], VHeap.empty)) (fun j => j ≤ j0 ∧ ∀ i, i < j → ¬itr b i a = s) (fun j => k - j) 0 ⟨Nat.zero_le _, fun i hi => by omega⟩ (.mk [0] [] zz16 zz9 rfl rfl rfl) ?_
  rintro j ⟨hj, hno⟩
  simp only at hj hno ⊢
  have hjL : j < L.length := by omega
  have hdc := List.drop_eq_getElem_cons hjL
  obtain ⟨D, hD⟩ : ∃ D, L.drop (j + 1) = D := ⟨_, rfl⟩
  have hLj : L[j] = itr b j a := by simp only [← hL, itL_at]
  rw [hD] at hdc
  rw [hdc]
  have hD1 : (1 : Int) ≤ (D.length : Int) + 1 := by omega
  have hA : allSz 1 (PV.int .i64 (itr b j a) :: D.map (PV.int .i64)) = true := by simp [allSz, PV.cells]
  refine .seq ?_
  refine .seq ?_
  refine .rn ?_
  refine .condS rfl (fun c26 => ?_) (fun c26 => ?_)
  ·try simp at c26
   have hjs : ¬itr b j a = s := by simpa using c26
   refine .skip ?_
   refine .block ?_
   refine .rn ?_
   refine ⟨j + 1, ⟨?_, fun i hi => ?_⟩, by omega, (.mk [] [] zz8 zz9 rfl rfl rfl)⟩
   ·rcases Nat.lt_or_ge j j0 with h | h
    ·exact h
    ·exact absurd (by rw [show j = j0 by omega]; exact hje) hjs
   ·by_cases h : i = j
    ·rw [h]; exact hjs
    ·exact hno i (by omega)
  ·try simp at c26
   have hjs : itr b j a = s := by simpa using c26
   refine .exit ?_
   refine .seq ?_
   refine .rn ?_
   refine .ret ?_
   refine ⟨_, _, zz2,zz2, ?_⟩
   refine ⟨itr b j a :: D, by rw [hjs], ?_⟩
   have hcc : CycP b left (L.drop j) := by
    rw [← hL]
    exact cyc_of hbi ha (show j < k by omega) hkl (by rw [hse]; exact hjs)
   rw [hdc, hLj] at hcc
   rw [hb]
   exact hcc
def MdI (ws : List (List Int)) (out left : List Int) : Prop := out.length = ws.length ∧ (∀ x ∈ left, InN ws.length x) ∧ left.length ≤ ws.length ∧ ∃ (R : Int → Int) (r : Int),1 ≤ r ∧ Rnd ws (fun i => i ∈ left) (nx out) R r
theorem MdI.start (ws : List (List Int)) : MdI ws (List.replicate ws.length 0) (idn ws.length) := by
 refine ⟨by simp, idn_in, by rw [idn_len]; exact Nat.le_refl _, fun _ => 0,1, Int.le_refl _, Rnd.start ws _ (fun i hi => ?_) _ _⟩
 obtain ⟨k, hk, rfl⟩ := hi.nat
 exact List.mem_map.2 ⟨k, List.mem_range.2 hk, rfl⟩
def lfC (left C : List Int) (i : Nat) : List Int := left.filter fun x => !decide (x ∈ C.take i)
theorem mem_take_succ {l : List Int} {k : Nat} (h : k < l.length) {x : Int} : x ∈ l.take (k + 1) ↔ x ∈ l.take k ∨ x = l[k] := by rw [List.take_succ_eq_append_getElem h, List.mem_append, List.mem_singleton]
theorem lfC_zero (left C : List Int) : lfC left C 0 = left := by unfold lfC; simp
theorem lfC_succ {left C : List Int} {i : Nat} (h : i < C.length) : (lfC left C i).filter (fun x => !decide (x = C[i])) = lfC left C (i + 1) := by
 unfold lfC
 rw [List.filter_filter]
 refine List.filter_congr fun x _ => ?_
 have hk := mem_take_succ h (x := x)
 have he : decide (x ∈ C.take (i + 1)) = (decide (x ∈ C.take i) || decide (x = C[i])) := by
  rw [Bool.eq_iff_iff]
  simp only [decide_eq_true_eq, Bool.or_eq_true]
  exact hk
 rw [he]
 cases decide (x ∈ C.take i) <;> cases decide (x = C[i]) <;> rfl
theorem lfC_mem {left C : List Int} {x : Int} : x ∈ lfC left C C.length ↔ x ∈ left ∧ x ∉ C := by
 unfold lfC; rw [List.take_length, List.mem_filter]; simp
theorem MdI.step {ws : List (List Int)} (hm : Mkt ws) {out left C out' : List Int} (h : MdI ws out left) (hC : CycP (bR ws left) left C) (hl : out'.length = ws.length) (ho : ∀ j : Nat, j < ws.length → nx out' j = if (j : Int) ∈ C then bR ws left j else nx out j) : MdI ws out' (lfC left C C.length) ∧ (lfC left C C.length).length < left.length := by
 obtain ⟨h1, h2, h3, R, r, h4, h5⟩ := h
 have hpos := hC.pos
 have hlt : (lfC left C C.length).length < left.length := by
  unfold lfC
  rw [List.take_length, List.length_filter_lt_length_iff_exists]
  exact ⟨C[0], hC.sub _ (List.getElem_mem hpos), by simp⟩
 refine ⟨⟨hl, fun x hx => h2 x (lfC_mem.1 hx).1, by omega, fun i => if i ∈ C then r else R i, r + 1, by omega, ?_⟩, hlt⟩
 refine h5.step h4 (C := fun i => i ∈ C) (b := bR ws left) (fun i hi => ⟨h2 i (hC.sub i hi), hC.sub i hi⟩) (fun i hi => hC.to i hi) (fun i j hi hj he => (hC.back i hi).inj (hC.back j hj) he) (fun i k hi hk hkl => bR_le hkl) (fun i hi => ?_) (fun i hi hn => ?_) (fun i hi => if_pos hi) (fun i hi hn => if_neg hn) (fun i => lfC_mem)
 ·obtain ⟨j, hj, rfl⟩ := (h2 i (hC.sub i hi)).nat
  rw [ho j hj, if_pos hi]
 ·obtain ⟨j, hj, rfl⟩ := hi.nat
  rw [ho j hj, if_neg hn]
theorem MdI.done {ws : List (List Int)} {out left : List Int} (h : MdI ws out left) (h0 : left.length = 0) : AccG ws out := by
 obtain ⟨h1, _, _, R, r, _, h5⟩ := h
 refine ⟨h1, R, h5.acc fun i _ hi => ?_⟩
 rw [List.eq_nil_of_length_eq_zero h0] at hi; cases hi
theorem p37s (ws : List (List Int)) (hl : ws.length < 4294967296) (hll : ∀ l ∈ ws, l.length < 4294967296) : VPure Tryz.prog 37 [encM ws] fun r => Soft r (.agg [ints (mkG ws), .int .i64 (mkE ws)]) := by
 refine .of_body Tryz.func37 rfl rfl ?_
 refine .seq ?_
 refine .rn ?_
 refine .seq ?_
 refine .regionL [0,1,2] rfl zz0 ?_
 refine .rn [0] [1,2] ?_
 refine .step rfl rfl (.pure rfl rfl rfl Tryz.call40 (by decide) (p40 ws hl hll) (by first | rfl | simp [*]) ?_)
 rintro _ rfl
 refine .rn [2] [] ?_
 refine .done ?_
 refine .seq ?_
 refine .seq ?_
 refine .rn ?_
 refine .condS rfl (fun c13 => ?_) (fun c13 => ?_)
 ·try simp at c13
  refine .seq ?_
  refine .rn ?_
  refine .ret ?_
  refine ⟨_, _, zz2,zz2, ?_⟩
  rw [mkG_err c13]
  exact Alt.agg' (AltL.cons .sl0v (AltL.cons (.same _ rfl) AltL.nil))
 ·try simp at c13
  have hm := mkt_of c13
  have hn16 := hm.le
  have hl2 : ((ws.length : Nat) : Int) ≤ 4294967296 := by omega
  refine .skip ?_
  refine .seq ?_
  refine .rn ?_
  refine .seq ?_
  refine .rn ?_
  refine .seq ?_
  refine .seq ?_
  refine .rn ?_
  refine .block ?_
  refine .loopS (fun i : Nat => ([(1, .vp [.vec (ws.map ints)]),(2, .ptr 1 0),(4, .own 2 0 ws.length ws.length),(5, .grow 3 i true),(6, .int .i64 i)], ⟨4,[(3, .grow 1 ((idn i).map (.int .i64))),(2, .arr false 1 ((List.replicate ws.length (0 : Int)).map (.int .i64))),(1, .box [.sl0, .int .i64 0])]⟩)) (fun i => i ≤ ws.length) (fun i => ws.length - i) 0 (Nat.zero_le _) (.mk [0] [] zz14 zz15 rfl rfl rfl) ?_
  rintro i hi
  simp only at hi ⊢
  have hil := idn_len i
  have hiS : idn (i + 1) = idn i ++ [(i : Int)] := by unfold idn; rw [List.range_succ, List.map_append]; rfl
  refine .seq ?_
  refine .seq ?_
  refine .rn ?_
  refine .condS rfl (fun c24 => ?_) (fun c24 => ?_)
  ·try simp at c24
   have hw2 : IntKind.i64.wrap ((i : Int) + 1) = (i : Int) + 1 := wrap64 (by omega) (by omega)
   have hi4 : i ≤ 4294967295 := by omega
   refine .skip ?_
   refine .seq ?_
   refine .block ?_
   refine .rn ?_
   refine .rn ?_
   refine ⟨i + 1,zz3,zz3,(.mk [] [(3,5)] zz8 zz9 rfl rfl rfl)⟩
  ·try simp at c24
   have hin0 : i = ws.length := by omega
   subst hin0
   refine .exit ?_
   refine .seq ?_
   refine .block ?_
   refine .loopS (fun st : List Int × List Int => ([(1, .vp [.vec (ws.map ints)]),(2, .ptr 1 0),(4, .own 2 0 ws.length ws.length),(5, ints st.2)], ⟨3,[(2, .arr false 1 (st.1.map (.int .i64))),(1, .box [.sl0, .int .i64 0])]⟩)) (fun st => MdI ws st.1 st.2) (fun st => st.2.length) (List.replicate ws.length 0, idn ws.length) (MdI.start ws) (.mk [3] [] zz8 zz9 rfl rfl rfl) ?_
   rintro ⟨out, left⟩ hI
   simp only at hI ⊢
   have hI0 := hI
   obtain ⟨hol, hin, hle, _⟩ := hI
   refine .seq ?_
   refine .seq ?_
   refine .rn ?_
   refine .condS rfl (fun c33 => ?_) (fun c33 => ?_)
   ·try simp at c33
    have hl2' : left.length < 4294967296 := by omega
    refine .skip ?_
    refine .block ?_
    refine .seq ?_
    refine .drawn (ms := [0,0,2,6,0,31,63]) (W := [5]) (items := [.op 0, .op 1, .op 2, .op 3, .op 4, .op 5, .op 6]) rfl zz0 zz0 zz0 ?_
    refine .rd rfl rfl (by decide) rfl (by decide) zz1 ?_   -- 0
    refine .rd rfl rfl (by decide) rfl (by decide) zz1 ?_   -- 1
    refine .rd rfl rfl (by decide) rfl (by decide) zz1 ?_   -- 2
    refine .rd rfl rfl (by decide) rfl (by decide) zz1 ?_   -- 3
    refine .rd rfl rfl (by decide) rfl (by decide) zz1 ?_   -- 4
    refine .wr rfl rfl (by decide) (.pure rfl rfl rfl Tryz.call101 (by decide) (p101 ws left[0] left hll hl2' hin (List.getElem_mem c33)) (by first | rfl | simp [*]) ?_)
    rintro _ ⟨C, rfl, hC⟩
    refine .rd rfl rfl (by decide) rfl (by decide) zz1 ?_   -- 6
    refine .done ?_
    refine .seq ?_
    refine .seq ?_
    refine .rn ?_
    refine .block ?_
    refine .loopS (fun st : Nat × List Int => ([(1, .vp [.vec (ws.map ints)]),(2, .ptr 1 0),(4, .own 2 0 ws.length ws.length),(5, ints left),(7, ints C),(8, .int .i64 st.1)], ⟨3,[(2, .arr false 1 (st.2.map (.int .i64))),(1, .box [.sl0, .int .i64 0])]⟩)) (fun st => st.1 ≤ C.length ∧ st.2.length = ws.length ∧ ∀ j : Nat, j < ws.length → nx st.2 j = if (j : Int) ∈ C.take st.1 then bR ws left j else nx out j) (fun st => C.length - st.1) (0, out) ⟨Nat.zero_le _, hol, fun j hj => by simp⟩ (.mk [] [] zz8 zz9 rfl rfl rfl) ?_
    rintro ⟨i, O⟩ ⟨hi, hOl, hO⟩
    simp only at hi hOl hO ⊢
    refine .seq ?_
    refine .seq ?_
    refine .rn ?_
    refine .condS rfl (fun c43 => ?_) (fun c43 => ?_)
    ·try simp at c43
     have hw2 : IntKind.i64.wrap ((i : Int) + 1) = (i : Int) + 1 := by have := hC.le; exact wrap64 (by omega) (by omega)
     obtain ⟨s, hs, hse⟩ := (hin _ (hC.sub _ (List.getElem_mem c43))).nat
     have hLl := hll ws[s] (List.getElem_mem hs)
     have hsO : s < O.length := by omega
     have hsw : s + 1 ≤ ws.length := hs
     have hP := set_put O s (bstR ws[s] s left) hsO
     refine .skip ?_
     refine .seq ?_
     refine .block ?_
     refine .drawn (ms := [0,0,0,6,14,0,0,0,192,448,0,2016,4095,8191]) (W := [11,13]) (items := [.op 0, .op 1, .op 2, .op 3, .op 4, .op 5, .op 6, .op 7, .op 8, .op 9, .op 10, .op 11, .ck 4, .op 12, .op 13]) rfl zz0 zz0 zz0 ?_
     refine .rd rfl rfl (by decide) rfl (by decide) zz1 ?_   -- 0
     refine .rd rfl rfl (by decide) rfl (by decide) zz1 ?_   -- 1
     refine .rd rfl rfl (by decide) rfl (by decide) zz1 ?_   -- 2
     refine .rd rfl rfl (by decide) rfl (by decide) zz1 ?_   -- 3
     refine .rd rfl rfl (by decide) rfl (by decide) zz1 ?_   -- 4
     refine .rd rfl rfl (by decide) rfl (by decide) zz1 ?_   -- 5
     refine .rd rfl rfl (by decide) rfl (by decide) zz1 ?_   -- 6
     refine .rd rfl rfl (by decide) rfl (by decide) zz1 ?_   -- 7
     refine .rd rfl rfl (by decide) rfl (by decide) zz1 ?_   -- 8
     refine .rd rfl rfl (by decide) rfl (by decide) zz1 ?_   -- 9
     refine .rd rfl rfl (by decide) rfl (by decide) zz1 ?_   -- 10
     refine .wr rfl rfl (by decide) (.pure rfl rfl rfl Tryz.call102 (by decide) (p102 ws s left hs hLl hl2') (by first | rfl | simp [*]) ?_)
     rintro _ rfl
     refine .ck rfl zz0 ?_   -- 4
     refine .rd rfl rfl (by decide) rfl (by decide) zz1 ?_   -- 12
     refine .wr rfl rfl (by decide) (.vop zz1 (by decide) ?_)   -- 13
     refine .done ?_
     refine .rn ?_
     refine ⟨(i + 1, O.set s (bstR ws[s] s left)), ⟨c43, by simp [hOl], fun j hj => ?_⟩, by simp only; omega, (.mk [] [] zz8 zz9 rfl rfl rfl)⟩
     simp only
     rw [nx_set _ hsO, hO j hj]
     have hk := mem_take_succ c43 (x := (j : Int))
     by_cases hjs : j = s
     ·subst hjs
      rw [if_pos rfl, if_pos (hk.2 (.inr hse.symm)), bR_at hj]
     ·rw [if_neg hjs]
      have hne : ¬(j : Int) = C[i] := by rw [hse]; omega
      by_cases h2 : (j : Int) ∈ C.take i
      ·rw [if_pos h2, if_pos (hk.2 (.inl h2))]
      ·rw [if_neg h2, if_neg fun h => (hk.1 h).elim h2 hne]
    ·try simp at c43
     have hiC : i = C.length := by omega
     subst hiC
     rw [List.take_length] at hO
     have hst := MdI.step hm hI0 hC hOl hO
     have h0z := lfC_zero left C
     refine .exit ?_
     refine .seq ?_
     refine .rn ?_
     refine .block ?_
     refine .loopS (fun i : Nat => ([(1, .vp [.vec (ws.map ints)]),(2, .ptr 1 0),(4, .own 2 0 ws.length ws.length),(5, ints (lfC left C i)),(7, ints C),(9, .int .i64 i)], ⟨3,[(2, .arr false 1 (O.map (.int .i64))),(1, .box [.sl0, .int .i64 0])]⟩)) (fun i => i ≤ C.length) (fun i => C.length - i) 0 (Nat.zero_le _) (.mk [] [] zz8 zz9 rfl rfl rfl) ?_
     rintro i hi
     simp only at hi ⊢
     have hfl : (lfC left C i).length < 4294967296 := Nat.lt_of_le_of_lt (List.length_filter_le _ _) hl2'
     refine .seq ?_
     refine .seq ?_
     refine .rn ?_
     refine .condS rfl (fun c62 => ?_) (fun c62 => ?_)
     ·try simp at c62
      have hw2 : IntKind.i64.wrap ((i : Int) + 1) = (i : Int) + 1 := by have := hC.le; exact wrap64 (by omega) (by omega)
      have hS := lfC_succ (left := left) c62
      refine .skip ?_
      refine .seq ?_
      refine .block ?_
      refine .regionL [0,1,2,3,4,5,6] rfl zz0 ?_
      refine .rn [0,1,2,3,4] [5,6] ?_
      refine .step rfl rfl (.pure rfl rfl rfl Tryz.call103 (by decide) (VPure.soft (p103 (lfC left C i) C[i] hfl) rfl) (by first | rfl | simp [*]) ?_)
      rw [hS]; rintro _ rfl
      refine .rn [6] [] ?_
      refine .done ?_
      refine .rn ?_
      refine ⟨i + 1, c62, by omega, (.mk [] [] zz8 zz9 rfl rfl rfl)⟩
     ·try simp at c62
      refine .exit ?_
      have hiC : i = C.length := by omega
      subst hiC
      exact ⟨(O, lfC left C C.length), hst.1, hst.2,(.mk [] [] zz8 zz9 rfl rfl rfl)⟩
   ·try simp at c33
    refine .exit ?_
    refine .seq ?_
    refine .rn ?_
    refine .ret ?_
    have hO := mkG_ok c13 (hI0.done (by rw [c33]; rfl))
    refine ⟨_, .agg [ints out, .int .i64 0],zz2, ?_, ?_⟩
    ·exact frz_own_agg _ 2 out _ 0 hol rfl
    ·rw [hO, c13]; exact soft_rfl rfl
theorem p37 (ws : List (List Int)) (hl : ws.length < 4294967296) (hll : ∀ l ∈ ws, l.length < 4294967296) : VPure Tryz.prog 37 [encM ws] fun r => r = .agg [ints (mkG ws), .int .i64 (mkE ws)] := VPure.soft (p37s ws hl hll) rfl
end Go.Am.Hi
end

section
namespace Go.Am.Hi
open Go Go.Am Go.Proofs
set_option maxRecDepth 100000
set_option maxHeartbeats 4000000
set_option linter.unusedSimpArgs false
set_option linter.unusedVariables false
attribute [local simp] vrun vwanted vyielded vop vopA vputAll VHeap.back hidI hidF backL bm Nat.testBit_eq_decide_div_mod_eq veval vevals vparts vO vbuiltin vlen vappend velems vcopy vmakeSlice vbuildSlice valloc vbox vmakeMap vload vpartT vpart vstore vfieldAddr vfield vindexAddr vindex vextract vslice vsliceZ vbounds vbnd zeroO vidx vlookup vmget vmapUpdate vdelete vclear vnilq vnilp vnils vbin vsc vsc1 vscs vscl abinOp aint ashift aunOp aconvert amaxs amax2 pvcV pvc pvcs tput tget vargs VHeap.get VHeap.alloc VHeap.put VHeap.drop VHeap.empty vlook vput vdrop psplice pfill preps chunk List.range List.range.loop vresults vresult vresultV frz frzL PV.isF PV.allF PV.scal PV.allS retP subT allFT PV.one PV.ids PV.idsL dropL beq_eq ble_dec blt_dec
theorem short_spec {ws : List (List Int)} (h : shortB ws = true) : ws.length ≤ 30 ∧ ∀ l ∈ ws, l.length ≤ 30 := by
 unfold shortB at h
 rw [Bool.and_eq_true, decide_eq_true_eq] at h
 exact ⟨h.2, fun l hl => by simpa using List.all_eq_true.1 h.1 l hl⟩
end Go.Am.Hi
end

section
namespace Go.Am.Hi
open Go Go.Am Go.Proofs
set_option maxRecDepth 100000
set_option linter.unusedSimpArgs false
set_option linter.unusedVariables false

def rowO (n : Nat) (g o : List Int) (i : Nat) : Bool :=
 (((decide (0 ≤ nx g i) && decide (nx g i ≤ (n : Int) - 1)) && (decide (i = 0) || decide (nx g ((i - 1 : Nat) : Int) < nx g i))) && decide (nx o i ∈ g)) && !decide (nx o i ∈ o.take i)
def nowL (l g : List Int) : List Int := g.map (nx l)
def oB (ws : List (List Int)) (l g o : List Int) : Bool := (decide (o.length = g.length) && (List.range g.length).all (rowO ws.length g o)) && betG ws g o (nowL l g)
def oE (ws : List (List Int)) (l g o : List Int) : Int := if gE ws l = 0 then (if oB ws l g o then 0 else 8) else gE ws l
theorem oE_err {ws : List (List Int)} {l g o : List Int} (h : ¬gE ws l = 0) : oE ws l g o = gE ws l := by unfold oE; rw [if_neg h]
theorem oE_no {ws : List (List Int)} {l g o : List Int} (h : gE ws l = 0) (h2 : oB ws l g o = false) : oE ws l g o = 8 := by unfold oE; rw [if_pos h, h2]; rfl
theorem oE_yes {ws : List (List Int)} {l g o : List Int} (h : gE ws l = 0) (h2 : oB ws l g o = true) : oE ws l g o = 0 := by unfold oE; rw [if_pos h, h2]; rfl
theorem gE_zero {ws : List (List Int)} {l : List Int} (h : gE ws l = 0) : mkE ws = 0 ∧ gts ws l = true := by
 unfold gE at h
 split at h
 ·rename_i h1
  split at h
  ·rename_i h2; exact ⟨h1, h2⟩
  ·cases h
 ·contradiction
theorem rowO_iff {n : Nat} {g o : List Int} {i : Nat} : rowO n g o i = true ↔ InN n (nx g i) ∧ (i = 0 ∨ nx g ((i - 1 : Nat) : Int) < nx g i) ∧ nx o i ∈ g ∧ nx o i ∉ o.take i := by
 unfold rowO InN
 simp only [Bool.and_eq_true, Bool.or_eq_true, decide_eq_true_eq, Bool.not_eq_true', decide_eq_false_iff_not]
 constructor
 ·rintro ⟨⟨⟨⟨h1, h2⟩, h3⟩, h4⟩, h5⟩; exact ⟨⟨h1, by omega⟩, h3, h4, h5⟩
 ·rintro ⟨⟨h1, h2⟩, h3, h4, h5⟩; exact ⟨⟨⟨⟨h1, by omega⟩, h3⟩, h4⟩, h5⟩
theorem oB_len {ws : List (List Int)} {l g o : List Int} (h : ¬o.length = g.length) : oB ws l g o = false := by unfold oB; rw [decide_eq_false h]; rfl
theorem oB_row {ws : List (List Int)} {l g o : List Int} {i : Nat} (hi : i < g.length) (h : rowO ws.length g o i = false) : oB ws l g o = false := by
 unfold oB
 rw [Bool.eq_false_iff]
 intro h2
 rw [Bool.and_eq_true, Bool.and_eq_true] at h2
 have := all_lt h2.1.2 hi
 rw [h] at this; cases this
theorem oB_bet {ws : List (List Int)} {l g o : List Int} (h0 : o.length = g.length) (h : ∀ i, i < g.length → rowO ws.length g o i = true) : oB ws l g o = betG ws g o (nowL l g) := by
 unfold oB
 rw [decide_eq_true h0, Bool.true_and, show (List.range g.length).all (rowO ws.length g o) = true from List.all_eq_true.2 fun i hi => h i (List.mem_range.1 hi), Bool.true_and]
theorem oB_nil {ws : List (List Int)} {l o : List Int} : oB ws l [] o = false := by
 unfold oB betG someG
 simp
theorem nowL_len (l g : List Int) : (nowL l g).length = g.length := by unfold nowL; rw [List.length_map]
theorem nowL_at {l g : List Int} {i : Nat} (h : i < g.length) : nx (nowL l g) i = nx l (nx g i) := by
 rw [nx_at (by rw [nowL_len]; exact h), nx_at h]
 simp only [nowL, List.getElem_map]
structure ObjP (ws : List (List Int)) (l g o : List Int) : Prop where
  len : o.length = g.length
  row : ∀ i, i < g.length → rowO ws.length g o i = true
  le : ∀ i, i < g.length → prk ws (nx g i) (nx o i) ≤ prk ws (nx g i) (nx l (nx g i))
  lt : ∃ i, i < g.length ∧ prk ws (nx g i) (nx o i) < prk ws (nx g i) (nx l (nx g i))
theorem oB_iff {ws : List (List Int)} {l g o : List Int} : oB ws l g o = true ↔ ObjP ws l g o := by
 unfold oB betG someG pg
 rw [Bool.and_eq_true, Bool.and_eq_true, Bool.and_eq_true, decide_eq_true_eq, List.all_eq_true, List.all_eq_true, List.any_eq_true]
 constructor
 ·rintro ⟨⟨h1, h2⟩, h3, i, hi, h4⟩
  refine ⟨h1, fun i hi => h2 i (List.mem_range.2 hi), fun i hi => ?_, i, List.mem_range.1 hi, ?_⟩
  ·have := of_decide_eq_true (h3 i (List.mem_range.2 hi))
   rwa [nowL_at hi] at this
  ·have := of_decide_eq_true h4
   rwa [nowL_at (List.mem_range.1 hi)] at this
 ·rintro ⟨h1, h2, h3, i, hi, h4⟩
  refine ⟨⟨h1, fun i hi => h2 i (List.mem_range.1 hi)⟩, fun i hi => ?_, i, List.mem_range.2 hi, ?_⟩
  ·rw [decide_eq_true_eq, nowL_at (List.mem_range.1 hi)]; exact h3 i (List.mem_range.1 hi)
  ·rw [decide_eq_true_eq, nowL_at hi]; exact h4
theorem ObjP.inc {ws : List (List Int)} {l g o : List Int} (h : ObjP ws l g o) : g.Pairwise (· < ·) := by
 have key : ∀ (j i : Nat) (hj : j < g.length) (hi : i < j), g[i] < g[j] := by
  intro j
  induction j with
  | zero => intro i _ hi; omega
  | succ j ih =>
   intro i hj hi
   have h1 := (rowO_iff.1 (h.row (j + 1) hj)).2.1
   have h2 : g[j] < g[j + 1] := by
    rcases h1 with h1 | h1
    ·omega
    ·rw [show j + 1 - 1 = j by omega, nx_at hj, nx_at (show j < g.length by omega)] at h1; exact h1
   by_cases h3 : i = j
   ·subst h3; exact h2
   ·have := ih i (by omega) (by omega); omega
 exact List.pairwise_iff_getElem.2 fun i j hi hj hlt => key j i hj hlt
theorem ObjP.inn {ws : List (List Int)} {l g o : List Int} (h : ObjP ws l g o) : ∀ x ∈ g, InN ws.length x := fun x hx => by
 obtain ⟨i, hi, rfl⟩ := List.mem_iff_getElem.1 hx
 have := (rowO_iff.1 (h.row i hi)).1
 rwa [nx_at hi] at this
theorem nd_of_lt {l : List Int} (h : l.Pairwise (· < ·)) : l.Nodup := h.imp fun {a b} hlt he => by omega
theorem inn_len {n : Nat} {l : List Int} (h : ∀ x ∈ l, InN n x) (hn : l.Nodup) : l.length ≤ n := by
 have := hn.length_le_of_subset (l₂ := (List.range n).map fun k : Nat => (k : Int)) fun x hx => by
  obtain ⟨k, hk, rfl⟩ := (h x hx).nat
  exact List.mem_map.2 ⟨k, List.mem_range.2 hk, rfl⟩
 simpa using this
theorem ObjP.glen {ws : List (List Int)} {l g o : List Int} (h : ObjP ws l g o) : g.length ≤ ws.length := inn_len h.inn (nd_of_lt h.inc)
theorem ObjP.not {ws : List (List Int)} {G : List Int} (hm : Mkt ws) (hG : AccG ws G) {g o : List Int} : ¬ObjP ws G g o := fun h => by
 obtain ⟨hl, R, hA⟩ := hG
 have hnd := nd_of_lt h.inc
 have hix : ∀ x, x ∈ g → ∃ i, ∃ hi : i < g.length, g[i] = x ∧ g.idxOf x = i := fun x hx => by
  have h1 : g.idxOf x < g.length := List.idxOf_lt_length_of_mem hx
  exact ⟨_, h1, List.getElem_idxOf h1, rfl⟩
 have hall := hA.block hm (S := fun x => x ∈ g) (own := fun x => nx o (g.idxOf x)) h.inn (fun x hx => by
  obtain ⟨i, hi, _, he⟩ := hix x hx
  rw [he]; exact (rowO_iff.1 (h.row i hi)).2.2.1) (fun x y hx hy he => by
  obtain ⟨i, hi, hxi, hi'⟩ := hix x hx
  obtain ⟨j, hj, hyj, hj'⟩ := hix y hy
  rw [hi', hj'] at he
  have hio : i < o.length := by rw [h.len]; exact hi
  have hjo : j < o.length := by rw [h.len]; exact hj
  have n1 := (rowO_iff.1 (h.row i hi)).2.2.2
  have n2 := (rowO_iff.1 (h.row j hj)).2.2.2
  rw [nx_at hio] at he n1
  rw [nx_at hjo] at he n2
  rcases Nat.lt_trichotomy i j with h1 | h1 | h1
  ·exfalso; exact n2 (by rw [← he]; exact List.mem_take_iff_getElem.2 ⟨i, by omega, rfl⟩)
  ·subst h1; rw [← hxi, ← hyj]
  ·exfalso; exact n1 (by rw [he]; exact List.mem_take_iff_getElem.2 ⟨j, by omega, rfl⟩)) (fun x hx => by
  obtain ⟨i, hi, hxi, hi'⟩ := hix x hx
  have := h.le i hi
  rw [nx_at hi, hxi] at this
  rw [hi']; exact this)
 obtain ⟨i, hi, hlt⟩ := h.lt
 have hx := hall _ (List.getElem_mem hi)
 obtain ⟨j, hj, hgj, hj'⟩ := hix _ (List.getElem_mem hi)
 have hij : j = i := (List.getElem_inj hnd).1 hgj
 subst hij
 rw [hj'] at hx
 rw [nx_at hi, hx] at hlt
 omega
theorem obj_of {ws : List (List Int)} {l G R : List Int} (hm : Mkt ws) (h : AccL ws G R) (hl : gts ws l = true) {f : Int} (hf : InN ws.length f) (hne : ¬nx l f = nx G f) (hlow : ∀ j, InN ws.length j → ¬nx l j = nx G j → nx R f ≤ nx R j) {z : List Int} (hz : z.Pairwise (· < ·)) (hfz : f ∈ z) (hin : ∀ x ∈ z, InN ws.length x ∧ nx R x = nx R f) (hcl : ∀ x ∈ z, nx G x ∈ z) : ObjP ws l z (nowL G z) := by
 have hob := h.acc.obj (H := nx l) (r := nx R f) (fun i hi => gts_in hl hi) (fun i j hi hj he => gts_inj hl hi hj he) (fun j hj hlt => Classical.byContradiction fun hno => by have := hlow j hj hno; omega)
 have hle : ∀ i, i < z.length → prk ws (nx z i) (nx (nowL G z) i) ≤ prk ws (nx z i) (nx l (nx z i)) := fun i hi => by
  rw [nowL_at hi, nx_at hi]
  have := hin _ (List.getElem_mem hi)
  exact hob _ this.1 this.2
 have hnd := nd_of_lt hz
 refine ⟨nowL_len _ _, fun i hi => rowO_iff.2 ⟨?_, ?_, ?_, ?_⟩, hle, ?_⟩
 ·rw [nx_at hi]; exact (hin _ (List.getElem_mem hi)).1
 ·rcases Nat.eq_zero_or_pos i with h0 | h0
  ·exact .inl h0
  ·right
   rw [nx_at hi, nx_at (show i - 1 < z.length by omega)]
   exact (List.pairwise_iff_getElem.1 hz) (i - 1) i (by omega) hi (by omega)
 ·rw [nowL_at hi, nx_at hi]; exact hcl _ (List.getElem_mem hi)
 ·rw [nowL_at hi, nx_at hi]
  intro hx
  unfold nowL at hx
  rw [← List.map_take] at hx
  obtain ⟨y, hy, he⟩ := List.mem_map.1 hx
  obtain ⟨j, hj, rfl⟩ := List.mem_take_iff_getElem.1 hy
  have hjz : j < z.length := by omega
  have := h.acc.inj _ _ (hin _ (List.getElem_mem hjz)).1 (hin _ (List.getElem_mem hi)).1 he
  have := (List.getElem_inj hnd).1 this
  omega
 ·obtain ⟨i, hi, rfl⟩ := List.mem_iff_getElem.1 hfz
  refine ⟨i, hi, ?_⟩
  have h1 := hle i hi
  rw [nowL_at hi, nx_at hi] at h1 ⊢
  have hI := (hin _ (List.getElem_mem hi)).1
  have hn : ¬prk ws z[i] (nx G z[i]) = prk ws z[i] (nx l z[i]) := fun he => hne (hm.inj hI (h.acc.own hI) he).symm
  omega
def ObjR (ws : List (List Int)) (l g o : List Int) (some : Bool) : Prop :=
 (some = false ∧ g = [] ∧ o = [] ∧ (gE ws l = 0 → l = mkG ws)) ∨ (some = true ∧ gE ws l = 0 ∧ ¬l = mkG ws ∧ ObjP ws l g o)
theorem ObjR.len {ws : List (List Int)} {l g o : List Int} {some : Bool} (h : ObjR ws l g o some) : g.length ≤ ws.length ∧ o.length ≤ ws.length := by
 rcases h with ⟨_, rfl, rfl, _⟩ | ⟨_, _, _, h⟩
 ·exact ⟨Nat.zero_le _, Nat.zero_le _⟩
 ·have := h.glen; rw [h.len]; exact ⟨this, this⟩
def tellW (ws : List (List Int)) (s : Int) (w : List Int) : List (List Int) := ws.set s.toNat w
def tlE (ws : List (List Int)) (s : Int) (w : List Int) : Int := if mkE ws = 0 then (if 0 ≤ s ∧ s ≤ (ws.length : Int) - 1 then mkE (tellW ws s w) else 1) else mkE ws
def tlW (ws : List (List Int)) (s : Int) (w : List Int) : List (List Int) := if tlE ws s w = 0 then tellW ws s w else []
theorem tlE_err {ws : List (List Int)} {s : Int} {w : List Int} (h : ¬mkE ws = 0) : tlE ws s w = mkE ws := by unfold tlE; rw [if_neg h]
theorem tlE_arg {ws : List (List Int)} {s : Int} {w : List Int} (h : mkE ws = 0) (h1 : ¬(0 ≤ s ∧ s ≤ (ws.length : Int) - 1)) : tlE ws s w = 1 := by unfold tlE; rw [if_pos h, if_neg h1]
theorem tlE_new {ws : List (List Int)} {s : Int} {w : List Int} (h : mkE ws = 0) (h1 : 0 ≤ s ∧ s ≤ (ws.length : Int) - 1) : tlE ws s w = mkE (tellW ws s w) := by unfold tlE; rw [if_pos h, if_pos h1]
theorem tlW_err {ws : List (List Int)} {s : Int} {w : List Int} {e : Int} (h : tlE ws s w = e) (h0 : ¬e = 0) : tlW ws s w = [] := by unfold tlW; rw [if_neg (by rw [h]; exact h0)]
theorem tlW_yes {ws : List (List Int)} {s : Int} {w : List Int} (h : tlE ws s w = 0) : tlW ws s w = tellW ws s w := by unfold tlW; rw [if_pos h]
theorem tellW_len (ws : List (List Int)) (s : Int) (w : List Int) : (tellW ws s w).length = ws.length := by unfold tellW; rw [List.length_set]
theorem tellW_mem {ws : List (List Int)} {s : Int} {w l : List Int} (h : l ∈ tellW ws s w) : l ∈ ws ∨ l = w := List.mem_or_eq_of_mem_set h
theorem honest {ws : List (List Int)} {s : Nat} {w : List Int} (hs : s < ws.length) (h : mkE ws = 0) (h2 : mkE (tellW ws s w) = 0) {R Q : List Int} (hR : MkR ws R) (hQ : MkR (tellW ws s w) Q) : prk ws s (nx (mkG ws) s) ≤ prk ws s (nx (mkG (tellW ws s w)) s) := by
 refine (hR.1 h).acc.honest (mkt_of h2) (tellW_len _ _ _) (hQ.1 h2).acc ⟨by omega, by omega⟩ fun i p hi hne => ?_
 obtain ⟨k, hk, rfl⟩ := hi.nat
 unfold prk tellW
 rw [Int.toNat_natCast, Int.toNat_natCast, List.getD_eq_getElem?_getD, List.getD_eq_getElem?_getD, List.getElem?_set]
 rw [if_neg (by omega)]
end Go.Am.Hi
end

section
namespace Go.Am.Hi
open Go Go.Am Go.Proofs
set_option maxRecDepth 100000
set_option maxHeartbeats 4000000
set_option linter.unusedSimpArgs false
set_option linter.unusedVariables false
attribute [local simp] vrun vwanted vyielded vop vopA vputAll VHeap.back hidI hidF backL bm Nat.testBit_eq_decide_div_mod_eq veval vevals vparts vO vbuiltin vlen vappend velems vcopy vmakeSlice vbuildSlice valloc vbox vmakeMap vload vpartT vpart vstore vfieldAddr vfield vindexAddr vindex vextract vslice vsliceZ vbounds vbnd zeroO vidx vlookup vmget vmapUpdate vdelete vclear vnilq vnilp vnils vbin vsc vsc1 vscs vscl abinOp aint ashift aunOp aconvert amaxs amax2 pvcV pvc pvcs tput tget vargs VHeap.get VHeap.alloc VHeap.put VHeap.drop VHeap.empty vlook vput vdrop psplice pfill preps chunk List.range List.range.loop vresults vresult vresultV frz frzL PV.isF PV.allF PV.scal PV.allS retP subT allFT PV.one PV.ids PV.idsL dropL beq_eq ble_dec blt_dec
theorem rowO_f {n : Nat} {g o : List Int} {i : Nat} (h : ¬(InN n (nx g i) ∧ (i = 0 ∨ nx g ((i - 1 : Nat) : Int) < nx g i) ∧ nx o i ∈ g ∧ nx o i ∉ o.take i)) : rowO n g o i = false := Bool.eq_false_iff.2 fun h2 => h (rowO_iff.1 h2)
theorem nowL_take {l g : List Int} {k : Nat} (h : k < g.length) : nowL l (g.take (k + 1)) = nowL l (g.take k) ++ [nx l g[k]] := by
 unfold nowL
 rw [List.take_succ_eq_append_getElem h, List.map_append]; rfl
theorem nowL_tl {l g : List Int} {k : Nat} (h : k ≤ g.length) : (nowL l (g.take k)).length = k := by rw [nowL_len, List.length_take]; omega
theorem all_lt_succ {k : Nat} {P : Nat → Prop} (h : ∀ j, j < k → P j) (h1 : P k) : ∀ j, j < k + 1 → P j := fun j hj => by
 by_cases he : j = k
 ·subst he; exact h1
 ·exact h j (by omega)
theorem p35 (ws : List (List Int)) (l g o : List Int) (hl : ws.length < 4294967296) (hll : ∀ l ∈ ws, l.length < 4294967296) (h1 : l.length < 4294967296) (h2 : g.length < 4294967296) (h3 : o.length < 4294967296) : VPure Tryz.prog 35 [encM ws, ints l, ints g, ints o] fun r => r = .int .i64 (oE ws l g o) := by
 refine .of_body Tryz.func35 rfl rfl ?_
 refine .seq ?_
 refine .rn ?_
 refine .seq ?_
 refine .seq ?_
 refine .regionL [0,1,2,3,4] rfl zz0 ?_
 refine .rn [0,1,2] [3,4] ?_
 refine .step rfl rfl (.borrow rfl rfl rfl Tryz.call97 (by decide) (by first | (simp <;> rfl) | (simp [*] <;> rfl) | (simp [*]; done)) (p97 ws [l] hl hll (by simp) (by simp [h1])) (by rintro _ rfl <;> first | (simp; done) | rfl) ?_)
 rw [gotE_one]; rintro _ rfl
 refine .rn [4] [] ?_
 refine .done ?_
 refine .seq ?_
 refine .rn ?_
 refine .condS rfl (fun c18 => ?_) (fun c18 => ?_)
 ·try simp at c18
  refine .seq ?_
  refine .rn ?_
  refine .ret ?_
  refine ⟨_, _, zz2,zz2, ?_⟩
  rw [oE_err c18]
 ·try simp at c18
  obtain ⟨_, hgl⟩ := gE_zero c18
  have hwl := (gts_spec hgl).1
  have hw1 : IntKind.i64.wrap ((ws.length : Int) - 1) = (ws.length : Int) - 1 := wrap64 (by omega) (by omega)
  refine .skip ?_
  refine .seq ?_
  refine .seq ?_
  refine .regionL [0,1,2,3,4,5,6,7,8,9] rfl zz0 ?_
  refine .rn [0,1,2,3] [4,5,6,7,8,9] ?_
  refine .split (t := 23) rfl (fun c23 => ?_) (fun c23 => ?_)
  ·first | cases c23 | (simp only [Bool.not_eq_true', Bool.not_eq_false', Bool.not_not, Bool.not_true, Bool.not_false] at c23; cases c23) | try rw [c23]
   try simp at c23
   refine .rn [4,5,6,7,8,9] [] ?_
   refine .done ?_
   refine .condT rfl ?_
   refine .seq ?_
   refine .rn ?_
   refine .ret ?_
   refine ⟨_, _, zz2,zz2, ?_⟩
   rw [oE_no c18 (by
    have : g = [] := by first | exact c23 | (simpa using c23) | exact List.eq_nil_of_length_eq_zero (by omega)
    rw [this]; exact oB_nil)]
  ·first | cases c23 | (simp only [Bool.not_eq_true', Bool.not_eq_false', Bool.not_not, Bool.not_true, Bool.not_false] at c23; cases c23) | try rw [c23]
   try simp at c23
   refine .rn [4,5,6,7,8,9] [] ?_
   refine .done ?_
   refine .condS rfl (fun c29 => ?_) (fun c29 => ?_)
   ·try simp at c29
    refine .seq ?_
    refine .rn ?_
    refine .ret ?_
    refine ⟨_, _, zz2,zz2, ?_⟩
    rw [oE_no c18 (oB_len (by omega))]
   ·try simp at c29
    have hog : o.length = g.length := by omega
    refine .skip ?_
    refine .seq ?_
    refine .rn ?_
    refine .seq ?_
    refine .seq ?_
    refine .rn ?_
    refine .block ?_
    refine .loopS (fun k : Nat => ([(1, ints l),(2, ints g),(3, ints o),(4, .vp [.vec (ws.map ints)]),(10, .grow 7 k true),(30, ints g),(31, .int .i64 g.length),(32, .int .i64 k)], ⟨8,[(7, .grow 1 ((nowL l (g.take k)).map (.int .i64)))]⟩)) (fun k => k ≤ g.length ∧ ∀ j, j < k → rowO ws.length g o j = true) (fun k => g.length - k) 0 (by simp) (.mk [0] [] zz14 zz15 rfl rfl rfl) ?_
    rintro k ⟨hk, hr⟩
    simp only at hk hr ⊢
    have hNl := nowL_tl (l := l) hk
    refine .seq ?_
    refine .rn ?_
    refine .seq ?_
    refine .condS rfl (fun c33 => ?_) (fun c33 => ?_)
    ·try simp at c33
     have hw2 : IntKind.i64.wrap ((k : Int) + 1) = (k : Int) + 1 := wrap64 (by omega) (by omega)
     have hS := nowL_take (l := l) c33
     obtain ⟨N, hN⟩ : ∃ N, nowL l (g.take k) = N := ⟨_, rfl⟩
     rw [hN] at hNl hS ⊢
     have hN4 : k + 1 ≤ 4294967296 := by omega
     have hko : k < o.length := by omega
     have hw3 : 0 < k → IntKind.i64.wrap ((k : Int) - 1) = ((k - 1 : Nat) : Int) := fun h => by rw [wrap64 (by omega) (by omega)]; omega
     have htl : (o.take k).length < 4294967296 := by rw [List.length_take]; omega
     have hgk := nx_at c33
     have hok := nx_at hko
     obtain ⟨b43, hb43⟩ : ∃ b, (decide (0 ≤ g[k]) && decide (g[k] ≤ (ws.length : Int) - 1)) = b := ⟨_, rfl⟩
     obtain ⟨b46, hb46⟩ : ∃ b, decide (0 < k) = b := ⟨_, rfl⟩
     obtain ⟨b65, hb65⟩ : ∃ b, decide (o[k] ∈ g) = b := ⟨_, rfl⟩
     refine .skip ?_
     refine .seq ?_
     refine .block ?_
     refine .seq ?_
     refine .rn ?_
     refine .seq ?_
     refine .seq ?_
     refine .drawn (ms := [0,0,2,6,15,31,63,127,255,511,1023,1023,1023,5119,15359,31743,65535,131071,262143,524287,1048575,1048575,1048575,7340031,15728639,33554431,67108863,134217727,268435455,536870911,536870911,2147483647,536870911,536870911,13421772799,30601641983,68719476735,137438953471]) (W := [4,25,36]) (items := [.op 0, .op 1, .op 2, .op 3, .op 4, .op 5, .op 6, .op 7, .op 8, .op 9, .op 10, .op 11, .op 12, .op 13, .op 14, .op 15, .op 16, .op 17, .op 18, .op 19, .op 20, .op 21, .op 22, .op 23, .op 24, .op 25, .op 26, .op 27, .op 28, .op 29, .op 30, .op 31, .op 32, .op 33, .op 34, .op 35, .op 36, .op 37]) rfl zz0 zz0 zz0 ?_
     refine .rd rfl rfl (by decide) rfl (by decide) zz1 ?_   -- 0
     refine .rd rfl rfl (by decide) rfl (by decide) zz1 ?_   -- 1
     refine .rd rfl rfl (by decide) rfl (by decide) zz1 ?_   -- 2
     refine .rd rfl rfl (by decide) rfl (by decide) zz1 ?_   -- 3
     refine .wr rfl rfl (by decide) (.pure rfl rfl rfl Tryz.call70 (by decide) ((by have := p70 g[k] 0 ((ws.length : Int) - 1); rw [hb43] at this; exact this)) (by first | rfl | simp [*]) ?_)
     rintro _ rfl
     refine .rd rfl rfl (by decide) rfl (by decide) zz1 ?_   -- 5
     refine .rd rfl rfl (by decide) rfl (by decide) zz1 ?_   -- 6
     refine .split (t := 43) rfl (fun c43 => ?_) (fun c43 => ?_)
     ·first | cases c43 | (simp only [Bool.not_eq_true', Bool.not_eq_false', Bool.not_not, Bool.not_true, Bool.not_false] at c43; cases c43) | try rw [c43]
      try simp at c43
      have c43 : ¬(0 ≤ g[k] ∧ g[k] ≤ (ws.length : Int) - 1) := by simpa using hb43
      have hR : rowO ws.length g o k = false := rowO_f fun h => by
       have := h.1
       rw [hgk] at this
       have h1 := this.1
       have h2 := this.2
       omega
      refine .un rfl rfl (by decide) ?_   -- 7
      refine .un rfl rfl (by decide) ?_   -- 8
      refine .un rfl rfl (by decide) ?_   -- 9
      refine .un rfl rfl (by decide) ?_   -- 10
      refine .un rfl rfl (by decide) ?_   -- 11
      refine .un rfl rfl (by decide) ?_   -- 12
      refine .un rfl rfl (by decide) ?_   -- 13
      refine .un rfl rfl (by decide) ?_   -- 14
      refine .un rfl rfl (by decide) ?_   -- 15
      refine .un rfl rfl (by decide) ?_   -- 16
      refine .un rfl rfl (by decide) ?_   -- 17
      refine .rd rfl rfl (by decide) rfl (by decide) zz1 ?_   -- 18
      refine .rd rfl rfl (by decide) rfl (by decide) zz1 ?_   -- 19
      refine .un rfl rfl (by decide) ?_   -- 20
      refine .un rfl rfl (by decide) ?_   -- 21
      refine .un rfl rfl (by decide) ?_   -- 22
      refine .un rfl rfl (by decide) ?_   -- 23
      refine .un rfl rfl (by decide) ?_   -- 24
      refine .un rfl rfl (by decide) ?_   -- 25
      refine .un rfl rfl (by decide) ?_   -- 26
      refine .rd rfl rfl (by decide) rfl (by decide) zz1 ?_   -- 27
      refine .rd rfl rfl (by decide) rfl (by decide) zz1 ?_   -- 28
      refine .un rfl rfl (by decide) ?_   -- 29
      refine .un rfl rfl (by decide) ?_   -- 30
      refine .un rfl rfl (by decide) ?_   -- 31
      refine .un rfl rfl (by decide) ?_   -- 32
      refine .un rfl rfl (by decide) ?_   -- 33
      refine .un rfl rfl (by decide) ?_   -- 34
      refine .un rfl rfl (by decide) ?_   -- 35
      refine .un rfl rfl (by decide) ?_   -- 36
      refine .rd rfl rfl (by decide) rfl (by decide) zz1 ?_   -- 37
      refine .done ?_
      refine .condT rfl ?_
      refine .seq ?_
      refine .rn ?_
      refine .ret ?_
      refine ⟨_, _, zz2,zz2, ?_⟩
      rw [oE_no c18 (oB_row c33 hR)]
     ·first | cases c43 | (simp only [Bool.not_eq_true', Bool.not_eq_false', Bool.not_not, Bool.not_true, Bool.not_false] at c43; cases c43) | try rw [c43]
      try simp at c43
      have c43 : 0 ≤ g[k] ∧ g[k] ≤ (ws.length : Int) - 1 := by simpa using hb43
      have hI : InN ws.length g[k] := ⟨by omega, by omega⟩
      refine .rd rfl rfl (by decide) rfl (by decide) zz1 ?_   -- 7
      refine .rd rfl rfl (by decide) rfl (by decide) zz1 ?_   -- 8
      refine .rd rfl rfl (by decide) rfl (by decide) zz1 ?_   -- 9
      refine .split (t := 46) rfl (fun c46 => ?_) (fun c46 => ?_)
      ·first | cases c46 | (simp only [Bool.not_eq_true', Bool.not_eq_false', Bool.not_not, Bool.not_true, Bool.not_false] at c46; cases c46) | try rw [c46]
       try simp at c46
       have c46 : 0 < k := by simpa using hb46
       have hw4 := hw3 c46
       have hk1 : k - 1 < g.length := by omega
       have hgk1 := nx_at hk1
       obtain ⟨b56, hb56⟩ : ∃ b, decide (g[k] ≤ g[k - 1]) = b := ⟨_, rfl⟩
       refine .rd rfl rfl (by decide) rfl (by decide) zz1 ?_   -- 10
       refine .rd rfl rfl (by decide) rfl (by decide) zz1 ?_   -- 11
       refine .rd rfl rfl (by decide) rfl (by decide) zz1 ?_   -- 12
       refine .rd rfl rfl (by decide) rfl (by decide) zz1 ?_   -- 13
       refine .rd rfl rfl (by decide) rfl (by decide) zz1 ?_   -- 14
       refine .rd rfl rfl (by decide) rfl (by decide) zz1 ?_   -- 15
       refine .rd rfl rfl (by decide) rfl (by decide) zz1 ?_   -- 16
       refine .rd rfl rfl (by decide) rfl (by decide) zz1 ?_   -- 17
       refine .rd rfl rfl (by decide) rfl (by decide) zz1 ?_   -- 18
       refine .rd rfl rfl (by decide) rfl (by decide) zz1 ?_   -- 19
       refine .split (t := 56) rfl (fun c56 => ?_) (fun c56 => ?_)
       ·first | cases c56 | (simp only [Bool.not_eq_true', Bool.not_eq_false', Bool.not_not, Bool.not_true, Bool.not_false] at c56; cases c56) | try rw [c56]
        try simp at c56
        have c56 : g[k] ≤ g[k - 1] := by simpa using hb56
        have hR : rowO ws.length g o k = false := rowO_f fun h => by
         have := h.2.1
         rw [hgk, hgk1] at this
         omega
        refine .un rfl rfl (by decide) ?_   -- 20
        refine .un rfl rfl (by decide) ?_   -- 21
        refine .un rfl rfl (by decide) ?_   -- 22
        refine .un rfl rfl (by decide) ?_   -- 23
        refine .un rfl rfl (by decide) ?_   -- 24
        refine .un rfl rfl (by decide) ?_   -- 25
        refine .un rfl rfl (by decide) ?_   -- 26
        refine .rd rfl rfl (by decide) rfl (by decide) zz1 ?_   -- 27
        refine .rd rfl rfl (by decide) rfl (by decide) zz1 ?_   -- 28
        refine .un rfl rfl (by decide) ?_   -- 29
        refine .un rfl rfl (by decide) ?_   -- 30
        refine .un rfl rfl (by decide) ?_   -- 31
        refine .un rfl rfl (by decide) ?_   -- 32
        refine .un rfl rfl (by decide) ?_   -- 33
        refine .un rfl rfl (by decide) ?_   -- 34
        refine .un rfl rfl (by decide) ?_   -- 35
        refine .un rfl rfl (by decide) ?_   -- 36
        refine .rd rfl rfl (by decide) rfl (by decide) zz1 ?_   -- 37
        refine .done ?_
        refine .condT rfl ?_
        refine .seq ?_
        refine .rn ?_
        refine .ret ?_
        refine ⟨_, _, zz2,zz2, ?_⟩
        rw [oE_no c18 (oB_row c33 hR)]
       ·first | cases c56 | (simp only [Bool.not_eq_true', Bool.not_eq_false', Bool.not_not, Bool.not_true, Bool.not_false] at c56; cases c56) | try rw [c56]
        try simp at c56
        have c56 : ¬g[k] ≤ g[k - 1] := by simpa using hb56
        refine .rd rfl rfl (by decide) rfl (by decide) zz1 ?_   -- 20
        refine .rd rfl rfl (by decide) rfl (by decide) zz1 ?_   -- 21
        refine .rd rfl rfl (by decide) rfl (by decide) zz1 ?_   -- 22
        refine .rd rfl rfl (by decide) rfl (by decide) zz1 ?_   -- 23
        refine .rd rfl rfl (by decide) rfl (by decide) zz1 ?_   -- 24
        refine .wr rfl rfl (by decide) (.pure rfl rfl rfl Tryz.call99 (by decide) ((by first | (have := p99 g o[k] h2; rw [hb65] at this; exact this) | (have := p99 (o.take k) o[k] htl; rw [ints, List.map_take] at this; exact this))) (by first | rfl | simp [*]) ?_)
        rintro _ rfl
        refine .rd rfl rfl (by decide) rfl (by decide) zz1 ?_   -- 26
        refine .rd rfl rfl (by decide) rfl (by decide) zz1 ?_   -- 27
        refine .rd rfl rfl (by decide) rfl (by decide) zz1 ?_   -- 28
        refine .split (t := 65) rfl (fun c65 => ?_) (fun c65 => ?_)
        ·first | cases c65 | (simp only [Bool.not_eq_true', Bool.not_eq_false', Bool.not_not, Bool.not_true, Bool.not_false] at c65; cases c65) | try rw [c65]
         try simp at c65
         have c65 : o[k] ∉ g := by simpa using hb65
         have hR : rowO ws.length g o k = false := rowO_f fun h => by
          have := h.2.2.1
          rw [hok] at this
          exact c65 this
         refine .un rfl rfl (by decide) ?_   -- 29
         refine .un rfl rfl (by decide) ?_   -- 30
         refine .un rfl rfl (by decide) ?_   -- 31
         refine .un rfl rfl (by decide) ?_   -- 32
         refine .un rfl rfl (by decide) ?_   -- 33
         refine .un rfl rfl (by decide) ?_   -- 34
         refine .un rfl rfl (by decide) ?_   -- 35
         refine .un rfl rfl (by decide) ?_   -- 36
         refine .rd rfl rfl (by decide) rfl (by decide) zz1 ?_   -- 37
         refine .done ?_
         refine .condT rfl ?_
         refine .seq ?_
         refine .rn ?_
         refine .ret ?_
         refine ⟨_, _, zz2,zz2, ?_⟩
         rw [oE_no c18 (oB_row c33 hR)]
        ·first | cases c65 | (simp only [Bool.not_eq_true', Bool.not_eq_false', Bool.not_not, Bool.not_true, Bool.not_false] at c65; cases c65) | try rw [c65]
         try simp at c65
         have c65 : o[k] ∈ g := by simpa using hb65
         refine .rd rfl rfl (by decide) rfl (by decide) zz1 ?_   -- 29
         refine .rd rfl rfl (by decide) rfl (by decide) zz1 ?_   -- 30
         refine .rd rfl rfl (by decide) rfl (by decide) zz1 ?_   -- 31
         refine .rd rfl rfl (by decide) rfl (by decide) zz1 ?_   -- 32
         refine .rd rfl rfl (by decide) rfl (by decide) zz1 ?_   -- 33
         refine .rd rfl rfl (by decide) rfl (by decide) zz1 ?_   -- 34
         refine .rd rfl rfl (by decide) rfl (by decide) zz1 ?_   -- 35
         refine .wr rfl rfl (by decide) (.pure rfl rfl rfl Tryz.call99 (by decide) ((by first | (have := p99 g o[k] h2; rw [hb65] at this; exact this) | (have := p99 (o.take k) o[k] htl; rw [ints, List.map_take] at this; exact this))) (by first | rfl | simp [*]) ?_)
         rintro _ rfl
         refine .rd rfl rfl (by decide) rfl (by decide) zz1 ?_   -- 37
         refine .done ?_
         refine .condS rfl (fun c74 => ?_) (fun c74 => ?_)
         ·try simp at c74
          have hR : rowO ws.length g o k = false := rowO_f fun h => by
           have := h.2.2.2
           rw [hok] at this
           exact this c74
          refine .seq ?_
          refine .rn ?_
          refine .ret ?_
          refine ⟨_, _, zz2,zz2, ?_⟩
          rw [oE_no c18 (oB_row c33 hR)]
         ·try simp at c74
          have hR : rowO ws.length g o k = true := rowO_iff.2 (by
           rw [hgk, hok]
           refine ⟨hI, ?_, c65, c74⟩
           first | exact .inl (by omega) | exact .inr (by rw [hgk1]; omega))
          obtain ⟨s, hs, hse⟩ := hI.nat
          have hsl : s < l.length := by omega
          have hls := nx_at hsl
          refine .skip ?_
          refine .rn ?_
          refine .rn ?_
          refine ⟨k + 1, ⟨zz3, all_lt_succ hr hR⟩, zz3,(.mk [] [(7,9)] zz8 zz9 rfl rfl rfl)⟩
      ·first | cases c46 | (simp only [Bool.not_eq_true', Bool.not_eq_false', Bool.not_not, Bool.not_true, Bool.not_false] at c46; cases c46) | try rw [c46]
       try simp at c46
       have c46 : ¬0 < k := by simpa using hb46
       refine .un rfl rfl (by decide) ?_   -- 10
       refine .un rfl rfl (by decide) ?_   -- 11
       refine .un rfl rfl (by decide) ?_   -- 12
       refine .un rfl rfl (by decide) ?_   -- 13
       refine .un rfl rfl (by decide) ?_   -- 14
       refine .un rfl rfl (by decide) ?_   -- 15
       refine .un rfl rfl (by decide) ?_   -- 16
       refine .rd rfl rfl (by decide) rfl (by decide) zz1 ?_   -- 17
       refine .rd rfl rfl (by decide) rfl (by decide) zz1 ?_   -- 18
       refine .rd rfl rfl (by decide) rfl (by decide) zz1 ?_   -- 19
       refine .rd rfl rfl (by decide) rfl (by decide) zz1 ?_   -- 20
       refine .rd rfl rfl (by decide) rfl (by decide) zz1 ?_   -- 21
       refine .rd rfl rfl (by decide) rfl (by decide) zz1 ?_   -- 22
       refine .rd rfl rfl (by decide) rfl (by decide) zz1 ?_   -- 23
       refine .rd rfl rfl (by decide) rfl (by decide) zz1 ?_   -- 24
       refine .wr rfl rfl (by decide) (.pure rfl rfl rfl Tryz.call99 (by decide) ((by first | (have := p99 g o[k] h2; rw [hb65] at this; exact this) | (have := p99 (o.take k) o[k] htl; rw [ints, List.map_take] at this; exact this))) (by first | rfl | simp [*]) ?_)
       rintro _ rfl
       refine .rd rfl rfl (by decide) rfl (by decide) zz1 ?_   -- 26
       refine .rd rfl rfl (by decide) rfl (by decide) zz1 ?_   -- 27
       refine .rd rfl rfl (by decide) rfl (by decide) zz1 ?_   -- 28
       refine .split (t := 65) rfl (fun c65 => ?_) (fun c65 => ?_)
       ·first | cases c65 | (simp only [Bool.not_eq_true', Bool.not_eq_false', Bool.not_not, Bool.not_true, Bool.not_false] at c65; cases c65) | try rw [c65]
        try simp at c65
        have c65 : o[k] ∉ g := by simpa using hb65
        have hR : rowO ws.length g o k = false := rowO_f fun h => by
         have := h.2.2.1
         rw [hok] at this
         exact c65 this
        refine .un rfl rfl (by decide) ?_   -- 29
        refine .un rfl rfl (by decide) ?_   -- 30
        refine .un rfl rfl (by decide) ?_   -- 31
        refine .un rfl rfl (by decide) ?_   -- 32
        refine .un rfl rfl (by decide) ?_   -- 33
        refine .un rfl rfl (by decide) ?_   -- 34
        refine .un rfl rfl (by decide) ?_   -- 35
        refine .un rfl rfl (by decide) ?_   -- 36
        refine .rd rfl rfl (by decide) rfl (by decide) zz1 ?_   -- 37
        refine .done ?_
        refine .condT rfl ?_
        refine .seq ?_
        refine .rn ?_
        refine .ret ?_
        refine ⟨_, _, zz2,zz2, ?_⟩
        rw [oE_no c18 (oB_row c33 hR)]
       ·first | cases c65 | (simp only [Bool.not_eq_true', Bool.not_eq_false', Bool.not_not, Bool.not_true, Bool.not_false] at c65; cases c65) | try rw [c65]
        try simp at c65
        have c65 : o[k] ∈ g := by simpa using hb65
        refine .rd rfl rfl (by decide) rfl (by decide) zz1 ?_   -- 29
        refine .rd rfl rfl (by decide) rfl (by decide) zz1 ?_   -- 30
        refine .rd rfl rfl (by decide) rfl (by decide) zz1 ?_   -- 31
        refine .rd rfl rfl (by decide) rfl (by decide) zz1 ?_   -- 32
        refine .rd rfl rfl (by decide) rfl (by decide) zz1 ?_   -- 33
        refine .rd rfl rfl (by decide) rfl (by decide) zz1 ?_   -- 34
        refine .rd rfl rfl (by decide) rfl (by decide) zz1 ?_   -- 35
        refine .wr rfl rfl (by decide) (.pure rfl rfl rfl Tryz.call99 (by decide) ((by first | (have := p99 g o[k] h2; rw [hb65] at this; exact this) | (have := p99 (o.take k) o[k] htl; rw [ints, List.map_take] at this; exact this))) (by first | rfl | simp [*]) ?_)
        rintro _ rfl
        refine .rd rfl rfl (by decide) rfl (by decide) zz1 ?_   -- 37
        refine .done ?_
        refine .condS rfl (fun c74 => ?_) (fun c74 => ?_)
        ·try simp at c74
         have hR : rowO ws.length g o k = false := rowO_f fun h => by
          have := h.2.2.2
          rw [hok] at this
          exact this c74
         refine .seq ?_
         refine .rn ?_
         refine .ret ?_
         refine ⟨_, _, zz2,zz2, ?_⟩
         rw [oE_no c18 (oB_row c33 hR)]
        ·try simp at c74
         have hR : rowO ws.length g o k = true := rowO_iff.2 (by
          rw [hgk, hok]
          refine ⟨hI, ?_, c65, c74⟩
          first | exact .inl (by omega) | exact .inr (by rw [hgk1]; omega))
         obtain ⟨s, hs, hse⟩ := hI.nat
         have hsl : s < l.length := by omega
         have hls := nx_at hsl
         refine .skip ?_
         refine .rn ?_
         refine .rn ?_
         refine ⟨k + 1, ⟨zz3, all_lt_succ hr hR⟩, zz3,(.mk [] [(7,9)] zz8 zz9 rfl rfl rfl)⟩
    ·try simp at c33
     have hkn : k = g.length := by omega
     subst hkn
     rw [List.take_length]
     have hgi : ∀ x ∈ g, InN ws.length x := fun x hx => by
      obtain ⟨i, hi, rfl⟩ := List.mem_iff_getElem.1 hx
      have := (rowO_iff.1 (hr i hi)).1
      rwa [nx_at hi] at this
     have hbt := oB_bet (l := l) hog hr
     have hnl := nowL_len l g
     refine .exit ?_
     refine .seq ?_
     refine .seq ?_
     refine .regionL [0,1,2,3,4,5] rfl zz0 ?_
     refine .rn [0,1,2,3] [4,5] ?_
     refine .step rfl rfl (.borrow rfl rfl rfl Tryz.call100 (by decide) (by first | (simp <;> rfl) | (simp [*] <;> rfl) | (simp [*]; done)) (p100 ws g o (nowL l g) hl hll h2 hgi (by omega) (by omega)) (by rintro _ rfl <;> first | (simp; done) | rfl) ?_)
     rintro _ rfl
     refine .rn [5] [] ?_
     refine .done ?_
     refine .condS rfl (fun c88 => ?_) (fun c88 => ?_)
     ·try simp at c88
      refine .seq ?_
      refine .rn ?_
      refine .ret ?_
      refine ⟨_, _, zz2,zz2, ?_⟩
      rw [oE_no c18 (by rw [hbt]; exact c88)]
     ·try simp at c88
      refine .skip ?_
      refine .seq ?_
      refine .rn ?_
      refine .ret ?_
      refine ⟨_, _, zz2,zz2, ?_⟩
      rw [oE_yes c18 (by rw [hbt]; exact c88)]
end Go.Am.Hi
end

section
namespace Go.Am.Hi
open Go Go.Am Go.Proofs
set_option maxRecDepth 100000
set_option maxHeartbeats 4000000
set_option linter.unusedSimpArgs false
set_option linter.unusedVariables false
attribute [local simp] vrun vwanted vyielded vop vopA vputAll VHeap.back hidI hidF backL bm Nat.testBit_eq_decide_div_mod_eq veval vevals vparts vO vbuiltin vlen vappend velems vcopy vmakeSlice vbuildSlice valloc vbox vmakeMap vload vpartT vpart vstore vfieldAddr vfield vindexAddr vindex vextract vslice vsliceZ vbounds vbnd zeroO vidx vlookup vmget vmapUpdate vdelete vclear vnilq vnilp vnils vbin vsc vsc1 vscs vscl abinOp aint ashift aunOp aconvert amaxs amax2 pvcV pvc pvcs tput tget vargs VHeap.get VHeap.alloc VHeap.put VHeap.drop VHeap.empty vlook vput vdrop psplice pfill preps chunk List.range List.range.loop vresults vresult vresultV frz frzL PV.isF PV.allF PV.scal PV.allS retP subT allFT PV.one PV.ids PV.idsL dropL beq_eq ble_dec blt_dec
theorem flat_row : ∀ l : List (List Int),(l.map ints).flatMap PV.cells = l.map ints
 | [] => rfl
 | a :: r => by simp only [List.map_cons, List.flatMap_cons, flat_row r]; rfl
theorem grw_row (l : List (List Int)) (h : 0 < l.length) (vh : VHeap) (n2 : Nat) (D : Nat → Bool) (ρ : Nat → Nat) : AltO vh n2 D ρ (.grow 1 (l.map ints)) (.arr false 1 (l.map ints)) := by
 cases l with
 | nil => simp at h
 | cons a r => exact ⟨rfl, ⟨_, _, rfl⟩, flat_row _⟩
theorem set_putW (r : List (List Int)) (a : Nat) (y : List Int) (h : a < r.length) : (r.map ints).take a ++ ints y :: (r.map ints).drop (a + 1) = (r.set a y).map ints := by
 rw [List.map_set, List.set_eq_take_append_cons_drop, if_pos (by simpa using h)]
@[simp] theorem all_one_row (l : List (List Int)) : (l.map ints).all PV.one = true := by simp [PV.one, ints]
theorem vel_row (vh : VHeap) (i : Nat) (l : List (List Int)) (n : Nat) (hn : l.length = n) (hg : vh.get i = some (.arr false 1 (l.map ints))) : velems vh 1 (.sub i 0 n) = some (l.map ints) := by
 subst hn
 have h2 : (l.map ints).take l.length = l.map ints := by
  have := List.take_length (l := l.map ints); simpa using this
 simp only [hg, velems, all_one_row, beq_eq, ble_dec, List.drop_zero, chunk, cond_false, h2, List.length_map]
 simp
theorem alt_row {vh : VHeap} {n2 : Nat} {D : Nat → Bool} {ρ : Nat → Nat} (i : Nat) (l : List (List Int)) (n : Nat) (hn : l.length = n) (hD : D i = true) (hg : vh.get i = some (.arr false 1 (l.map ints))) : Alt vh n2 D ρ (.sub i 0 n) (.vec (l.map ints)) :=
 .fsub i 0 n false 1 _ _ hD hg (vel_row vh i l n hn hg)
theorem p94e0 : VPure Tryz.prog 94 [.vec []] fun r => r = .vec [] ∨ r = .sl0 := by
 refine .of_body Tryz.func94 rfl rfl ?_
 refine .seq ?_
 refine .rn ?_
 refine .seq ?_
 refine .seq ?_
 refine .regionL [0,1] rfl zz0 ?_
 refine .rn [0] [1] ?_
 refine .step rfl rfl (.nilQ ⟨_, rfl⟩ u22 rfl rfl (by decide) fun q => ?_)
 refine .done ?_
 cases q with
 | true =>
  refine .condT rfl ?_
  refine .seq ?_
  refine .rn ?_
  refine .ret ?_
  exact ⟨_, .sl0,zz2,(by simp), .inr rfl⟩
 | false =>
  refine .condF rfl ?_
  refine .skip ?_
  refine .seq ?_
  refine .rn ?_
  refine .ret ?_
  first | exact ⟨_, .vec [],zz2,(by simp), .inl rfl⟩ | exact ⟨_, .sl0,zz2,(by simp), .inr rfl⟩
theorem p94n (l : List Int) (hl : l.length < 4294967296) (h0 : 0 < l.length) : VPure Tryz.prog 94 [ints l] fun r => r = ints l := by
 obtain ⟨a, r, rfl⟩ : ∃ a r, l = a :: r := by cases l with | nil => simp at h0 | cons a r => exact ⟨a, r, rfl⟩
 have hl3 : r.length + 1 ≤ 4294967296 := by simp at hl; omega
 have h1 : allSz 1 (PV.int .i64 a :: r.map (PV.int .i64)) = true := allSz_map (f := PV.int .i64) (n := 1) (fun _ => rfl) (a :: r)
 have h2 : allOne (PV.int .i64 a :: r.map (PV.int .i64)) = true := allOne_map (f := PV.int .i64) (fun _ => rfl) (a :: r)
 refine .of_body Tryz.func94 rfl rfl ?_
 refine .seq ?_
 refine .rn ?_
 refine .seq ?_
 refine .seq ?_
 refine .rn ?_
 refine .condS rfl (fun c4 => ?_) (fun c4 => ?_)
 ·try simp at c4
 ·try simp at c4
  refine .skip ?_
  refine .seq ?_
  refine .rn ?_
  refine .ret ?_
  refine ⟨_, _, zz2,zz2, ?_⟩
  first | rfl | (simp [*]; done) | (simp_all; done)
theorem p94a (l : List Int) (hl : l.length < 4294967296) : VPure Tryz.prog 94 [ints l] fun r => r = ints l := by
 cases l with
 | nil =>
  exact p94e0.alt fun r h => by
   rcases h with rfl | rfl
   ·exact ⟨.vec [], .same _ rfl, rfl, rfl⟩
   ·exact ⟨.vec [], .sl0v, rfl, rfl⟩
 | cons a r => exact p94n (a :: r) hl (by simp)
theorem tellW_nat (ws : List (List Int)) (s : Nat) (w : List Int) : tellW ws (s : Int) w = ws.set s w := by unfold tellW; rw [Int.toNat_natCast]
theorem set_take_at (ws : List (List Int)) (s : Nat) (w : List Int) (k : Nat) (h : k < ws.length) : (ws.set s w).take (k + 1) = (ws.set s w).take k ++ [if s = k then w else ws[k]] := by
 rw [List.take_succ_eq_append_getElem (by simpa using h), List.getElem_set]
theorem row_take (ws : List (List Int)) (k : Nat) (h : k < ws.length) : ws.take (k + 1) = ws.take k ++ [ws[k]] := List.take_succ_eq_append_getElem h
theorem p31 (ws : List (List Int)) (s : Int) (w : List Int) (hl : ws.length < 4294967296) (hll : ∀ l ∈ ws, l.length < 4294967296) (hw : w.length < 4294967296) : VPure Tryz.prog 31 [encM ws, .int .i64 s, ints w] fun r => Soft r (.tup [encM (tlW ws s w), .int .i64 (tlE ws s w)]) := by
 refine .of_body Tryz.func31 rfl rfl ?_
 refine .seq ?_
 refine .rn ?_
 refine .seq ?_
 refine .seq ?_
 refine .regionL [0,1,2] rfl zz0 ?_
 refine .rn [0] [1,2] ?_
 refine .step rfl rfl (.pure rfl rfl rfl Tryz.call39 (by decide) (p39 ws hl hll) (by first | rfl | simp [*]) ?_)
 rintro _ rfl
 refine .rn [2] [] ?_
 refine .done ?_
 refine .seq ?_
 refine .rn ?_
 refine .condS rfl (fun c16 => ?_) (fun c16 => ?_)
 ·try simp at c16
  refine .seq ?_
  refine .rn ?_
  refine .ret ?_
  have e := tlE_err (s := s) (w := w) c16
  refine ⟨_, _, zz2,zz2, ?_⟩
  rw [tlW_err e c16, e]
  exact soft_tup (AltL.cons (Alt.agg' (AltL.cons .sl0v AltL.nil)) (AltL.cons (.same _ rfl) AltL.nil))
 ·try simp at c16
  have hwl : IntKind.i64.wrap ((ws.length : Int) - 1) = (ws.length : Int) - 1 := wrap64 (by omega) (by omega)
  refine .skip ?_
  refine .seq ?_
  refine .seq ?_
  refine .regionL [0,1,2,3,4,5,6] rfl zz0 ?_
  refine .rn [0,1,2,3,4] [5,6] ?_
  refine .step rfl rfl (.pure rfl rfl rfl Tryz.call70 (by decide) (p70 s 0 ((ws.length : Int) - 1)) (by first | rfl | simp [*]) ?_)
  rintro _ rfl
  refine .rn [6] [] ?_
  refine .done ?_
  refine .condS rfl (fun c25 => ?_) (fun c25 => ?_)
  ·try simp at c25
   refine .seq ?_
   refine .rn ?_
   refine .ret ?_
   have e := tlE_arg (s := s) (w := w) c16 (by omega)
   refine ⟨_, _, zz2,zz2, ?_⟩
   rw [tlW_err e (by decide), e]
   exact soft_tup (AltL.cons (Alt.agg' (AltL.cons .sl0v AltL.nil)) (AltL.cons (.same _ rfl) AltL.nil))
  ·try simp at c25
   have hsr : 0 ≤ s ∧ s ≤ (ws.length : Int) - 1 := by omega
   have hE := tlE_new (w := w) c16 hsr
   obtain ⟨a, rfl⟩ : ∃ a : Nat, s = a := ⟨s.toNat, by omega⟩
   rw [tellW_nat] at hE
   have ha : a < ws.length := by omega
   have hpos : 0 < ws.length := by omega
   refine .skip ?_
   refine .seq ?_
   refine .rn ?_
   refine .seq ?_
   refine .seq ?_
   refine .rn ?_
   refine .block ?_
   refine .loopS (fun k : Nat => ([(1, .int .i64 a),(2, ints w),(6, .ptr 1 0),(9, .ptr 2 0),(28, .vec (ws.map ints)),(29, .int .i64 ws.length),(30, .int .i64 k)], ⟨4,[(3, .grow 1 ((ws.take k).map ints)),(2, .box [.grow 3 k true]),(1, .box [.sl0])]⟩)) (fun k => k ≤ ws.length) (fun k => ws.length - k) 0 (Nat.zero_le _) (.mk [0] [] zz14 zz15 rfl rfl rfl) ?_
   rintro k hk
   simp only at hk ⊢
   have htl : (ws.take k).length = k := by rw [List.length_take]; omega
   have hTk : k = ws.length → ws.take k = ws := fun h => by rw [h, List.take_length]
   have hS0 := row_take ws k
   obtain ⟨T, hT⟩ : ∃ T, ws.take k = T := ⟨_, rfl⟩
   rw [hT] at htl hTk hS0 ⊢
   refine .seq ?_
   refine .rn ?_
   refine .seq ?_
   refine .condS rfl (fun c31 => ?_) (fun c31 => ?_)
   ·try simp at c31
    have hw2 : IntKind.i64.wrap ((k : Int) + 1) = (k : Int) + 1 := wrap64 (by omega) (by omega)
    have hS := hS0 c31
    have hk4 : k + 1 ≤ 4294967296 := by omega
    have hL := hll ws[k] (List.getElem_mem c31)
    refine .skip ?_
    refine .seq ?_
    refine .block ?_
    refine .seq ?_
    refine .rn ?_
    refine .drawn (ms := [0,1,0,4,12,31,63,127]) (W := [3,4,5,7]) (items := [.op 0, .op 1, .op 2, .op 3, .ck 1, .op 4, .ck 1, .op 5, .op 6, .op 7]) rfl zz0 zz0 zz0 ?_
    refine .rd rfl rfl (by decide) rfl (by decide) zz1 ?_   -- 0
    refine .rd rfl rfl (by decide) rfl (by decide) zz1 ?_   -- 1
    refine .rd rfl rfl (by decide) rfl (by decide) zz1 ?_   -- 2
    refine .wr rfl rfl (by decide) (.pure rfl rfl rfl Tryz.call94 (by decide) (p94a ws[k] hL) (by first | rfl | simp [*]) ?_)
    rintro _ rfl
    refine .ck rfl zz0 ?_   -- 1
    refine .wr rfl rfl (by decide) (.vop zz1 (by decide) ?_)   -- 4
    refine .ck rfl zz0 ?_   -- 1
    refine .wr rfl rfl (by decide) (.vop zz1 (by decide) ?_)   -- 5
    refine .rd rfl rfl (by decide) rfl (by decide) zz1 ?_   -- 6
    refine .wr rfl rfl (by decide) (.vop zz1 (by decide) ?_)   -- 7
    refine .done ?_
    refine .rn ?_
    refine ⟨k + 1, c31,zz3,(.mk [] [(3,5)] zz8 zz9 rfl rfl rfl)⟩
   ·try simp at c31
    have hkn : k = ws.length := by omega
    rw [hTk hkn, hkn]
    refine .exit ?_
    refine .seq ?_
    refine .rec (vts2 := [(1, .int .i64 a),(2, ints w),(6, .ptr 1 0),(9, .ptr 2 0)]) (vh2 := ⟨4,[(3, .arr false 1 (ws.map ints)),(2, .box [.sub 3 0 ws.length]),(1, .box [.sl0])]⟩) (.mk [] [] zz19 (by repeat' (first | exact trivial | refine And.intro (And.intro (Nat.le_of_ble_eq_true rfl) (Or.inr (And.intro rfl (Exists.intro _ (And.intro rfl ?_))))) ?_ | exact grw_row ws hpos _ _ _ _ | refine AltL.cons ?_ ?_ | exact AltL.nil | exact Alt.growS _ _ _ _ 1 _ (Nat.le_of_ble_eq_true rfl) rfl rfl (by simp) hpos | exact Alt.sl0 _ _ | exact Alt.same _ rfl)) rfl rfl rfl) ?_
    have hP := set_putW ws a w ha
    have ha1 : a + 1 ≤ ws.length := ha
    refine .drawn (ms := [0,1,0,0,8,31,63]) (W := [4,6]) (items := [.op 0, .op 1, .op 2, .op 3, .op 4, .ck 1, .op 5, .op 6]) rfl zz0 zz0 zz0 ?_
    refine .rd rfl rfl (by decide) rfl (by decide) zz1 ?_   -- 0
    refine .rd rfl rfl (by decide) rfl (by decide) zz1 ?_   -- 1
    refine .rd rfl rfl (by decide) rfl (by decide) zz1 ?_   -- 2
    refine .rd rfl rfl (by decide) rfl (by decide) zz1 ?_   -- 3
    refine .wr rfl rfl (by decide) (.pure rfl rfl rfl Tryz.call94 (by decide) (p94a w hw) (by first | rfl | simp [*]) ?_)
    rintro _ rfl
    refine .ck rfl zz0 ?_   -- 1
    refine .rd rfl rfl (by decide) rfl (by decide) zz1 ?_   -- 5
    refine .wr rfl rfl (by decide) (.vop zz1 (by decide) ?_)   -- 6
    refine .done ?_
    refine .seq ?_
    refine .seq ?_
    refine .rec (vts2 := [(6, .ptr 1 0),(9, .ptr 2 0)]) (vh2 := ⟨3,[(2, .box [.vec ((ws.set a w).map ints)]),(1, .box [.sl0])]⟩) (.mk [3] [] zz20 zz21 rfl rfl rfl) ?_
    have hVl : (ws.set a w).length < 4294967296 := by rw [List.length_set]; exact hl
    have hVm : ∀ l ∈ ws.set a w, l.length < 4294967296 := fun l h => (List.mem_or_eq_of_mem_set h).elim (hll l) fun h => by rw [h]; exact hw
    obtain ⟨V, hV⟩ : ∃ V, ws.set a w = V := ⟨_, rfl⟩
    rw [hV] at hE hVl hVm ⊢
    clear hP hTk hS0 hT
    refine .regionL [0,1,2] rfl zz0 ?_
    refine .rn [0] [1,2] ?_
    refine .step rfl rfl (.pure rfl rfl rfl Tryz.call39 (by decide) (p39 V hVl hVm) (by first | rfl | simp [*]) ?_)
    rintro _ rfl
    refine .rn [2] [] ?_
    refine .done ?_
    refine .seq ?_
    refine .rn ?_
    refine .condS rfl (fun c51 => ?_) (fun c51 => ?_)
    ·try simp at c51
     refine .seq ?_
     refine .rn ?_
     refine .ret ?_
     have e : tlE ws a w = mkE V := hE
     refine ⟨_, _, zz2,zz2, ?_⟩
     rw [tlW_err e c51, e]
     exact soft_tup (AltL.cons (Alt.agg' (AltL.cons .sl0v AltL.nil)) (AltL.cons (.same _ rfl) AltL.nil))
    ·try simp at c51
     refine .skip ?_
     refine .seq ?_
     refine .rn ?_
     refine .ret ?_
     have e : tlE ws a w = 0 := by rw [hE, c51]
     refine ⟨_, .tup [encM V, .int .i64 0],zz2,zz2, ?_⟩
     rw [tlW_yes e, tellW_nat, hV, e]; exact soft_rfl rfl
theorem p63 (ws : List (List Int)) (s : Int) (w : List Int) (hl : ws.length < 4294967296) (hll : ∀ l ∈ ws, l.length < 4294967296) (hw : w.length < 4294967296) : VPure Tryz.prog 63 [encM ws, .int .i64 s, ints w] fun r => Soft r (.agg [.vec ((tlW ws s w).map ints), .int .i64 (tlE ws s w)]) := by
 refine .of_body Tryz.func63 rfl rfl ?_
 refine .seq ?_
 refine .rn ?_
 refine .seq ?_
 refine .regionL [0,1,2] rfl zz0 ?_
 refine .rn [0] [1,2] ?_
 refine .step rfl rfl (.pure rfl rfl rfl Tryz.call40 (by decide) (p40 ws hl hll) (by first | rfl | simp [*]) ?_)
 rintro _ rfl
 refine .rn [2] [] ?_
 refine .done ?_
 refine .seq ?_
 refine .seq ?_
 refine .rn ?_
 refine .condS rfl (fun c13 => ?_) (fun c13 => ?_)
 ·try simp at c13
  refine .seq ?_
  refine .rn ?_
  refine .ret ?_
  have e := tlE_err (s := s) (w := w) c13
  refine ⟨_, _, zz2,zz2, ?_⟩
  rw [tlW_err e c13, e]
  exact Alt.agg' (AltL.cons .sl0v (AltL.cons (.same _ rfl) AltL.nil))
 ·try simp at c13
  have hwl : IntKind.i64.wrap ((ws.length : Int) - 1) = (ws.length : Int) - 1 := wrap64 (by omega) (by omega)
  refine .skip ?_
  refine .seq ?_
  refine .seq ?_
  refine .regionL [0,1,2,3,4,5,6] rfl zz0 ?_
  refine .rn [0,1,2,3,4] [5,6] ?_
  refine .step rfl rfl (.pure rfl rfl rfl Tryz.call80 (by decide) (p80 s 0 ((ws.length : Int) - 1)) (by first | rfl | simp [*]) ?_)
  rintro _ rfl
  refine .rn [6] [] ?_
  refine .done ?_
  refine .condS rfl (fun c22 => ?_) (fun c22 => ?_)
  ·try simp at c22
   refine .seq ?_
   refine .rn ?_
   refine .ret ?_
   have e := tlE_arg (s := s) (w := w) c13 (by omega)
   refine ⟨_, _, zz2,zz2, ?_⟩
   rw [tlW_err e (by decide), e]
   exact Alt.agg' (AltL.cons .sl0v (AltL.cons (.same _ rfl) AltL.nil))
  ·try simp at c22
   have hsr : 0 ≤ s ∧ s ≤ (ws.length : Int) - 1 := by omega
   have hE := tlE_new (w := w) c13 hsr
   obtain ⟨a, rfl⟩ : ∃ a : Nat, s = a := ⟨s.toNat, by omega⟩
   rw [tellW_nat] at hE
   have ha : a < ws.length := by omega
   refine .skip ?_
   refine .seq ?_
   refine .rn ?_
   refine .seq ?_
   refine .seq ?_
   refine .rn ?_
   refine .block ?_
   refine .loopS (fun k : Nat => ([(1, .int .i64 a),(2, ints w),(3, .vp [.vec (ws.map ints)]),(6, .ptr 1 0),(8, .ptr 2 0),(9, .int .i64 k)], ⟨4,[(3, .grow 1 (((ws.set a w).take k).map ints)),(2, .box [.grow 3 k true]),(1, .box [.sl0, .int .i64 0])]⟩)) (fun k => k ≤ ws.length) (fun k => ws.length - k) 0 (Nat.zero_le _) (.mk [0] [] zz14 zz15 rfl rfl rfl) ?_
   rintro k hk
   simp only at hk ⊢
   have htl : ((ws.set a w).take k).length = k := by rw [List.length_take, List.length_set]; omega
   have hTk : k = ws.length → (ws.set a w).take k = ws.set a w := fun h => List.take_of_length_le (by rw [List.length_set]; omega)
   have hS0 := set_take_at ws a w k
   obtain ⟨T, hT⟩ : ∃ T, (ws.set a w).take k = T := ⟨_, rfl⟩
   rw [hT] at htl hTk hS0 ⊢
   refine .seq ?_
   refine .seq ?_
   refine .rn ?_
   refine .condS rfl (fun c29 => ?_) (fun c29 => ?_)
   ·try simp at c29
    have hw2 : IntKind.i64.wrap ((k : Int) + 1) = (k : Int) + 1 := wrap64 (by omega) (by omega)
    have hS := hS0 c29
    have hk4 : k + 1 ≤ 4294967296 := by omega
    refine .skip ?_
    refine .seq ?_
    refine .block ?_
    refine .seq ?_
    refine .rn ?_
    refine .condS rfl (fun c34 => ?_) (fun c34 => ?_)
    ·try simp at c34
     rw [if_pos (by omega)] at hS
     obtain rfl : a = k := by omega
     refine .rn ?_
     refine .rn ?_
     refine ⟨a + 1, c29,zz3,(.mk [] [(3,5)] zz8 zz9 rfl rfl rfl)⟩
    ·try simp at c34
     rw [if_neg (by omega)] at hS
     refine .drawn (ms := [0,1,0,4,0,28,60,124,255,511,1023]) (W := [7,8,10]) (items := [.op 0, .op 1, .op 2, .op 3, .op 4, .op 5, .op 6, .op 7, .ck 1, .op 8, .op 9, .op 10]) rfl zz0 zz0 zz0 ?_
     refine .rd rfl rfl (by decide) rfl (by decide) zz1 ?_   -- 0
     refine .rd rfl rfl (by decide) rfl (by decide) zz1 ?_   -- 1
     refine .rd rfl rfl (by decide) rfl (by decide) zz1 ?_   -- 2
     refine .rd rfl rfl (by decide) rfl (by decide) zz1 ?_   -- 3
     refine .rd rfl rfl (by decide) rfl (by decide) zz1 ?_   -- 4
     refine .rd rfl rfl (by decide) rfl (by decide) zz1 ?_   -- 5
     refine .rd rfl rfl (by decide) rfl (by decide) zz1 ?_   -- 6
     refine .wr rfl rfl (by decide) (.vop zz1 (by decide) ?_)   -- 7
     refine .ck rfl zz0 ?_   -- 1
     refine .wr rfl rfl (by decide) (.vop zz1 (by decide) ?_)   -- 8
     refine .rd rfl rfl (by decide) rfl (by decide) zz1 ?_   -- 9
     refine .wr rfl rfl (by decide) (.vop zz1 (by decide) ?_)   -- 10
     refine .done ?_
     refine .rn ?_
     refine ⟨k + 1, c29,zz3, ?_⟩
     simp only [hS]
     clear hS0 hTk hS
     exact (.mk [] [(3,5)] zz8 zz9 rfl rfl rfl)
   ·try simp at c29
    have hkn : k = ws.length := by omega
    have hsl : (ws.set a w).length = k := by rw [List.length_set]; omega
    have hVl : (ws.set a w).length < 4294967296 := by rw [List.length_set]; exact hl
    have hVm : ∀ l ∈ ws.set a w, l.length < 4294967296 := fun l h => (List.mem_or_eq_of_mem_set h).elim (hll l) fun h => by rw [h]; exact hw
    rw [hTk hkn]
    clear hTk hS0 hT
    obtain ⟨V, hV⟩ : ∃ V, ws.set a w = V := ⟨_, rfl⟩
    rw [hV] at hE hVl hVm hsl ⊢
    refine .exit ?_
    refine .seq ?_
    refine .regionL [0,1,2] rfl zz0 ?_
    refine .rn [0] [1,2] ?_
    refine .step rfl rfl (.borrow rfl rfl rfl Tryz.call40 (by decide) (by first | (simp <;> rfl) | (simp [*] <;> rfl) | (simp [*]; done)) (p40 V hVl hVm) (by rintro _ rfl <;> first | (simp; done) | rfl) ?_)
    rintro _ rfl
    refine .rn [2] [] ?_
    refine .done ?_
    refine .seq ?_
    refine .seq ?_
    refine .rn ?_
    refine .condS rfl (fun c54 => ?_) (fun c54 => ?_)
    ·try simp at c54
     refine .seq ?_
     refine .rn ?_
     refine .ret ?_
     have e : tlE ws a w = mkE V := hE
     refine ⟨_, _, zz2,zz2, ?_⟩
     rw [tlW_err e c54, e]
     exact Alt.agg' (AltL.cons .sl0v (AltL.cons (.same _ rfl) AltL.nil))
    ·try simp at c54
     refine .skip ?_
     refine .seq ?_
     refine .rn ?_
     refine .ret ?_
     have e : tlE ws a w = 0 := by rw [hE, c54]
     refine ⟨_, .agg [.vec (V.map ints), .int .i64 0],zz2,(by simp [*]), ?_⟩
     ·rw [tlW_yes e, tellW_nat, hV, e]; exact soft_rfl rfl
end Go.Am.Hi
end
