/-
  What is used in the proof of a statement (part HjC); no condition.
-/
import Derived.Test.YtmgglkdilpglgaaGreatHiZ
import Derived.Test.YtmgglkdilpglgaaGreatVm2
import Derived.Test.YtmgglkdilpglgaaGreatHiT
import Derived.Test.YtmgglkdilpglgaaGreatHjB
import Derived.Test.YtmgglkdilpglgaaGreatHiS
set_option linter.all false
section
namespace Go.Am.Hi
open Go Go.Am Go.Proofs
set_option maxRecDepth 100000
set_option maxHeartbeats 4000000
set_option linter.unusedSimpArgs false
set_option linter.unusedVariables false
attribute [local simp] vrun vwanted vyielded vop vopA vputAll VHeap.back hidI hidF backL bm Nat.testBit_eq_decide_div_mod_eq veval vevals vparts vO vbuiltin vlen vappend velems vcopy vmakeSlice vbuildSlice valloc vbox vmakeMap vload vpartT vpart vstore vfieldAddr vfield vindexAddr vindex vextract vslice vsliceZ vbounds vbnd zeroO vidx vlookup vmget vmapUpdate vdelete vclear vnilq vnilp vnils vbin vsc vsc1 vscs vscl abinOp aint ashift aunOp aconvert amaxs amax2 pvcV pvc pvcs tput tget vargs VHeap.get VHeap.alloc VHeap.put VHeap.drop VHeap.empty vlook vput vdrop psplice pfill preps chunk List.range List.range.loop vresults vresult vresultV frz frzL PV.isF PV.allF PV.scal PV.allS retP subT allFT PV.one PV.ids PV.idsL dropL beq_eq ble_dec blt_dec
noncomputable def mkG (ws : List (List Int)) : List Int := if mkE ws = 0 then madeL ws else []
def MkR (ws : List (List Int)) (R : List Int) : Prop := (mkE ws = 0 → AccL ws (mkG ws) R) ∧ (¬mkE ws = 0 → R = [])
theorem mkG_ok {ws : List (List Int)} (h : mkE ws = 0) {G : List Int} (hg : AccG ws G) : mkG ws = G := by
  unfold mkG; rw [if_pos h]; exact madeL_of (mkt_of h) hg
theorem mkG_err {ws : List (List Int)} (h : ¬mkE ws = 0) : mkG ws = [] := by unfold mkG; rw [if_neg h]
theorem p32s (ws : List (List Int)) (hl : ws.length < 4294967296) (hll : ∀ l ∈ ws, l.length < 4294967296) : VPure Tryz.prog 32 [encM ws] fun r => ∃ R, Soft r (.tup [.agg [ints (mkG ws), ints R], .int .i64 (mkE ws)]) ∧ MkR ws R := by
  refine .of_body Tryz.func32 rfl rfl ?_
  refine .seq ?_
  refine .rn ?_
  refine .seq ?_
  refine .seq ?_
  refine .regionL [0,1,2] rfl zz0 ?_
  refine .rn [0] [1,2] ?_
  refine .step rfl rfl (.pure rfl rfl rfl Tryz.call39 (by decide) (p39 ws hl hll) (by first | rfl | simp [*]) ?_)
  rintro _ rfl
  refine .rn [2] [] ?_
  refine .done ?_
  refine .seq ?_
  refine .rn ?_
  refine .condS rfl (fun c8 => ?_) (fun c8 => ?_)
  · try simp at c8
    refine .seq ?_
    refine .rn ?_
    refine .ret ?_
    refine ⟨_, _, zz2,zz2, ⟨[], ?_, fun h => absurd h c8, fun _ => rfl⟩⟩
    rw [mkG_err c8]
    exact soft_tup (AltL.cons (Alt.agg' (AltL.cons .sl0v (AltL.cons .sl0v AltL.nil))) (AltL.cons (.same _ rfl) AltL.nil))
  · try simp at c8
    refine .skip ?_
    refine .seq ?_
    refine .regionL [0,1,2,3] rfl zz0 ?_
    refine .rn [0] [1,2,3] ?_
    refine .step rfl rfl (.pure rfl rfl rfl Tryz.call96 (by decide) (p96 ws (mkt_of c8) hll) (by first | rfl | simp [*]) ?_)
    rintro _ ⟨G, R, rfl, hG⟩
    refine .rn [2,3] [] ?_
    refine .done ?_
    refine .ret ?_
    refine ⟨_, _, zz2,zz2, ⟨R, ?_, fun h => ?_, fun h => absurd c8 h⟩⟩
    · rw [mkG_ok c8 hG.g, c8]; exact soft_rfl rfl
    · rw [mkG_ok h hG.g]; exact hG
theorem p32 (ws : List (List Int)) (hl : ws.length < 4294967296) (hll : ∀ l ∈ ws, l.length < 4294967296) : VPure Tryz.prog 32 [encM ws] fun r => ∃ R, r = .tup [.agg [ints (mkG ws), ints R], .int .i64 (mkE ws)] ∧ MkR ws R :=
  (p32s ws hl hll).alt fun r ⟨R, h1, h2⟩ => ⟨_, h1, rfl, R, rfl, h2⟩
theorem frz_own_agg (vh : VHeap) (i : Nat) (G : List Int) (n : Nat) (e : Int) (hG : G.length = n) (h1 : vh.get i = some (.arr false 1 (G.map (PV.int .i64)))) : frz vh (.agg [.own i 0 n n, .int .i64 e]) = some (.agg [ints G, .int .i64 e]) := by
  have e1 := frz_own_int vh i n G h1
  rw [hG] at e1
  simp only [frz] at e1
  simp only [frz, frzL]
  rw [e1]; rfl
def bR (ws : List (List Int)) (left : List Int) (x : Int) : Int := bstR (ws.getD x.toNat []) x left
theorem bR_at {ws : List (List Int)} {left : List Int} {s : Nat} (hs : s < ws.length) : bR ws left s = bstR ws[s] s left := by
  unfold bR; rw [Int.toNat_natCast]; simp [hs]
theorem bR_in {ws : List (List Int)} {left : List Int} {x : Int} (h : x ∈ left) : bR ws left x ∈ left := bstR_in h
theorem bR_le {ws : List (List Int)} {left : List Int} {x y : Int} (h : y ∈ left) : prk ws x (bR ws left x) ≤ prk ws x y := bstR_le h
def itL (b : Int → Int) (a : Int) (k : Nat) : List Int := (List.range k).map fun i => itr b i a
theorem itL_len (b : Int → Int) (a : Int) (k : Nat) : (itL b a k).length = k := by unfold itL; rw [List.length_map, List.length_range]
theorem itL_succ (b : Int → Int) (a : Int) (k : Nat) : itL b a (k + 1) = itL b a k ++ [itr b k a] := by unfold itL; rw [List.range_succ, List.map_append]; rfl
theorem itL_mem {b : Int → Int} {a : Int} {k : Nat} {x : Int} : x ∈ itL b a k ↔ ∃ i, i < k ∧ itr b i a = x := by
  unfold itL; rw [List.mem_map]; simp [-List.range, -List.range.loop]
theorem itL_at {b : Int → Int} {a : Int} {k i : Nat} (h : i < (itL b a k).length) : (itL b a k)[i] = itr b i a := by simp only [itL, List.getElem_map, List.getElem_range]
theorem itr_in {b : Int → Int} {l : List Int} (hb : ∀ x ∈ l, b x ∈ l) {a : Int} (ha : a ∈ l) : ∀ k, itr b k a ∈ l
  | 0 => ha
  | k + 1 => by rw [itr_succ]; exact hb _ (itr_in hb ha k)
theorem itL_le {b : Int → Int} {l : List Int} (hb : ∀ x ∈ l, b x ∈ l) {a : Int} (ha : a ∈ l) {k : Nat} (hn : (itL b a k).Nodup) : k ≤ l.length := by
  have := hn.length_le_of_subset (l₂ := l) fun x hx => by
    obtain ⟨i, _, rfl⟩ := itL_mem.1 hx
    exact itr_in hb ha i
  rwa [itL_len] at this
structure CycP (b : Int → Int) (left C : List Int) : Prop where
  pos : 0 < C.length
  le : C.length ≤ left.length
  sub : ∀ x ∈ C, x ∈ left
  to : ∀ x ∈ C, b x ∈ C
  back : ∀ x ∈ C, Back b C.length x
theorem cyc_of {b : Int → Int} {l : List Int} (hb : ∀ x ∈ l, b x ∈ l) {a : Int} (ha : a ∈ l) {k j : Nat} (hj : j < k) (hk : k ≤ l.length) (he : itr b j a = itr b k a) : CycP b l ((itL b a k).drop j) := by
  have hlen : ((itL b a k).drop j).length = k - j := by rw [List.length_drop, itL_len]
  have hmem : ∀ x, x ∈ (itL b a k).drop j ↔ ∃ i, i < k - j ∧ itr b (j + i) a = x := fun x => by
    rw [List.mem_iff_getElem]
    constructor
    · rintro ⟨i, hi, rfl⟩
      rw [hlen] at hi
      exact ⟨i, hi, by rw [List.getElem_drop, itL_at]⟩
    · rintro ⟨i, hi, rfl⟩
      exact ⟨i, by rw [hlen]; exact hi, by rw [List.getElem_drop, itL_at]⟩
  have hcyc : ∀ i, itr b (k - j) (itr b (j + i) a) = itr b (j + i) a := fun i => by
    rw [← itr_add, show j + i + (k - j) = k + i by omega, itr_add, ← he, ← itr_add]
  refine ⟨by omega, by omega, fun x hx => ?_, fun x hx => ?_, fun x hx => ?_⟩
  · obtain ⟨i, _, rfl⟩ := (hmem x).1 hx
    exact itr_in hb ha _
  · obtain ⟨i, hi, rfl⟩ := (hmem x).1 hx
    rw [← itr_succ b _ a]
    by_cases h : i + 1 < k - j
    · exact (hmem _).2 ⟨i + 1, h, rfl⟩
    · exact (hmem _).2 ⟨0, by omega, by rw [show j + i + 1 = k by omega, Nat.add_zero, he]⟩
  · obtain ⟨i, _, rfl⟩ := (hmem x).1 hx
    exact ⟨k - j, by omega, by rw [hlen]; exact Nat.le_refl _, hcyc i⟩
theorem p101 (ws : List (List Int)) (a : Int) (left : List Int) (hll : ∀ l ∈ ws, l.length < 4294967296) (h2 : left.length < 4294967296) (hin : ∀ x ∈ left, InN ws.length x) (ha : a ∈ left) : VPure Tryz.prog 101 [encM ws, .int .i64 a, ints left] fun r => ∃ C, r = ints C ∧ CycP (bR ws left) left C := by
  obtain ⟨b, hb⟩ : ∃ b, bR ws left = b := ⟨_, rfl⟩
  have hbi : ∀ x ∈ left, b x ∈ left := fun x hx => by rw [← hb]; exact bR_in hx
  refine .of_body Tryz.func101 rfl rfl ?_
  refine .seq ?_
  refine .rn ?_
  refine .seq ?_
  refine .rn ?_
  refine .seq ?_
  refine .rn ?_
  refine .seq ?_
  refine .block ?_
  refine .loopS (fun k : Nat => ([(2, ints left),(3, .vp [.vec (ws.map ints)]),(7, .grow 0 k true),(8, .int .i64 (itr b k a))], ⟨1,[(0, .grow 1 ((itL b a k).map (.int .i64)))]⟩)) (fun k => (itL b a k).Nodup) (fun k => left.length + 1 - k) 0 List.nodup_nil (.mk [0] [] zz12 zz13 rfl rfl rfl) ?_
  rintro k hk
  simp only at hk ⊢
  have hkl := itL_le hbi ha hk
  have hlen := itL_len b a k
  have hm := itr_in hbi ha k
  obtain ⟨s, hs, hse⟩ := (hin _ hm).nat
  obtain ⟨L, hL⟩ : ∃ L, itL b a k = L := ⟨_, rfl⟩
  have hS : itL b a (k + 1) = L ++ [itr b k a] := by rw [itL_succ, hL]
  have hI : itr b (k + 1) a = bstR ws[s] s left := by rw [itr_succ, hse, ← hb, bR_at hs]
  rw [hL] at hk hlen ⊢
  have hLl := hll ws[s] (List.getElem_mem hs)
  have hk4 : k ≤ 4294967295 := by omega
  refine .seq ?_
  refine .seq ?_
  refine .regionL [0,1,2,3] rfl zz0 ?_
  refine .rn [0,1] [2,3] ?_
  refine .step rfl rfl (.borrow rfl rfl rfl Tryz.call107 (by decide) (by first | (simp <;> rfl) | (simp [*] <;> rfl) | (simp [*]; done)) (p107 L (itr b k a) (by omega)) (by rintro _ rfl <;> first | (simp; done) | rfl) ?_)
  rintro _ rfl
  refine .rn [3] [] ?_
  refine .done ?_
  refine .condS rfl (fun c13 => ?_) (fun c13 => ?_)
  · try simp at c13
    have hN : (itL b a (k + 1)).Nodup := by
      rw [hS, hse, List.nodup_append]
      exact ⟨hk, by simp, fun x hx y hy he => by rw [List.mem_singleton] at hy; rw [he, hy] at hx; exact c13 hx⟩
    have hle2 := itL_le hbi ha hN
    refine .skip ?_
    refine .block ?_
    refine .seq ?_
    refine .rn ?_
    refine .regionL [0,1,2,3,4] rfl zz0 ?_
    refine .rn [0,1,2] [3,4] ?_
    refine .step rfl rfl (.pure rfl rfl rfl Tryz.call102 (by decide) (p102 ws s left hs hLl h2) (by first | rfl | simp [*]) ?_)
    rintro _ rfl
    refine .rn [4] [] ?_
    refine .done ?_
    refine ⟨k + 1, hN, by omega, (.mk [] [(0,2)] zz14 zz15 rfl rfl rfl)⟩
  · try simp at c13
    obtain ⟨j0, hj0, hje⟩ := itL_mem.1 (show (s : Int) ∈ itL b a k by rw [hL]; exact c13)
    refine .exit ?_
    refine .seq ?_
    refine .block ?_
    refine .loopS (fun j : Nat => ([(7, ints (L.drop j)),(8, .int .i64 s)], VHeap.empty)) (fun j => j ≤ j0 ∧ ∀ i, i < j → ¬itr b i a = s) (fun j => k - j) 0 ⟨Nat.zero_le _, fun i hi => by omega⟩ (.mk [0] [] zz16 zz15 rfl rfl rfl) ?_
    rintro j ⟨hj, hno⟩
    simp only at hj hno ⊢
    have hjL : j < L.length := by omega
    have hdc := List.drop_eq_getElem_cons hjL
    obtain ⟨D, hD⟩ : ∃ D, L.drop (j + 1) = D := ⟨_, rfl⟩
    have hLj : L[j] = itr b j a := by simp only [← hL, itL_at]
    rw [hD] at hdc
    rw [hdc]
    have hD1 : (1 : Int) ≤ (D.length : Int) + 1 := by omega
    have hA : allSz 1 (PV.int .i64 (itr b j a) :: D.map (PV.int .i64)) = true := by simp [allSz, PV.cells]
    refine .seq ?_
    refine .seq ?_
    refine .rn ?_
    refine .condS rfl (fun c26 => ?_) (fun c26 => ?_)
    · try simp at c26
      have hjs : ¬itr b j a = s := by simpa using c26
      refine .skip ?_
      refine .block ?_
      refine .rn ?_
      refine ⟨j + 1, ⟨?_, fun i hi => ?_⟩, by omega, (.mk [] [] zz14 zz15 rfl rfl rfl)⟩
      · rcases Nat.lt_or_ge j j0 with h | h
        · exact h
        · exact absurd (by rw [show j = j0 by omega]; exact hje) hjs
      · by_cases h : i = j
        · rw [h]; exact hjs
        · exact hno i (by omega)
    · try simp at c26
      have hjs : itr b j a = s := by simpa using c26
      refine .exit ?_
      refine .seq ?_
      refine .rn ?_
      refine .ret ?_
      refine ⟨_, _, zz2,zz2, ?_⟩
      refine ⟨itr b j a :: D, by rw [hjs], ?_⟩
      have hcc : CycP b left (L.drop j) := by
        rw [← hL]
        exact cyc_of hbi ha (show j < k by omega) hkl (by rw [hse]; exact hjs)
      rw [hdc, hLj] at hcc
      rw [hb]
      exact hcc
def MdI (ws : List (List Int)) (out left : List Int) : Prop := out.length = ws.length ∧ (∀ x ∈ left, InN ws.length x) ∧ left.length ≤ ws.length ∧ ∃ (R : Int → Int) (r : Int),1 ≤ r ∧ Rnd ws (fun i => i ∈ left) (nx out) R r
theorem MdI.start (ws : List (List Int)) : MdI ws (List.replicate ws.length 0) (idn ws.length) := by
  refine ⟨by simp, idn_in, by rw [idn_len]; exact Nat.le_refl _, fun _ => 0,1, Int.le_refl _, Rnd.start ws _ (fun i hi => ?_) _ _⟩
  obtain ⟨k, hk, rfl⟩ := hi.nat
  exact List.mem_map.2 ⟨k, List.mem_range.2 hk, rfl⟩
def lfC (left C : List Int) (i : Nat) : List Int := left.filter fun x => !decide (x ∈ C.take i)
theorem mem_take_succ {l : List Int} {k : Nat} (h : k < l.length) {x : Int} : x ∈ l.take (k + 1) ↔ x ∈ l.take k ∨ x = l[k] := by rw [List.take_succ_eq_append_getElem h, List.mem_append, List.mem_singleton]
theorem lfC_zero (left C : List Int) : lfC left C 0 = left := by unfold lfC; simp
theorem lfC_succ {left C : List Int} {i : Nat} (h : i < C.length) : (lfC left C i).filter (fun x => !decide (x = C[i])) = lfC left C (i + 1) := by
  unfold lfC
  rw [List.filter_filter]
  refine List.filter_congr fun x _ => ?_
  have hk := mem_take_succ h (x := x)
  have he : decide (x ∈ C.take (i + 1)) = (decide (x ∈ C.take i) || decide (x = C[i])) := by
    rw [Bool.eq_iff_iff]
    simp only [decide_eq_true_eq, Bool.or_eq_true]
    exact hk
  rw [he]
  cases decide (x ∈ C.take i) <;> cases decide (x = C[i]) <;> rfl
theorem lfC_mem {left C : List Int} {x : Int} : x ∈ lfC left C C.length ↔ x ∈ left ∧ x ∉ C := by
  unfold lfC; rw [List.take_length, List.mem_filter]; simp
theorem MdI.step {ws : List (List Int)} (hm : Mkt ws) {out left C out' : List Int} (h : MdI ws out left) (hC : CycP (bR ws left) left C) (hl : out'.length = ws.length) (ho : ∀ j : Nat, j < ws.length → nx out' j = if (j : Int) ∈ C then bR ws left j else nx out j) : MdI ws out' (lfC left C C.length) ∧ (lfC left C C.length).length < left.length := by
  obtain ⟨h1, h2, h3, R, r, h4, h5⟩ := h
  have hpos := hC.pos
  have hlt : (lfC left C C.length).length < left.length := by
    unfold lfC
    rw [List.take_length, List.length_filter_lt_length_iff_exists]
    exact ⟨C[0], hC.sub _ (List.getElem_mem hpos), by simp⟩
  refine ⟨⟨hl, fun x hx => h2 x (lfC_mem.1 hx).1, by omega, fun i => if i ∈ C then r else R i, r + 1, by omega, ?_⟩, hlt⟩
  refine h5.step h4 (C := fun i => i ∈ C) (b := bR ws left) (fun i hi => ⟨h2 i (hC.sub i hi), hC.sub i hi⟩) (fun i hi => hC.to i hi) (fun i j hi hj he => (hC.back i hi).inj (hC.back j hj) he) (fun i k hi hk hkl => bR_le hkl) (fun i hi => ?_) (fun i hi hn => ?_) (fun i hi => if_pos hi) (fun i hi hn => if_neg hn) (fun i => lfC_mem)
  · obtain ⟨j, hj, rfl⟩ := (h2 i (hC.sub i hi)).nat
    rw [ho j hj, if_pos hi]
  · obtain ⟨j, hj, rfl⟩ := hi.nat
    rw [ho j hj, if_neg hn]
theorem MdI.done {ws : List (List Int)} {out left : List Int} (h : MdI ws out left) (h0 : left.length = 0) : AccG ws out := by
  obtain ⟨h1, _, _, R, r, _, h5⟩ := h
  refine ⟨h1, R, h5.acc fun i _ hi => ?_⟩
  rw [List.eq_nil_of_length_eq_zero h0] at hi; cases hi
theorem p37s (ws : List (List Int)) (hl : ws.length < 4294967296) (hll : ∀ l ∈ ws, l.length < 4294967296) : VPure Tryz.prog 37 [encM ws] fun r => Soft r (.agg [ints (mkG ws), .int .i64 (mkE ws)]) := by
  refine .of_body Tryz.func37 rfl rfl ?_
  refine .seq ?_
  refine .rn ?_
  refine .seq ?_
  refine .regionL [0,1,2] rfl zz0 ?_
  refine .rn [0] [1,2] ?_
  refine .step rfl rfl (.pure rfl rfl rfl Tryz.call40 (by decide) (p40 ws hl hll) (by first | rfl | simp [*]) ?_)
  rintro _ rfl
  refine .rn [2] [] ?_
  refine .done ?_
  refine .seq ?_
  refine .seq ?_
  refine .rn ?_
  refine .condS rfl (fun c13 => ?_) (fun c13 => ?_)
  · try simp at c13
    refine .seq ?_
    refine .rn ?_
    refine .ret ?_
    refine ⟨_, _, zz2,zz2, ?_⟩
    rw [mkG_err c13]
    exact Alt.agg' (AltL.cons .sl0v (AltL.cons (.same _ rfl) AltL.nil))
  · try simp at c13
    have hm := mkt_of c13
    have hn16 := hm.le
    have hl2 : ((ws.length : Nat) : Int) ≤ 4294967296 := by omega
    refine .skip ?_
    refine .seq ?_
    refine .rn ?_
    refine .seq ?_
    refine .rn ?_
    refine .seq ?_
    refine .seq ?_
    refine .rn ?_
    refine .block ?_
    refine .loopS (fun i : Nat => ([(1, .vp [.vec (ws.map ints)]),(2, .ptr 1 0),(4, .own 2 0 ws.length ws.length),(5, .grow 3 i true),(6, .int .i64 i)], ⟨4,[(3, .grow 1 ((idn i).map (.int .i64))),(2, .arr false 1 ((List.replicate ws.length (0 : Int)).map (.int .i64))),(1, .box [.sl0, .int .i64 0])]⟩)) (fun i => i ≤ ws.length) (fun i => ws.length - i) 0 (Nat.zero_le _) (.mk [0] [] zz12 zz13 rfl rfl rfl) ?_
    rintro i hi
    simp only at hi ⊢
    have hil := idn_len i
    have hiS : idn (i + 1) = idn i ++ [(i : Int)] := by unfold idn; rw [List.range_succ, List.map_append]; rfl
    refine .seq ?_
    refine .seq ?_
    refine .rn ?_
    refine .condS rfl (fun c24 => ?_) (fun c24 => ?_)
    · try simp at c24
      have hw2 : IntKind.i64.wrap ((i : Int) + 1) = (i : Int) + 1 := wrap64 (by omega) (by omega)
      have hi4 : i ≤ 4294967295 := by omega
      refine .skip ?_
      refine .seq ?_
      refine .block ?_
      refine .rn ?_
      refine .rn ?_
      refine ⟨i + 1,zz3,zz3,(.mk [] [(3,5)] zz14 zz15 rfl rfl rfl)⟩
    · try simp at c24
      have hin0 : i = ws.length := by omega
      subst hin0
      refine .exit ?_
      refine .seq ?_
      refine .block ?_
      refine .loopS (fun st : List Int × List Int => ([(1, .vp [.vec (ws.map ints)]),(2, .ptr 1 0),(4, .own 2 0 ws.length ws.length),(5, ints st.2)], ⟨3,[(2, .arr false 1 (st.1.map (.int .i64))),(1, .box [.sl0, .int .i64 0])]⟩)) (fun st => MdI ws st.1 st.2) (fun st => st.2.length) (List.replicate ws.length 0, idn ws.length) (MdI.start ws) (.mk [3] [] zz14 zz15 rfl rfl rfl) ?_
      rintro ⟨out, left⟩ hI
      simp only at hI ⊢
      have hI0 := hI
      obtain ⟨hol, hin, hle, _⟩ := hI
      refine .seq ?_
      refine .seq ?_
      refine .rn ?_
      refine .condS rfl (fun c33 => ?_) (fun c33 => ?_)
      · try simp at c33
        have hl2' : left.length < 4294967296 := by omega
        refine .skip ?_
        refine .block ?_
        refine .seq ?_
        refine .drawn (ms := [0,0,2,6,0,31,63]) (W := [5]) (items := [.op 0, .op 1, .op 2, .op 3, .op 4, .op 5, .op 6]) rfl zz0 zz0 zz0 ?_
        refine .rd rfl rfl (by decide) rfl (by decide) zz1 ?_   -- 0
        refine .rd rfl rfl (by decide) rfl (by decide) zz1 ?_   -- 1
        refine .rd rfl rfl (by decide) rfl (by decide) zz1 ?_   -- 2
        refine .rd rfl rfl (by decide) rfl (by decide) zz1 ?_   -- 3
        refine .rd rfl rfl (by decide) rfl (by decide) zz1 ?_   -- 4
        refine .wr rfl rfl (by decide) (.pure rfl rfl rfl Tryz.call101 (by decide) (p101 ws left[0] left hll hl2' hin (List.getElem_mem c33)) (by first | rfl | simp [*]) ?_)
        rintro _ ⟨C, rfl, hC⟩
        refine .rd rfl rfl (by decide) rfl (by decide) zz1 ?_   -- 6
        refine .done ?_
        refine .seq ?_
        refine .seq ?_
        refine .rn ?_
        refine .block ?_
        refine .loopS (fun st : Nat × List Int => ([(1, .vp [.vec (ws.map ints)]),(2, .ptr 1 0),(4, .own 2 0 ws.length ws.length),(5, ints left),(7, ints C),(8, .int .i64 st.1)], ⟨3,[(2, .arr false 1 (st.2.map (.int .i64))),(1, .box [.sl0, .int .i64 0])]⟩)) (fun st => st.1 ≤ C.length ∧ st.2.length = ws.length ∧ ∀ j : Nat, j < ws.length → nx st.2 j = if (j : Int) ∈ C.take st.1 then bR ws left j else nx out j) (fun st => C.length - st.1) (0, out) ⟨Nat.zero_le _, hol, fun j hj => by simp⟩ (.mk [] [] zz14 zz15 rfl rfl rfl) ?_
        rintro ⟨i, O⟩ ⟨hi, hOl, hO⟩
        simp only at hi hOl hO ⊢
        refine .seq ?_
        refine .seq ?_
        refine .rn ?_
        refine .condS rfl (fun c43 => ?_) (fun c43 => ?_)
        · try simp at c43
          have hw2 : IntKind.i64.wrap ((i : Int) + 1) = (i : Int) + 1 := by have := hC.le; exact wrap64 (by omega) (by omega)
          obtain ⟨s, hs, hse⟩ := (hin _ (hC.sub _ (List.getElem_mem c43))).nat
          have hLl := hll ws[s] (List.getElem_mem hs)
          have hsO : s < O.length := by omega
          have hsw : s + 1 ≤ ws.length := hs
          have hP := set_put O s (bstR ws[s] s left) hsO
          refine .skip ?_
          refine .seq ?_
          refine .block ?_
          refine .drawn (ms := [0,0,0,6,14,0,0,0,192,448,0,2016,4095,8191]) (W := [11,13]) (items := [.op 0, .op 1, .op 2, .op 3, .op 4, .op 5, .op 6, .op 7, .op 8, .op 9, .op 10, .op 11, .ck 4, .op 12, .op 13]) rfl zz0 zz0 zz0 ?_
          refine .rd rfl rfl (by decide) rfl (by decide) zz1 ?_   -- 0
          refine .rd rfl rfl (by decide) rfl (by decide) zz1 ?_   -- 1
          refine .rd rfl rfl (by decide) rfl (by decide) zz1 ?_   -- 2
          refine .rd rfl rfl (by decide) rfl (by decide) zz1 ?_   -- 3
          refine .rd rfl rfl (by decide) rfl (by decide) zz1 ?_   -- 4
          refine .rd rfl rfl (by decide) rfl (by decide) zz1 ?_   -- 5
          refine .rd rfl rfl (by decide) rfl (by decide) zz1 ?_   -- 6
          refine .rd rfl rfl (by decide) rfl (by decide) zz1 ?_   -- 7
          refine .rd rfl rfl (by decide) rfl (by decide) zz1 ?_   -- 8
          refine .rd rfl rfl (by decide) rfl (by decide) zz1 ?_   -- 9
          refine .rd rfl rfl (by decide) rfl (by decide) zz1 ?_   -- 10
          refine .wr rfl rfl (by decide) (.pure rfl rfl rfl Tryz.call102 (by decide) (p102 ws s left hs hLl hl2') (by first | rfl | simp [*]) ?_)
          rintro _ rfl
          refine .ck rfl zz0 ?_   -- 4
          refine .rd rfl rfl (by decide) rfl (by decide) zz1 ?_   -- 12
          refine .wr rfl rfl (by decide) (.vop zz1 (by decide) ?_)   -- 13
          refine .done ?_
          refine .rn ?_
          refine ⟨(i + 1, O.set s (bstR ws[s] s left)), ⟨c43, by simp [hOl], fun j hj => ?_⟩, by simp only; omega, (.mk [] [] zz14 zz15 rfl rfl rfl)⟩
          simp only
          rw [nx_set _ hsO, hO j hj]
          have hk := mem_take_succ c43 (x := (j : Int))
          by_cases hjs : j = s
          · subst hjs
            rw [if_pos rfl, if_pos (hk.2 (.inr hse.symm)), bR_at hj]
          · rw [if_neg hjs]
            have hne : ¬(j : Int) = C[i] := by rw [hse]; omega
            by_cases h2 : (j : Int) ∈ C.take i
            · rw [if_pos h2, if_pos (hk.2 (.inl h2))]
            · rw [if_neg h2, if_neg fun h => (hk.1 h).elim h2 hne]
        · try simp at c43
          have hiC : i = C.length := by omega
          subst hiC
          rw [List.take_length] at hO
          have hst := MdI.step hm hI0 hC hOl hO
          have h0z := lfC_zero left C
          refine .exit ?_
          refine .seq ?_
          refine .rn ?_
          refine .block ?_
          refine .loopS (fun i : Nat => ([(1, .vp [.vec (ws.map ints)]),(2, .ptr 1 0),(4, .own 2 0 ws.length ws.length),(5, ints (lfC left C i)),(7, ints C),(9, .int .i64 i)], ⟨3,[(2, .arr false 1 (O.map (.int .i64))),(1, .box [.sl0, .int .i64 0])]⟩)) (fun i => i ≤ C.length) (fun i => C.length - i) 0 (Nat.zero_le _) (.mk [] [] zz14 zz15 rfl rfl rfl) ?_
          rintro i hi
          simp only at hi ⊢
          have hfl : (lfC left C i).length < 4294967296 := Nat.lt_of_le_of_lt (List.length_filter_le _ _) hl2'
          refine .seq ?_
          refine .seq ?_
          refine .rn ?_
          refine .condS rfl (fun c62 => ?_) (fun c62 => ?_)
          · try simp at c62
            have hw2 : IntKind.i64.wrap ((i : Int) + 1) = (i : Int) + 1 := by have := hC.le; exact wrap64 (by omega) (by omega)
            have hS := lfC_succ (left := left) c62
            refine .skip ?_
            refine .seq ?_
            refine .block ?_
            refine .regionL [0,1,2,3,4,5,6] rfl zz0 ?_
            refine .rn [0,1,2,3,4] [5,6] ?_
            refine .step rfl rfl (.pure rfl rfl rfl Tryz.call103 (by decide) (VPure.soft (p103 (lfC left C i) C[i] hfl) rfl) (by first | rfl | simp [*]) ?_)
            rw [hS]; rintro _ rfl
            refine .rn [6] [] ?_
            refine .done ?_
            refine .rn ?_
            refine ⟨i + 1, c62, by omega, (.mk [] [] zz14 zz15 rfl rfl rfl)⟩
          · try simp at c62
            refine .exit ?_
            have hiC : i = C.length := by omega
            subst hiC
            exact ⟨(O, lfC left C C.length), hst.1, hst.2,(.mk [] [] zz14 zz15 rfl rfl rfl)⟩
      · try simp at c33
        refine .exit ?_
        refine .seq ?_
        refine .rn ?_
        refine .ret ?_
        have hO := mkG_ok c13 (hI0.done (by rw [c33]; rfl))
        refine ⟨_, .agg [ints out, .int .i64 0],zz2, ?_, ?_⟩
        · exact frz_own_agg _ 2 out _ 0 hol rfl
        · rw [hO, c13]; exact soft_rfl rfl
theorem p37 (ws : List (List Int)) (hl : ws.length < 4294967296) (hll : ∀ l ∈ ws, l.length < 4294967296) : VPure Tryz.prog 37 [encM ws] fun r => r = .agg [ints (mkG ws), .int .i64 (mkE ws)] := VPure.soft (p37s ws hl hll) rfl
end Go.Am.Hi
end

section
namespace Go.Am.Hi
open Go Go.Am Go.Proofs
set_option maxRecDepth 100000
set_option maxHeartbeats 4000000
set_option linter.unusedSimpArgs false
set_option linter.unusedVariables false
attribute [local simp] vrun vwanted vyielded vop vopA vputAll VHeap.back hidI hidF backL bm Nat.testBit_eq_decide_div_mod_eq veval vevals vparts vO vbuiltin vlen vappend velems vcopy vmakeSlice vbuildSlice valloc vbox vmakeMap vload vpartT vpart vstore vfieldAddr vfield vindexAddr vindex vextract vslice vsliceZ vbounds vbnd zeroO vidx vlookup vmget vmapUpdate vdelete vclear vnilq vnilp vnils vbin vsc vsc1 vscs vscl abinOp aint ashift aunOp aconvert amaxs amax2 pvcV pvc pvcs tput tget vargs VHeap.get VHeap.alloc VHeap.put VHeap.drop VHeap.empty vlook vput vdrop psplice pfill preps chunk List.range List.range.loop vresults vresult vresultV frz frzL PV.isF PV.allF PV.scal PV.allS retP subT allFT PV.one PV.ids PV.idsL dropL beq_eq ble_dec blt_dec
theorem short_spec {ws : List (List Int)} (h : shortB ws = true) : ws.length ≤ 30 ∧ ∀ l ∈ ws, l.length ≤ 30 := by
  unfold shortB at h
  rw [Bool.and_eq_true, decide_eq_true_eq] at h
  exact ⟨h.2, fun l hl => by simpa using List.all_eq_true.1 h.1 l hl⟩
theorem grw_arr (row : List Int) (h : 0 < row.length) (vh : VHeap) (n2 : Nat) (D : Nat → Bool) (ρ : Nat → Nat) : AltO vh n2 D ρ (.grow 1 (row.map (PV.int .i64))) (.arr false 1 (row.map (PV.int .i64))) := by
  cases row with
  | nil => simp at h
  | cons a r => exact ⟨rfl, ⟨_, _, rfl⟩, flat_int _ _⟩
theorem vel_sub (vh : VHeap) (i : Nat) (l : List Int) (n : Nat) (hn : l.length = n) (hg : vh.get i = some (.arr false 1 (l.map (PV.int .i64)))) : velems vh 1 (.sub i 0 n) = some (l.map (PV.int .i64)) := by
  subst hn
  have h2 : (l.map (PV.int .i64)).take l.length = l.map (PV.int .i64) := by
    have := List.take_length (l := l.map (PV.int .i64)); simpa using this
  simp only [hg, velems, all_one_int, beq_eq, ble_dec, List.drop_zero, chunk, cond_false, h2, List.length_map]
  simp
theorem alt_sub {vh : VHeap} {n2 : Nat} {D : Nat → Bool} {ρ : Nat → Nat} (i : Nat) (l : List Int) (n : Nat) (hn : l.length = n) (hD : D i = true) (hg : vh.get i = some (.arr false 1 (l.map (PV.int .i64)))) : Alt vh n2 D ρ (.sub i 0 n) (ints l) :=
  .fsub i 0 n false 1 _ _ hD hg (vel_sub vh i l n hn hg)
theorem swp_form (G : List Int) (k : Nat) (x y : Int) (h : 0 < G.length) : PV.int .i64 y :: ((G.map (PV.int .i64)).set k (.int .i64 x)).tail = ((G.set k x).set 0 y).map (PV.int .i64) := by
  rw [← List.map_set]
  have h2 : 0 < (G.set k x).length := by simpa using h
  cases hL : G.set k x with
  | nil => rw [hL] at h2; simp at h2
  | cons b t => rfl
theorem tmod_small (a n : Nat) (ha : a < 256) (hn : n ≤ 1000) (h0 : 0 < n) : (IntKind.i64.wrap (IntKind.u8.wrap ((a : Int) / 2))).tmod n = ((a / 2 % n : Nat) : Int) := by
  have e1 : IntKind.u8.wrap ((a : Int) / 2) = ((a / 2 : Nat) : Int) := by
    have : ((a : Int) / 2) = ((a / 2 : Nat) : Int) := by omega
    rw [this]
    unfold IntKind.wrap
    simp [IntKind.bits, IntKind.signed]
    omega
  have e2 : IntKind.i64.wrap ((a / 2 : Nat) : Int) = ((a / 2 : Nat) : Int) := wrap64 (by omega) (by omega)
  rw [e1, e2]
  exact Int.ofNat_tmod _ _
theorem mkG_len {ws : List (List Int)} {R : List Int} (h : MkR ws R) : (mkG ws).length ≤ ws.length ∧ R.length ≤ ws.length := by
  by_cases h0 : mkE ws = 0
  · have := h.1 h0
    exact ⟨by rw [this.gl]; exact Nat.le_refl _, by rw [this.rl]; exact Nat.le_refl _⟩
  · rw [mkG_err h0, h.2 h0]; exact ⟨Nat.zero_le _, Nat.zero_le _⟩
theorem p7 (ws : List (List Int)) (G0 R0 : List Int) (a : Nat) (by_ : Int) (hl : ws.length < 4611686018427387904) (hg : G0.length < 4611686018427387904) (hr : R0.length < 4611686018427387904) (ha : a < 256) : VPure Tryz.prog 7 [encM ws, .agg [ints G0, ints R0], .int .u8 a, .int .i64 by_] fun r => r = .bool true := by
  refine .of_body Tryz.func7 rfl rfl ?_
  refine .seq ?_
  refine .rn ?_
  refine .seq ?_
  refine .seq ?_
  refine .regionL [0,1,2,3,4,5,6,7,8,9,10,11,12,13,14] rfl zz0 ?_
  refine .rn [0] [1,2,3,4,5,6,7,8,9,10,11,12,13,14] ?_
  refine .step rfl rfl (.pure rfl rfl rfl Tryz.call36 (by decide) (p36 ws hl) (by first | rfl | simp [*]) ?_)
  rintro _ rfl
  refine .rn [2,3] [4,5,6,7,8,9,10,11,12,13,14] ?_
  refine .split (t := 17) rfl (fun c17 => ?_) (fun c17 => ?_)
  · try rw [c17]
    try simp at c17
    refine .rn [4,5,6,7,8,9,10,11,12,13,14] [] ?_
    refine .done ?_
    refine .condT rfl ?_
    refine .seq ?_
    refine .regionL [0,1] rfl zz0 ?_
    refine .step rfl rfl (.pure rfl rfl rfl Tryz.call15 (by decide) (p15) (by first | rfl | simp [*]) ?_)
    rintro _ rfl
    refine .rn [1] [] ?_
    refine .done ?_
    refine .ret ?_
    refine ⟨_, _, zz2,zz2, ?_⟩
    first | rfl | (simp [*]; done) | (simp_all; done)
  · try rw [c17]
    try simp at c17
    refine .rn [4,5,6,7,8,9] [10,11,12,13,14] ?_
    refine .split (t := 23) rfl (fun c23 => ?_) (fun c23 => ?_)
    · try rw [c23]
      try simp at c23
      refine .rn [10,11,12,13,14] [] ?_
      refine .done ?_
      refine .condT rfl ?_
      refine .seq ?_
      refine .regionL [0,1] rfl zz0 ?_
      refine .step rfl rfl (.pure rfl rfl rfl Tryz.call15 (by decide) (p15) (by first | rfl | simp [*]) ?_)
      rintro _ rfl
      refine .rn [1] [] ?_
      refine .done ?_
      refine .ret ?_
      refine ⟨_, _, zz2,zz2, ?_⟩
      first | rfl | (simp [*]; done) | (simp_all; done)
    · try rw [c23]
      try simp at c23
      refine .rn [10,11,12,13,14] [] ?_
      refine .done ?_
      refine .condS rfl (fun c28 => ?_) (fun c28 => ?_)
      · try simp at c28
        refine .seq ?_
        refine .regionL [0,1] rfl zz0 ?_
        refine .step rfl rfl (.pure rfl rfl rfl Tryz.call15 (by decide) (p15) (by first | rfl | simp [*]) ?_)
        rintro _ rfl
        refine .rn [1] [] ?_
        refine .done ?_
        refine .ret ?_
        refine ⟨_, _, zz2,zz2, ?_⟩
        first | rfl | (simp [*]; done) | (simp_all; done)
      · try simp at c28
        obtain ⟨hw30, hl30⟩ := short_spec c17
        have hlw : ws.length < 4294967296 := by omega
        have hll : ∀ l ∈ ws, l.length < 4294967296 := fun l hl => by have := hl30 l hl; omega
        have hG0 : G0.length < 4294967296 := by omega
        have hR0 : R0.length < 4294967296 := by omega
        refine .skip ?_
        refine .seq ?_
        refine .regionL [0,1,2,3,4,5,6,7] rfl zz0 ?_
        refine .rn [0] [1,2,3,4,5,6,7] ?_
        refine .step rfl rfl (.pure rfl rfl rfl Tryz.call32 (by decide) (p32 ws hlw hll) (by first | rfl | simp [*]) ?_)
        rintro _ ⟨R, rfl, hMR⟩
        refine .rn [2,3,4,5,6,7] [] ?_
        refine .done ?_
        refine .seq ?_
        refine .regionL [0,1,2,3] rfl zz0 ?_
        refine .rn [0] [1,2,3] ?_
        refine .step rfl rfl (.pure rfl rfl rfl Tryz.call37 (by decide) (p37 ws hlw hll) (by first | rfl | simp [*]) ?_)
        rintro _ rfl
        refine .rn [2,3] [] ?_
        refine .done ?_
        refine .join (fun _ : Unit => ([(2, .int .u8 a),(3, .int .i64 by_),(4, .vp [.vec (ws.map ints)]),(5, .vp [ints G0, ints R0]),(9, .vp [ints (mkG ws), ints R])], VHeap.empty)) (fun _ => True) ?_ ?_
        · skip
          refine .seq ?_
          refine .regionL [0,1,2,3,4,5,6,7,8,9,10,11,12,13,14,15,16,17,18,19,20,21,22,23,24,25,26,27,28,29,30,31] rfl zz0 ?_
          refine .rn [0,1,2,3,4] [5,6,7,8,9,10,11,12,13,14,15,16,17,18,19,20,21,22,23,24,25,26,27,28,29,30,31] ?_
          refine .split (t := 41) rfl (fun c41 => ?_) (fun c41 => ?_)
          · try rw [c41]
            try simp at c41
          · try rw [c41]
            try simp at c41
            obtain ⟨hml, hrl⟩ := mkG_len hMR
            have hmL : (mkG ws).length < 4294967296 := by omega
            have hrL : R.length < 4294967296 := by omega
            refine .rn [5,6,7,8] [9,10,11,12,13,14,15,16,17,18,19,20,21,22,23,24,25,26,27,28,29,30,31] ?_
            refine .step rfl rfl (.pure rfl rfl rfl Tryz.call27 (by decide) (p27 (mkG ws) (mkG ws) hmL hmL) (by first | rfl | simp [*]) ?_)
            rintro _ rfl
            refine .rn [10,11,12] [13,14,15,16,17,18,19,20,21,22,23,24,25,26,27,28,29,30,31] ?_
            refine .split (t := 49) rfl (fun c49 => ?_) (fun c49 => ?_)
            · try rw [c49]
              try simp at c49
            · try rw [c49]
              try simp at c49
              refine .rn [13,14,15] [16,17,18,19,20,21,22,23,24,25,26,27,28,29,30,31] ?_
              refine .split (t := 52) rfl (fun c52 => ?_) (fun c52 => ?_)
              · try rw [c52]
                try simp at c52
                have hdl : dlE ws (mkG ws) R = 0 := dlE_yes c52 (dlB_iff.2 (hMR.1 c52))
                refine .rn [16,17] [18,19,20,21,22,23,24,25,26,27,28,29,30,31] ?_
                refine .step rfl rfl (.pure rfl rfl rfl Tryz.call38 (by decide) (p38 ws (mkG ws) R hlw hll hmL hrL) (by first | rfl | simp [*]) ?_)
                rintro _ rfl
                refine .rn [19,20,21,22] [23,24,25,26,27,28,29,30,31] ?_
                refine .split (t := 59) rfl (fun c59 => ?_) (fun c59 => ?_)
                · try rw [c59]
                  try simp at c59
                · try rw [c59]
                  try simp at c59
                  refine .rn [23,24,25] [26,27,28,29,30,31] ?_
                  refine .split (t := 62) rfl (fun c62 => ?_) (fun c62 => ?_)
                  · try rw [c62]
                    try simp at c62
                  · try rw [c62]
                    try simp at c62
                    refine .rn [26,27,28,29,30,31] [] ?_
                    refine .done ?_
                    refine .condF rfl ?_
                    refine .skip ?_
                    exact ⟨(), trivial, (.mk [0,1,2] [] zz17 zz18 rfl rfl rfl)⟩
              · try rw [c52]
                try simp at c52
                have hR : R.length = 0 := by rw [hMR.2 c52]; rfl
                refine .rn [16,17,18,19,20,21,22,23,24,25] [26,27,28,29,30,31] ?_
                refine .split (t := 62) rfl (fun c62 => ?_) (fun c62 => ?_)
                · try rw [c62]
                  try simp at c62
                  refine .rn [26,27,28,29,30,31] [] ?_
                  refine .done ?_
                  refine .condS rfl (fun c68 => ?_) (fun c68 => ?_)
                  · try simp at c68
                  · try simp at c68
                    refine .skip ?_
                    exact ⟨(), trivial, (.mk [0,1,2] [] zz17 zz18 rfl rfl rfl)⟩
                · try rw [c62]
                  try simp at c62
                  exact absurd c62 c52
        · skip
          rintro _ _
          simp only
          obtain ⟨hml, hrl⟩ := mkG_len hMR
          obtain ⟨G, hG⟩ : ∃ G, mkG ws = G := ⟨_, rfl⟩
          rw [hG] at hml ⊢
          have hm4 : G.length ≤ 4294967296 := by omega
          have hr4 : R.length ≤ 4294967296 := by omega
          refine .seq ?_
          refine .drawnF (ms := [0,0,2,7,0,0,32,127,255,0,1023]) (W := [0,3,7,10]) (As := [9,4]) (items := [.op 1, .op 2, .op 5, .op 6, .op 4, .op 9, .op 0, .ck 6, .ck 2, .op 3, .ck 6, .op 7, .op 8, .op 10]) rfl zz0 zz0 zz0 zz0 (by decide) ?_
          refine .rd rfl rfl (by decide) (by decide) (by decide) rfl (by decide) zz1 ?_   -- 1
          refine .rd rfl rfl (by decide) (by decide) (by decide) rfl (by decide) zz1 ?_   -- 2
          refine .rd rfl rfl (by decide) (by decide) (by decide) rfl (by decide) zz1 ?_   -- 5
          refine .rd rfl rfl (by decide) (by decide) (by decide) rfl (by decide) zz1 ?_   -- 6
          refine .al rfl rfl (by decide) (by decide) (by decide) (by decide) zz1 ?_   -- 4
          refine .al rfl rfl (by decide) (by decide) (by decide) (by decide) zz1 ?_   -- 9
          refine .wr rfl rfl (by decide) (.vop zz1 (by decide) ?_)   -- 0
          refine .ck rfl zz0 ?_   -- 6
          refine .ck rfl zz0 ?_   -- 2
          refine .wr rfl rfl (by decide) (.appE rfl rfl zz1 (by decide) ?_)   -- 3
          refine .ck rfl zz0 ?_   -- 6
          refine .wr rfl rfl (by decide) (.vop zz1 (by decide) ?_)   -- 7
          refine .rd rfl rfl (by decide) (by decide) (by decide) rfl (by decide) zz1 ?_   -- 8
          refine .wr rfl rfl (by decide) (.vop zz1 (by decide) ?_)   -- 10
          refine .done ?_
          refine .join (fun st : List Int × List Int => ([(4, .vp [.vec (ws.map ints)]),(5, .vp [ints G0, ints R0]),(12, .ptr 0 0)], ⟨1,[(0, .box [ints st.1, ints st.2])]⟩)) (fun st => st.1.length < 4294967296 ∧ st.2.length < 4294967296) ?_ ?_
          · skip
            refine .seq ?_
            refine .rn ?_
            refine .condS rfl (fun c81 => ?_) (fun c81 => ?_)
            · try simp at c81
              have hRp : 0 < R.length := by simpa using c81
              have hRn : ¬R = [] := by rintro rfl; simp at hRp
              have hGR : G.length = R.length := by
                have h0 : mkE ws = 0 := Classical.byContradiction fun h => by rw [hMR.2 h] at hRp; exact absurd hRp (by decide)
                have h1 := hMR.1 h0
                rw [hG] at h1
                rw [h1.gl, h1.rl]
              have hGp : 0 < G.length := by omega
              have hkE := tmod_small a R.length ha (by omega) hRp
              obtain ⟨k, hk⟩ : ∃ k, a / 2 % R.length = k := ⟨_, rfl⟩
              rw [hk] at hkE
              have hkR : k < R.length := by rw [← hk]; exact Nat.mod_lt _ hRp
              have hkG : k < G.length := by omega
              refine .seq ?_
              refine .rn ?_
              refine .seq ?_
              refine .rec (vts2 := [(2, .int .u8 a),(3, .int .i64 by_),(4, .vp [.vec (ws.map ints)]),(5, .vp [ints G0, ints R0]),(12, .ptr 2 0),(13, .int .i64 k)]) (vh2 := ⟨3,[(2, .box [.sub 0 0 R.length, .sub 1 0 R.length]),(1, .arr false 1 (R.map (.int .i64))),(0, .arr false 1 (G.map (.int .i64)))]⟩) (.mk [] [(0,3),(1,4),(2,1)] zz19 (by repeat' (first | exact trivial | refine And.intro (And.intro (Nat.le_of_ble_eq_true rfl) (Or.inr (And.intro rfl (Exists.intro _ (And.intro rfl ?_))))) ?_ | exact grw_arr G hGp _ _ _ _ | exact grw_arr R hRp _ _ _ _ | refine AltL.cons ?_ ?_ | exact AltL.nil | exact Alt.growS _ _ _ _ 1 _ (Nat.le_of_ble_eq_true rfl) rfl rfl (by simp [hGR]) hRp | exact Alt.growS _ _ _ _ 1 _ (Nat.le_of_ble_eq_true rfl) rfl rfl (by simp) hRp)) rfl rfl rfl) ?_
              have hP := set_put R k (IntKind.i64.wrap (R[k] + by_)) hkR
              have hk1 : k + 1 ≤ R.length := hkR
              refine .rn ?_
              refine .condS rfl (fun c91 => ?_) (fun c91 => ?_)
              · try simp at c91
                refine .rn ?_
                refine ⟨(G, R.set k (IntKind.i64.wrap (R[k] + by_))), ⟨by simp only; omega, by simp; omega⟩, .mk [0,1] [(0,2)] zz19 (by repeat' (first | exact trivial | refine And.intro (And.intro (Nat.le_of_ble_eq_true rfl) (Or.inr (And.intro rfl (Exists.intro _ (And.intro rfl ?_))))) ?_ | refine AltL.cons (alt_sub 0 (G) _ (by simp [hGR]) rfl (by first | rfl | (simp; done))) (AltL.cons (alt_sub 1 (R.set k (IntKind.i64.wrap (R[k] + by_))) _ (by simp [hGR]) rfl (by first | rfl | (simp; done))) AltL.nil))) rfl rfl rfl⟩
              · try simp at c91
                have hkG1 : k + 1 ≤ G.length := hkG
                have hk1 : k + 1 ≤ R.length := hkR
                have hP1 := set_put G k G[0] hkG
                have hRp1 : 1 ≤ R.length := hRp
                have hQ := swp_form G k G[0] G[k] hGp
                refine .drawn (ms := [0,1,0,0,8,0,32,96,224,0,512,0,3584,7680,16359,32743,65535,131071]) (W := [15,17]) (items := [.op 0, .op 1, .op 2, .op 3, .op 4, .op 5, .op 6, .op 7, .op 8, .op 9, .op 10, .op 11, .op 12, .op 13, .op 14, .op 15, .ck 4, .op 16, .op 17]) rfl zz0 zz0 zz0 ?_
                refine .rd rfl rfl (by decide) rfl (by decide) zz1 ?_   -- 0
                refine .rd rfl rfl (by decide) rfl (by decide) zz1 ?_   -- 1
                refine .rd rfl rfl (by decide) rfl (by decide) zz1 ?_   -- 2
                refine .rd rfl rfl (by decide) rfl (by decide) zz1 ?_   -- 3
                refine .rd rfl rfl (by decide) rfl (by decide) zz1 ?_   -- 4
                refine .rd rfl rfl (by decide) rfl (by decide) zz1 ?_   -- 5
                refine .rd rfl rfl (by decide) rfl (by decide) zz1 ?_   -- 6
                refine .rd rfl rfl (by decide) rfl (by decide) zz1 ?_   -- 7
                refine .rd rfl rfl (by decide) rfl (by decide) zz1 ?_   -- 8
                refine .rd rfl rfl (by decide) rfl (by decide) zz1 ?_   -- 9
                refine .rd rfl rfl (by decide) rfl (by decide) zz1 ?_   -- 10
                refine .rd rfl rfl (by decide) rfl (by decide) zz1 ?_   -- 11
                refine .rd rfl rfl (by decide) rfl (by decide) zz1 ?_   -- 12
                refine .rd rfl rfl (by decide) rfl (by decide) zz1 ?_   -- 13
                refine .rd rfl rfl (by decide) rfl (by decide) zz1 ?_   -- 14
                refine .wr rfl rfl (by decide) (.stor (todo' := [4]) rfl rfl rfl rfl zz1 rfl (⟨⟨by decide +kernel, _, _, rfl, zz1⟩, trivial⟩) ?_)   -- 15
                refine .ck rfl zz0 ?_   -- 4
                refine .rd rfl rfl (by decide) rfl (by decide) zz1 ?_   -- 16
                refine .wr rfl rfl (by decide) (.vop zz1 (by decide) ?_)   -- 17
                refine .done ?_
                refine ⟨((G.set k G[0]).set 0 G[k], R), ⟨by simp; omega, by simp only; omega⟩, .mk [0,1] [(0,2)] zz19 (by repeat' (first | exact trivial | refine And.intro (And.intro (Nat.le_of_ble_eq_true rfl) (Or.inr (And.intro rfl (Exists.intro _ (And.intro rfl ?_))))) ?_ | refine AltL.cons (alt_sub 0 ((G.set k G[0]).set 0 G[k]) _ (by simp [hGR]) rfl (by first | rfl | (simp; done) | (simp [*]; done))) (AltL.cons (alt_sub 1 (R) _ (by simp [hGR]) rfl (by first | rfl | (simp; done))) AltL.nil))) rfl rfl rfl⟩
            · try simp at c81
              refine .skip ?_
              exact ⟨(G, R), ⟨by simp only; omega, by simp only; omega⟩, .mk [3,4] [(0,1)] zz19 zz15 rfl rfl rfl⟩
          · skip
            rintro ⟨G2, R2⟩ ⟨hG2, hR2⟩
            simp only at hG2 hR2 ⊢
            refine .seq ?_
            refine .drawn (ms := [0,1,3,7,3,31,63,127,255,511,511,2047,511,511,16383,32767,65535,131071,262143,262143,1048575,262143,262143,8388607,16777215,33554431,67108863]) (W := [0,3,5,11,14,20,23]) (items := [.op 0, .op 1, .op 2, .op 4, .op 3, .ck 4, .op 5, .op 6, .op 7, .op 8, .op 9, .op 10, .op 12, .op 13, .op 11, .ck 13, .ck 12, .op 14, .op 15, .op 16, .op 17, .op 18, .op 19, .op 21, .op 22, .op 20, .ck 22, .ck 21, .op 23, .op 24, .op 25, .op 26]) rfl zz0 zz0 zz0 ?_
            refine .wr rfl rfl (by decide) (.pure rfl rfl rfl Tryz.call15 (by decide) (p15) (by first | rfl | simp [*]) ?_)
            rintro _ rfl
            refine .rd rfl rfl (by decide) rfl (by decide) zz1 ?_   -- 1
            refine .split (t := 117) rfl (fun c117 => ?_) (fun c117 => ?_)
            · try rw [c117]
              try simp at c117
              refine .rd rfl rfl (by decide) rfl (by decide) zz1 ?_   -- 2
              refine .rd rfl rfl (by decide) rfl (by decide) zz1 ?_   -- 4
              refine .wr rfl rfl (by decide) (.pure rfl rfl rfl Tryz.call39 (by decide) (p39 ws hlw hll) (by first | rfl | simp [*]) ?_)
              rintro _ rfl
              refine .ck rfl zz0 ?_   -- 4
              refine .wr rfl rfl (by decide) (.pure rfl rfl rfl Tryz.call40 (by decide) (p40 ws hlw hll) (by first | rfl | simp [*]) ?_)
              rintro _ rfl
              refine .rd rfl rfl (by decide) rfl (by decide) zz1 ?_   -- 6
              refine .rd rfl rfl (by decide) rfl (by decide) zz1 ?_   -- 7
              refine .rd rfl rfl (by decide) rfl (by decide) zz1 ?_   -- 8
              refine .split (t := 124) rfl (fun c124 => ?_) (fun c124 => ?_)
              · try rw [c124]
                try simp at c124
                refine .rd rfl rfl (by decide) rfl (by decide) zz1 ?_   -- 9
                refine .rd rfl rfl (by decide) rfl (by decide) zz1 ?_   -- 10
                refine .rd rfl rfl (by decide) rfl (by decide) zz1 ?_   -- 12
                refine .rd rfl rfl (by decide) rfl (by decide) zz1 ?_   -- 13
                refine .wr rfl rfl (by decide) (.pure rfl rfl rfl Tryz.call41 (by decide) (p41 ws G0 R0 hlw hll hG0 hR0) (by first | rfl | simp [*]) ?_)
                rintro _ rfl
                refine .ck rfl zz0 ?_   -- 13
                refine .ck rfl zz0 ?_   -- 12
                refine .wr rfl rfl (by decide) (.pure rfl rfl rfl Tryz.call38 (by decide) (p38 ws G0 R0 hlw hll hG0 hR0) (by first | rfl | simp [*]) ?_)
                rintro _ rfl
                refine .rd rfl rfl (by decide) rfl (by decide) zz1 ?_   -- 15
                refine .rd rfl rfl (by decide) rfl (by decide) zz1 ?_   -- 16
                refine .rd rfl rfl (by decide) rfl (by decide) zz1 ?_   -- 17
                refine .split (t := 133) rfl (fun c133 => ?_) (fun c133 => ?_)
                · try rw [c133]
                  try simp at c133
                  refine .rd rfl rfl (by decide) rfl (by decide) zz1 ?_   -- 18
                  refine .rd rfl rfl (by decide) rfl (by decide) zz1 ?_   -- 19
                  refine .rd rfl rfl (by decide) rfl (by decide) zz1 ?_   -- 21
                  refine .rd rfl rfl (by decide) rfl (by decide) zz1 ?_   -- 22
                  refine .wr rfl rfl (by decide) (.pure rfl rfl rfl Tryz.call41 (by decide) (p41 ws G2 R2 hlw hll hG2 hR2) (by first | rfl | simp [*]) ?_)
                  rintro _ rfl
                  refine .ck rfl zz0 ?_   -- 22
                  refine .ck rfl zz0 ?_   -- 21
                  refine .wr rfl rfl (by decide) (.pure rfl rfl rfl Tryz.call38 (by decide) (p38 ws G2 R2 hlw hll hG2 hR2) (by first | rfl | simp [*]) ?_)
                  rintro _ rfl
                  refine .rd rfl rfl (by decide) rfl (by decide) zz1 ?_   -- 24
                  refine .rd rfl rfl (by decide) rfl (by decide) zz1 ?_   -- 25
                  refine .rd rfl rfl (by decide) rfl (by decide) zz1 ?_   -- 26
                  refine .done ?_
                  refine .ret ?_
                  refine ⟨_, _, zz2,zz2, ?_⟩
                  first | rfl | (simp [*]; done) | (simp_all; done)
                · try rw [c133]
                  try simp at c133
              · try rw [c124]
                try simp at c124
            · try rw [c117]
              try simp at c117
end Go.Am.Hi
end
