/-
  What is used in the proof of a statement (part HjC); no condition.
-/
import Derived.Test.YtmgglkdilpglgaaGreatHiZ
import Derived.Test.YtmgglkdilpglgaaGreatVm2
import Derived.Test.YtmgglkdilpglgaaGreatHiT
import Derived.Test.YtmgglkdilpglgaaGreatHjB
import Derived.Test.YtmgglkdilpglgaaGreatHiS
set_option linter.all false
section
namespace Go.Am.Hi
open Go Go.Am Go.Proofs
set_option maxRecDepth 100000
set_option maxHeartbeats 4000000
set_option linter.unusedSimpArgs false
set_option linter.unusedVariables false
attribute [local simp] vrun vwanted vyielded vop vopA vputAll VHeap.back hidI hidF backL bm Nat.testBit_eq_decide_div_mod_eq veval vevals vparts vO vbuiltin vlen vappend velems vcopy vmakeSlice vbuildSlice valloc vbox vmakeMap vload vpartT vpart vstore vfieldAddr vfield vindexAddr vindex vextract vslice vsliceZ vbounds vbnd zeroO vidx vlookup vmget vmapUpdate vdelete vclear vnilq vnilp vnils vbin vsc vsc1 vscs vscl abinOp aint ashift aunOp aconvert amaxs amax2 pvcV pvc pvcs tput tget vargs VHeap.get VHeap.alloc VHeap.put VHeap.drop VHeap.empty vlook vput vdrop psplice pfill preps chunk List.range List.range.loop vresults vresult vresultV frz frzL PV.isF PV.allF PV.scal PV.allS retP subT allFT PV.one PV.ids PV.idsL dropL beq_eq ble_dec blt_dec
noncomputable def mkG (ws : List (List Int)) : List Int := if mkE ws = 0 then madeL ws else []
def MkR (ws : List (List Int)) (R : List Int) : Prop := (mkE ws = 0 → AccL ws (mkG ws) R) ∧ (¬mkE ws = 0 → R = [])
theorem mkG_ok {ws : List (List Int)} (h : mkE ws = 0) {G : List Int} (hg : AccG ws G) : mkG ws = G := by
  unfold mkG; rw [if_pos h]; exact madeL_of (mkt_of h) hg
theorem mkG_err {ws : List (List Int)} (h : ¬mkE ws = 0) : mkG ws = [] := by unfold mkG; rw [if_neg h]
theorem p32s (ws : List (List Int)) (hl : ws.length < 4294967296) (hll : ∀ l ∈ ws, l.length < 4294967296) : VPure Tryz.prog 32 [encM ws] fun r => ∃ R, Soft r (.tup [.agg [ints (mkG ws), ints R], .int .i64 (mkE ws)]) ∧ MkR ws R := by
  refine .of_body Tryz.func32 rfl rfl ?_
  refine .seq ?_
  refine .rn ?_
  refine .seq ?_
  refine .seq ?_
  refine .regionL [0,1,2] rfl zz0 ?_
  refine .rn [0] [1,2] ?_
  refine .step rfl rfl (.pure rfl rfl rfl Tryz.call39 (by decide) (p39 ws hl hll) (by first | rfl | simp [*]) ?_)
  rintro _ rfl
  refine .rn [2] [] ?_
  refine .done ?_
  refine .seq ?_
  refine .rn ?_
  refine .condS rfl (fun c8 => ?_) (fun c8 => ?_)
  · try simp at c8
    refine .seq ?_
    refine .rn ?_
    refine .ret ?_
    refine ⟨_, _, zz2,zz2, ⟨[], ?_, fun h => absurd h c8, fun _ => rfl⟩⟩
    rw [mkG_err c8]
    exact soft_tup (AltL.cons (Alt.agg' (AltL.cons .sl0v (AltL.cons .sl0v AltL.nil))) (AltL.cons (.same _ rfl) AltL.nil))
  · try simp at c8
    refine .skip ?_
    refine .seq ?_
    refine .regionL [0,1,2,3] rfl zz0 ?_
    refine .rn [0] [1,2,3] ?_
    refine .step rfl rfl (.pure rfl rfl rfl Tryz.call96 (by decide) (p96 ws (mkt_of c8) hll) (by first | rfl | simp [*]) ?_)
    rintro _ ⟨G, R, rfl, hG⟩
    refine .rn [2,3] [] ?_
    refine .done ?_
    refine .ret ?_
    refine ⟨_, _, zz2,zz2, ⟨R, ?_, fun h => ?_, fun h => absurd c8 h⟩⟩
    · rw [mkG_ok c8 hG.g, c8]; exact soft_rfl rfl
    · rw [mkG_ok h hG.g]; exact hG
theorem p32 (ws : List (List Int)) (hl : ws.length < 4294967296) (hll : ∀ l ∈ ws, l.length < 4294967296) : VPure Tryz.prog 32 [encM ws] fun r => ∃ R, r = .tup [.agg [ints (mkG ws), ints R], .int .i64 (mkE ws)] ∧ MkR ws R :=
  (p32s ws hl hll).alt fun r ⟨R, h1, h2⟩ => ⟨_, h1, rfl, R, rfl, h2⟩
theorem p33 (ws : List (List Int)) (s : Nat) (p : Int) (hs : s < ws.length) (hl : ws[s].length < 4294967296) : VPure Tryz.prog 33 [encM ws, .int .i64 s, .int .i64 p] fun r => r = .int .i64 (prk ws s p) := by
  rw [prk_at hs]
  obtain ⟨l, hL⟩ : ∃ l, ws[s] = l := ⟨_, rfl⟩
  rw [hL] at hl ⊢
  have hw1 : IntKind.i64.wrap ((l.length : Int) + 1) = (l.length : Int) + 1 := wrap64 (by omega) (by omega)
  refine .of_body Tryz.func33 rfl rfl ?_
  refine .seq ?_
  refine .rn ?_
  refine .seq ?_
  refine .seq ?_
  refine .rn ?_
  refine .block ?_
  refine .loopS (fun k : Nat => ([(1, .int .i64 s),(2, .int .i64 p),(3, .vp [.vec (ws.map ints)]),(14, ints l),(15, .int .i64 l.length),(16, .int .i64 k)], VHeap.empty)) (fun k => k ≤ l.length ∧ idxF (fun a => decide (p = a)) k (l.drop k) = idxF (fun a => decide (p = a)) 0 l) (fun k => l.length - k) 0 ⟨by simp, by simp⟩ (.mk [0] [] zz14 zz15 rfl rfl rfl) ?_
  rintro k ⟨hk, hr⟩
  simp only at hk hr ⊢
  refine .seq ?_
  refine .rn ?_
  refine .seq ?_
  refine .condS rfl (fun c17 => ?_) (fun c17 => ?_)
  · try simp at c17
    have hw2 : IntKind.i64.wrap ((k : Int) + 1) = (k : Int) + 1 := wrap64 (by omega) (by omega)
    rw [idxF_drop _ l k c17] at hr
    refine .skip ?_
    refine .seq ?_
    refine .block ?_
    refine .seq ?_
    refine .rn ?_
    refine .seq ?_
    refine .rn ?_
    refine .condS rfl (fun c23 => ?_) (fun c23 => ?_)
    · try simp at c23
      refine .seq ?_
      refine .rn ?_
      refine .ret ?_
      refine ⟨_, _, zz2,zz2, ?_⟩
      rw [rkL_yes (i := k) (by rw [← hr, if_pos (by simp [c23])]) (by omega)]
    · try simp at c23
      refine .skip ?_
      refine .rn ?_
      refine ⟨k + 1, ⟨zz3, ?_⟩, zz3,(.mk [] [] zz8 zz9 rfl rfl rfl)⟩
      rw [← hr, if_neg (by simp; exact fun h => c23 h.symm)]
  · try simp at c17
    have hkn : k = l.length := by omega
    have hn : idxF (fun a => decide (p = a)) 0 l < 0 := by rw [← hr, hkn, List.drop_length]; exact (by decide : (-1 : Int) < 0)
    refine .exit ?_
    refine .seq ?_
    refine .rn ?_
    refine .seq ?_
    refine .seq ?_
    refine .rn ?_
    refine .condS rfl (fun c34 => ?_) (fun c34 => ?_)
    · try simp at c34
      refine .rn ?_
      refine .seq ?_
      refine .rn ?_
      refine .ret ?_
      refine ⟨_, _, zz2,zz2, ?_⟩
      first | rw [rkL_own hn (by first | exact c34 | exact c34.symm | omega)] | rw [rkL_no hn c34]
    · try simp at c34
      refine .skip ?_
      refine .seq ?_
      refine .rn ?_
      refine .ret ?_
      refine ⟨_, _, zz2,zz2, ?_⟩
      first | rw [rkL_no hn c34] | rw [rkL_own hn (by first | exact c34 | exact c34.symm | omega)]
theorem p30 (ws : List (List Int)) (hl : ws.length < 4611686018427387904) (hll : ∀ l ∈ ws, l.length < 17592186043905) : VPure Tryz.prog 30 [encM ws] fun r => r = .bool (decide (ws.length ≤ 12) && decide (mkE ws = 0)) := by
  refine .of_body Tryz.func30 rfl rfl ?_
  refine .seq ?_
  refine .rn ?_
  refine .seq ?_
  refine .regionL [0,1,2,3,4,5,6,7,8,9] rfl zz0 ?_
  refine .rn [0,1,2,3,4] [5,6,7,8,9] ?_
  refine .split (t := 7) rfl (fun c7 => ?_) (fun c7 => ?_)
  · try rw [c7]
    try simp at c7
    refine .rn [5] [6,7,8,9] ?_
    refine .step rfl rfl (.pure rfl rfl rfl Tryz.call39 (by decide) (p39b ws hl hll) (by first | rfl | simp [*]) ?_)
    rintro _ rfl
    refine .rn [7,8,9] [] ?_
    refine .done ?_
    refine .ret ?_
    refine ⟨_, _, zz2,zz2, ?_⟩
    rw [decide_eq_true (show ws.length ≤ 12 by omega), Bool.true_and]; rfl
  · try rw [c7]
    try simp at c7
    refine .rn [5,6,7,8,9] [] ?_
    refine .done ?_
    refine .ret ?_
    refine ⟨_, _, zz2,zz2, ?_⟩
    rw [decide_eq_false (show ¬ws.length ≤ 12 by omega)]; rfl
def bR (ws : List (List Int)) (left : List Int) (x : Int) : Int := bstR (ws.getD x.toNat []) x left
theorem bR_le {ws : List (List Int)} {left : List Int} {x y : Int} (h : y ∈ left) : prk ws x (bR ws left x) ≤ prk ws x y := bstR_le h
def itL (b : Int → Int) (a : Int) (k : Nat) : List Int := (List.range k).map fun i => itr b i a
structure CycP (b : Int → Int) (left C : List Int) : Prop where
  pos : 0 < C.length
  le : C.length ≤ left.length
  sub : ∀ x ∈ C, x ∈ left
  to : ∀ x ∈ C, b x ∈ C
  back : ∀ x ∈ C, Back b C.length x
def MdI (ws : List (List Int)) (out left : List Int) : Prop := out.length = ws.length ∧ (∀ x ∈ left, InN ws.length x) ∧ left.length ≤ ws.length ∧ ∃ (R : Int → Int) (r : Int),1 ≤ r ∧ Rnd ws (fun i => i ∈ left) (nx out) R r
theorem MdI.start (ws : List (List Int)) : MdI ws (List.replicate ws.length 0) (idn ws.length) := by
  refine ⟨by simp, idn_in, by rw [idn_len]; exact Nat.le_refl _, fun _ => 0,1, Int.le_refl _, Rnd.start ws _ (fun i hi => ?_) _ _⟩
  obtain ⟨k, hk, rfl⟩ := hi.nat
  exact List.mem_map.2 ⟨k, List.mem_range.2 hk, rfl⟩
def lfC (left C : List Int) (i : Nat) : List Int := left.filter fun x => !decide (x ∈ C.take i)
theorem lfC_mem {left C : List Int} {x : Int} : x ∈ lfC left C C.length ↔ x ∈ left ∧ x ∉ C := by
  unfold lfC; rw [List.take_length, List.mem_filter]; simp
theorem MdI.step {ws : List (List Int)} (hm : Mkt ws) {out left C out' : List Int} (h : MdI ws out left) (hC : CycP (bR ws left) left C) (hl : out'.length = ws.length) (ho : ∀ j : Nat, j < ws.length → nx out' j = if (j : Int) ∈ C then bR ws left j else nx out j) : MdI ws out' (lfC left C C.length) ∧ (lfC left C C.length).length < left.length := by
  obtain ⟨h1, h2, h3, R, r, h4, h5⟩ := h
  have hpos := hC.pos
  have hlt : (lfC left C C.length).length < left.length := by
    unfold lfC
    rw [List.take_length, List.length_filter_lt_length_iff_exists]
    exact ⟨C[0], hC.sub _ (List.getElem_mem hpos), by simp⟩
  refine ⟨⟨hl, fun x hx => h2 x (lfC_mem.1 hx).1, by omega, fun i => if i ∈ C then r else R i, r + 1, by omega, ?_⟩, hlt⟩
  refine h5.step h4 (C := fun i => i ∈ C) (b := bR ws left) (fun i hi => ⟨h2 i (hC.sub i hi), hC.sub i hi⟩) (fun i hi => hC.to i hi) (fun i j hi hj he => (hC.back i hi).inj (hC.back j hj) he) (fun i k hi hk hkl => bR_le hkl) (fun i hi => ?_) (fun i hi hn => ?_) (fun i hi => if_pos hi) (fun i hi hn => if_neg hn) (fun i => lfC_mem)
  · obtain ⟨j, hj, rfl⟩ := (h2 i (hC.sub i hi)).nat
    rw [ho j hj, if_pos hi]
  · obtain ⟨j, hj, rfl⟩ := hi.nat
    rw [ho j hj, if_neg hn]
theorem MdI.done {ws : List (List Int)} {out left : List Int} (h : MdI ws out left) (h0 : left.length = 0) : AccG ws out := by
  obtain ⟨h1, _, _, R, r, _, h5⟩ := h
  refine ⟨h1, R, h5.acc fun i _ hi => ?_⟩
  rw [List.eq_nil_of_length_eq_zero h0] at hi; cases hi
end Go.Am.Hi
end

section
namespace Go.Am.Hi
open Go Go.Am Go.Proofs
set_option maxRecDepth 100000
set_option maxHeartbeats 4000000
set_option linter.unusedSimpArgs false
set_option linter.unusedVariables false
attribute [local simp] vrun vwanted vyielded vop vopA vputAll VHeap.back hidI hidF backL bm Nat.testBit_eq_decide_div_mod_eq veval vevals vparts vO vbuiltin vlen vappend velems vcopy vmakeSlice vbuildSlice valloc vbox vmakeMap vload vpartT vpart vstore vfieldAddr vfield vindexAddr vindex vextract vslice vsliceZ vbounds vbnd zeroO vidx vlookup vmget vmapUpdate vdelete vclear vnilq vnilp vnils vbin vsc vsc1 vscs vscl abinOp aint ashift aunOp aconvert amaxs amax2 pvcV pvc pvcs tput tget vargs VHeap.get VHeap.alloc VHeap.put VHeap.drop VHeap.empty vlook vput vdrop psplice pfill preps chunk List.range List.range.loop vresults vresult vresultV frz frzL PV.isF PV.allF PV.scal PV.allS retP subT allFT PV.one PV.ids PV.idsL dropL beq_eq ble_dec blt_dec
end Go.Am.Hi
end

section
namespace Go.Am.Hi
open Go Go.Am Go.Proofs
set_option maxRecDepth 100000
set_option linter.unusedSimpArgs false
set_option linter.unusedVariables false

def rowO (n : Nat) (g o : List Int) (i : Nat) : Bool :=
  (((decide (0 ≤ nx g i) && decide (nx g i ≤ (n : Int) - 1)) && (decide (i = 0) || decide (nx g ((i - 1 : Nat) : Int) < nx g i))) && decide (nx o i ∈ g)) && !decide (nx o i ∈ o.take i)
def nowL (l g : List Int) : List Int := g.map (nx l)
def oB (ws : List (List Int)) (l g o : List Int) : Bool := (decide (o.length = g.length) && (List.range g.length).all (rowO ws.length g o)) && betG ws g o (nowL l g)
def oE (ws : List (List Int)) (l g o : List Int) : Int := if gE ws l = 0 then (if oB ws l g o then 0 else 8) else gE ws l
theorem rowO_iff {n : Nat} {g o : List Int} {i : Nat} : rowO n g o i = true ↔ InN n (nx g i) ∧ (i = 0 ∨ nx g ((i - 1 : Nat) : Int) < nx g i) ∧ nx o i ∈ g ∧ nx o i ∉ o.take i := by
  unfold rowO InN
  simp only [Bool.and_eq_true, Bool.or_eq_true, decide_eq_true_eq, Bool.not_eq_true', decide_eq_false_iff_not]
  constructor
  · rintro ⟨⟨⟨⟨h1, h2⟩, h3⟩, h4⟩, h5⟩; exact ⟨⟨h1, by omega⟩, h3, h4, h5⟩
  · rintro ⟨⟨h1, h2⟩, h3, h4, h5⟩; exact ⟨⟨⟨⟨h1, by omega⟩, h3⟩, h4⟩, h5⟩
theorem nowL_len (l g : List Int) : (nowL l g).length = g.length := by unfold nowL; rw [List.length_map]
theorem nowL_at {l g : List Int} {i : Nat} (h : i < g.length) : nx (nowL l g) i = nx l (nx g i) := by
  rw [nx_at (by rw [nowL_len]; exact h), nx_at h]
  simp only [nowL, List.getElem_map]
structure ObjP (ws : List (List Int)) (l g o : List Int) : Prop where
  len : o.length = g.length
  row : ∀ i, i < g.length → rowO ws.length g o i = true
  le : ∀ i, i < g.length → prk ws (nx g i) (nx o i) ≤ prk ws (nx g i) (nx l (nx g i))
  lt : ∃ i, i < g.length ∧ prk ws (nx g i) (nx o i) < prk ws (nx g i) (nx l (nx g i))
theorem ObjP.inc {ws : List (List Int)} {l g o : List Int} (h : ObjP ws l g o) : g.Pairwise (· < ·) := by
  have key : ∀ (j i : Nat) (hj : j < g.length) (hi : i < j), g[i] < g[j] := by
    intro j
    induction j with
    | zero => intro i _ hi; omega
    | succ j ih =>
      intro i hj hi
      have h1 := (rowO_iff.1 (h.row (j + 1) hj)).2.1
      have h2 : g[j] < g[j + 1] := by
        rcases h1 with h1 | h1
        · omega
        · rw [show j + 1 - 1 = j by omega, nx_at hj, nx_at (show j < g.length by omega)] at h1; exact h1
      by_cases h3 : i = j
      · subst h3; exact h2
      · have := ih i (by omega) (by omega); omega
  exact List.pairwise_iff_getElem.2 fun i j hi hj hlt => key j i hj hlt
theorem ObjP.inn {ws : List (List Int)} {l g o : List Int} (h : ObjP ws l g o) : ∀ x ∈ g, InN ws.length x := fun x hx => by
  obtain ⟨i, hi, rfl⟩ := List.mem_iff_getElem.1 hx
  have := (rowO_iff.1 (h.row i hi)).1
  rwa [nx_at hi] at this
theorem nd_of_lt {l : List Int} (h : l.Pairwise (· < ·)) : l.Nodup := h.imp fun {a b} hlt he => by omega
theorem inn_len {n : Nat} {l : List Int} (h : ∀ x ∈ l, InN n x) (hn : l.Nodup) : l.length ≤ n := by
  have := hn.length_le_of_subset (l₂ := (List.range n).map fun k : Nat => (k : Int)) fun x hx => by
    obtain ⟨k, hk, rfl⟩ := (h x hx).nat
    exact List.mem_map.2 ⟨k, List.mem_range.2 hk, rfl⟩
  simpa using this
theorem ObjP.glen {ws : List (List Int)} {l g o : List Int} (h : ObjP ws l g o) : g.length ≤ ws.length := inn_len h.inn (nd_of_lt h.inc)
theorem ObjP.not {ws : List (List Int)} {G : List Int} (hm : Mkt ws) (hG : AccG ws G) {g o : List Int} : ¬ObjP ws G g o := fun h => by
  obtain ⟨hl, R, hA⟩ := hG
  have hnd := nd_of_lt h.inc
  have hix : ∀ x, x ∈ g → ∃ i, ∃ hi : i < g.length, g[i] = x ∧ g.idxOf x = i := fun x hx => by
    have h1 : g.idxOf x < g.length := List.idxOf_lt_length_of_mem hx
    exact ⟨_, h1, List.getElem_idxOf h1, rfl⟩
  have hall := hA.block hm (S := fun x => x ∈ g) (own := fun x => nx o (g.idxOf x)) h.inn (fun x hx => by
    obtain ⟨i, hi, _, he⟩ := hix x hx
    rw [he]; exact (rowO_iff.1 (h.row i hi)).2.2.1) (fun x y hx hy he => by
    obtain ⟨i, hi, hxi, hi'⟩ := hix x hx
    obtain ⟨j, hj, hyj, hj'⟩ := hix y hy
    rw [hi', hj'] at he
    have hio : i < o.length := by rw [h.len]; exact hi
    have hjo : j < o.length := by rw [h.len]; exact hj
    have n1 := (rowO_iff.1 (h.row i hi)).2.2.2
    have n2 := (rowO_iff.1 (h.row j hj)).2.2.2
    rw [nx_at hio] at he n1
    rw [nx_at hjo] at he n2
    rcases Nat.lt_trichotomy i j with h1 | h1 | h1
    · exfalso; exact n2 (by rw [← he]; exact List.mem_take_iff_getElem.2 ⟨i, by omega, rfl⟩)
    · subst h1; rw [← hxi, ← hyj]
    · exfalso; exact n1 (by rw [he]; exact List.mem_take_iff_getElem.2 ⟨j, by omega, rfl⟩)) (fun x hx => by
    obtain ⟨i, hi, hxi, hi'⟩ := hix x hx
    have := h.le i hi
    rw [nx_at hi, hxi] at this
    rw [hi']; exact this)
  obtain ⟨i, hi, hlt⟩ := h.lt
  have hx := hall _ (List.getElem_mem hi)
  obtain ⟨j, hj, hgj, hj'⟩ := hix _ (List.getElem_mem hi)
  have hij : j = i := (List.getElem_inj hnd).1 hgj
  subst hij
  rw [hj'] at hx
  rw [nx_at hi, hx] at hlt
  omega
theorem obj_of {ws : List (List Int)} {l G R : List Int} (hm : Mkt ws) (h : AccL ws G R) (hl : gts ws l = true) {f : Int} (hf : InN ws.length f) (hne : ¬nx l f = nx G f) (hlow : ∀ j, InN ws.length j → ¬nx l j = nx G j → nx R f ≤ nx R j) {z : List Int} (hz : z.Pairwise (· < ·)) (hfz : f ∈ z) (hin : ∀ x ∈ z, InN ws.length x ∧ nx R x = nx R f) (hcl : ∀ x ∈ z, nx G x ∈ z) : ObjP ws l z (nowL G z) := by
  have hob := h.acc.obj (H := nx l) (r := nx R f) (fun i hi => gts_in hl hi) (fun i j hi hj he => gts_inj hl hi hj he) (fun j hj hlt => Classical.byContradiction fun hno => by have := hlow j hj hno; omega)
  have hle : ∀ i, i < z.length → prk ws (nx z i) (nx (nowL G z) i) ≤ prk ws (nx z i) (nx l (nx z i)) := fun i hi => by
    rw [nowL_at hi, nx_at hi]
    have := hin _ (List.getElem_mem hi)
    exact hob _ this.1 this.2
  have hnd := nd_of_lt hz
  refine ⟨nowL_len _ _, fun i hi => rowO_iff.2 ⟨?_, ?_, ?_, ?_⟩, hle, ?_⟩
  · rw [nx_at hi]; exact (hin _ (List.getElem_mem hi)).1
  · rcases Nat.eq_zero_or_pos i with h0 | h0
    · exact .inl h0
    · right
      rw [nx_at hi, nx_at (show i - 1 < z.length by omega)]
      exact (List.pairwise_iff_getElem.1 hz) (i - 1) i (by omega) hi (by omega)
  · rw [nowL_at hi, nx_at hi]; exact hcl _ (List.getElem_mem hi)
  · rw [nowL_at hi, nx_at hi]
    intro hx
    unfold nowL at hx
    rw [← List.map_take] at hx
    obtain ⟨y, hy, he⟩ := List.mem_map.1 hx
    obtain ⟨j, hj, rfl⟩ := List.mem_take_iff_getElem.1 hy
    have hjz : j < z.length := by omega
    have := h.acc.inj _ _ (hin _ (List.getElem_mem hjz)).1 (hin _ (List.getElem_mem hi)).1 he
    have := (List.getElem_inj hnd).1 this
    omega
  · obtain ⟨i, hi, rfl⟩ := List.mem_iff_getElem.1 hfz
    refine ⟨i, hi, ?_⟩
    have h1 := hle i hi
    rw [nowL_at hi, nx_at hi] at h1 ⊢
    have hI := (hin _ (List.getElem_mem hi)).1
    have hn : ¬prk ws z[i] (nx G z[i]) = prk ws z[i] (nx l z[i]) := fun he => hne (hm.inj hI (h.acc.own hI) he).symm
    omega
def ObjR (ws : List (List Int)) (l g o : List Int) (some : Bool) : Prop :=
  (some = false ∧ g = [] ∧ o = [] ∧ (gE ws l = 0 → l = mkG ws)) ∨ (some = true ∧ gE ws l = 0 ∧ ¬l = mkG ws ∧ ObjP ws l g o)
theorem ObjR.len {ws : List (List Int)} {l g o : List Int} {some : Bool} (h : ObjR ws l g o some) : g.length ≤ ws.length ∧ o.length ≤ ws.length := by
  rcases h with ⟨_, rfl, rfl, _⟩ | ⟨_, _, _, h⟩
  · exact ⟨Nat.zero_le _, Nat.zero_le _⟩
  · have := h.glen; rw [h.len]; exact ⟨this, this⟩
def tellW (ws : List (List Int)) (s : Int) (w : List Int) : List (List Int) := ws.set s.toNat w
def tlE (ws : List (List Int)) (s : Int) (w : List Int) : Int := if mkE ws = 0 then (if 0 ≤ s ∧ s ≤ (ws.length : Int) - 1 then mkE (tellW ws s w) else 1) else mkE ws
def tlW (ws : List (List Int)) (s : Int) (w : List Int) : List (List Int) := if tlE ws s w = 0 then tellW ws s w else []
theorem tlE_err {ws : List (List Int)} {s : Int} {w : List Int} (h : ¬mkE ws = 0) : tlE ws s w = mkE ws := by unfold tlE; rw [if_neg h]
theorem tlE_arg {ws : List (List Int)} {s : Int} {w : List Int} (h : mkE ws = 0) (h1 : ¬(0 ≤ s ∧ s ≤ (ws.length : Int) - 1)) : tlE ws s w = 1 := by unfold tlE; rw [if_pos h, if_neg h1]
theorem tlE_new {ws : List (List Int)} {s : Int} {w : List Int} (h : mkE ws = 0) (h1 : 0 ≤ s ∧ s ≤ (ws.length : Int) - 1) : tlE ws s w = mkE (tellW ws s w) := by unfold tlE; rw [if_pos h, if_pos h1]
theorem tlW_err {ws : List (List Int)} {s : Int} {w : List Int} {e : Int} (h : tlE ws s w = e) (h0 : ¬e = 0) : tlW ws s w = [] := by unfold tlW; rw [if_neg (by rw [h]; exact h0)]
theorem tlW_yes {ws : List (List Int)} {s : Int} {w : List Int} (h : tlE ws s w = 0) : tlW ws s w = tellW ws s w := by unfold tlW; rw [if_pos h]
theorem tellW_len (ws : List (List Int)) (s : Int) (w : List Int) : (tellW ws s w).length = ws.length := by unfold tellW; rw [List.length_set]
theorem tellW_mem {ws : List (List Int)} {s : Int} {w l : List Int} (h : l ∈ tellW ws s w) : l ∈ ws ∨ l = w := List.mem_or_eq_of_mem_set h
theorem honest {ws : List (List Int)} {s : Nat} {w : List Int} (hs : s < ws.length) (h : mkE ws = 0) (h2 : mkE (tellW ws s w) = 0) {R Q : List Int} (hR : MkR ws R) (hQ : MkR (tellW ws s w) Q) : prk ws s (nx (mkG ws) s) ≤ prk ws s (nx (mkG (tellW ws s w)) s) := by
  refine (hR.1 h).acc.honest (mkt_of h2) (tellW_len _ _ _) (hQ.1 h2).acc ⟨by omega, by omega⟩ fun i p hi hne => ?_
  obtain ⟨k, hk, rfl⟩ := hi.nat
  unfold prk tellW
  rw [Int.toNat_natCast, Int.toNat_natCast, List.getD_eq_getElem?_getD, List.getD_eq_getElem?_getD, List.getElem?_set]
  rw [if_neg (by omega)]
end Go.Am.Hi
end

section
namespace Go.Am.Hi
open Go Go.Am Go.Proofs
set_option maxRecDepth 100000
set_option maxHeartbeats 4000000
set_option linter.unusedSimpArgs false
set_option linter.unusedVariables false
attribute [local simp] vrun vwanted vyielded vop vopA vputAll VHeap.back hidI hidF backL bm Nat.testBit_eq_decide_div_mod_eq veval vevals vparts vO vbuiltin vlen vappend velems vcopy vmakeSlice vbuildSlice valloc vbox vmakeMap vload vpartT vpart vstore vfieldAddr vfield vindexAddr vindex vextract vslice vsliceZ vbounds vbnd zeroO vidx vlookup vmget vmapUpdate vdelete vclear vnilq vnilp vnils vbin vsc vsc1 vscs vscl abinOp aint ashift aunOp aconvert amaxs amax2 pvcV pvc pvcs tput tget vargs VHeap.get VHeap.alloc VHeap.put VHeap.drop VHeap.empty vlook vput vdrop psplice pfill preps chunk List.range List.range.loop vresults vresult vresultV frz frzL PV.isF PV.allF PV.scal PV.allS retP subT allFT PV.one PV.ids PV.idsL dropL beq_eq ble_dec blt_dec
end Go.Am.Hi
end

section
namespace Go.Am.Hi
open Go Go.Am Go.Proofs
set_option maxRecDepth 100000
set_option maxHeartbeats 4000000
set_option linter.unusedSimpArgs false
set_option linter.unusedVariables false
attribute [local simp] vrun vwanted vyielded vop vopA vputAll VHeap.back hidI hidF backL bm Nat.testBit_eq_decide_div_mod_eq veval vevals vparts vO vbuiltin vlen vappend velems vcopy vmakeSlice vbuildSlice valloc vbox vmakeMap vload vpartT vpart vstore vfieldAddr vfield vindexAddr vindex vextract vslice vsliceZ vbounds vbnd zeroO vidx vlookup vmget vmapUpdate vdelete vclear vnilq vnilp vnils vbin vsc vsc1 vscs vscl abinOp aint ashift aunOp aconvert amaxs amax2 pvcV pvc pvcs tput tget vargs VHeap.get VHeap.alloc VHeap.put VHeap.drop VHeap.empty vlook vput vdrop psplice pfill preps chunk List.range List.range.loop vresults vresult vresultV frz frzL PV.isF PV.allF PV.scal PV.allS retP subT allFT PV.one PV.ids PV.idsL dropL beq_eq ble_dec blt_dec
theorem flat_row : ∀ l : List (List Int),(l.map ints).flatMap PV.cells = l.map ints
  | [] => rfl
  | a :: r => by simp only [List.map_cons, List.flatMap_cons, flat_row r]; rfl
theorem grw_row (l : List (List Int)) (h : 0 < l.length) (vh : VHeap) (n2 : Nat) (D : Nat → Bool) (ρ : Nat → Nat) : AltO vh n2 D ρ (.grow 1 (l.map ints)) (.arr false 1 (l.map ints)) := by
  cases l with
  | nil => simp at h
  | cons a r => exact ⟨rfl, ⟨_, _, rfl⟩, flat_row _⟩
theorem set_putW (r : List (List Int)) (a : Nat) (y : List Int) (h : a < r.length) : (r.map ints).take a ++ ints y :: (r.map ints).drop (a + 1) = (r.set a y).map ints := by
  rw [List.map_set, List.set_eq_take_append_cons_drop, if_pos (by simpa using h)]
@[simp] theorem all_one_row (l : List (List Int)) : (l.map ints).all PV.one = true := by simp [PV.one, ints]
theorem vel_row (vh : VHeap) (i : Nat) (l : List (List Int)) (n : Nat) (hn : l.length = n) (hg : vh.get i = some (.arr false 1 (l.map ints))) : velems vh 1 (.sub i 0 n) = some (l.map ints) := by
  subst hn
  have h2 : (l.map ints).take l.length = l.map ints := by
    have := List.take_length (l := l.map ints); simpa using this
  simp only [hg, velems, all_one_row, beq_eq, ble_dec, List.drop_zero, chunk, cond_false, h2, List.length_map]
  simp
theorem alt_row {vh : VHeap} {n2 : Nat} {D : Nat → Bool} {ρ : Nat → Nat} (i : Nat) (l : List (List Int)) (n : Nat) (hn : l.length = n) (hD : D i = true) (hg : vh.get i = some (.arr false 1 (l.map ints))) : Alt vh n2 D ρ (.sub i 0 n) (.vec (l.map ints)) :=
  .fsub i 0 n false 1 _ _ hD hg (vel_row vh i l n hn hg)
theorem p94e0 : VPure Tryz.prog 94 [.vec []] fun r => r = .vec [] ∨ r = .sl0 := by
  refine .of_body Tryz.func94 rfl rfl ?_
  refine .seq ?_
  refine .rn ?_
  refine .seq ?_
  refine .seq ?_
  refine .regionL [0,1] rfl zz0 ?_
  refine .rn [0] [1] ?_
  refine .step rfl rfl (.nilQ ⟨_, rfl⟩ u22 rfl rfl (by decide) fun q => ?_)
  refine .done ?_
  cases q with
  | true =>
    refine .condT rfl ?_
    refine .seq ?_
    refine .rn ?_
    refine .ret ?_
    exact ⟨_, .sl0,zz2,(by simp), .inr rfl⟩
  | false =>
    refine .condF rfl ?_
    refine .skip ?_
    refine .seq ?_
    refine .rn ?_
    refine .ret ?_
    first | exact ⟨_, .vec [],zz2,(by simp), .inl rfl⟩ | exact ⟨_, .sl0,zz2,(by simp), .inr rfl⟩
theorem p94n (l : List Int) (hl : l.length < 4294967296) (h0 : 0 < l.length) : VPure Tryz.prog 94 [ints l] fun r => r = ints l := by
  obtain ⟨a, r, rfl⟩ : ∃ a r, l = a :: r := by cases l with | nil => simp at h0 | cons a r => exact ⟨a, r, rfl⟩
  have hl3 : r.length + 1 ≤ 4294967296 := by simp at hl; omega
  have h1 : allSz 1 (PV.int .i64 a :: r.map (PV.int .i64)) = true := allSz_map (f := PV.int .i64) (n := 1) (fun _ => rfl) (a :: r)
  have h2 : allOne (PV.int .i64 a :: r.map (PV.int .i64)) = true := allOne_map (f := PV.int .i64) (fun _ => rfl) (a :: r)
  refine .of_body Tryz.func94 rfl rfl ?_
  refine .seq ?_
  refine .rn ?_
  refine .seq ?_
  refine .seq ?_
  refine .rn ?_
  refine .condS rfl (fun c4 => ?_) (fun c4 => ?_)
  · try simp at c4
  · try simp at c4
    refine .skip ?_
    refine .seq ?_
    refine .rn ?_
    refine .ret ?_
    refine ⟨_, _, zz2,zz2, ?_⟩
    first | rfl | (simp [*]; done) | (simp_all; done)
theorem p94a (l : List Int) (hl : l.length < 4294967296) : VPure Tryz.prog 94 [ints l] fun r => r = ints l := by
  cases l with
  | nil =>
    exact p94e0.alt fun r h => by
      rcases h with rfl | rfl
      · exact ⟨.vec [], .same _ rfl, rfl, rfl⟩
      · exact ⟨.vec [], .sl0v, rfl, rfl⟩
  | cons a r => exact p94n (a :: r) hl (by simp)
theorem tellW_nat (ws : List (List Int)) (s : Nat) (w : List Int) : tellW ws (s : Int) w = ws.set s w := by unfold tellW; rw [Int.toNat_natCast]
theorem row_take (ws : List (List Int)) (k : Nat) (h : k < ws.length) : ws.take (k + 1) = ws.take k ++ [ws[k]] := List.take_succ_eq_append_getElem h
theorem p31 (ws : List (List Int)) (s : Int) (w : List Int) (hl : ws.length < 4294967296) (hll : ∀ l ∈ ws, l.length < 4294967296) (hw : w.length < 4294967296) : VPure Tryz.prog 31 [encM ws, .int .i64 s, ints w] fun r => Soft r (.tup [encM (tlW ws s w), .int .i64 (tlE ws s w)]) := by
  refine .of_body Tryz.func31 rfl rfl ?_
  refine .seq ?_
  refine .rn ?_
  refine .seq ?_
  refine .seq ?_
  refine .regionL [0,1,2] rfl zz0 ?_
  refine .rn [0] [1,2] ?_
  refine .step rfl rfl (.pure rfl rfl rfl Tryz.call39 (by decide) (p39 ws hl hll) (by first | rfl | simp [*]) ?_)
  rintro _ rfl
  refine .rn [2] [] ?_
  refine .done ?_
  refine .seq ?_
  refine .rn ?_
  refine .condS rfl (fun c16 => ?_) (fun c16 => ?_)
  · try simp at c16
    refine .seq ?_
    refine .rn ?_
    refine .ret ?_
    have e := tlE_err (s := s) (w := w) c16
    refine ⟨_, _, zz2,zz2, ?_⟩
    rw [tlW_err e c16, e]
    exact soft_tup (AltL.cons (Alt.agg' (AltL.cons .sl0v AltL.nil)) (AltL.cons (.same _ rfl) AltL.nil))
  · try simp at c16
    have hwl : IntKind.i64.wrap ((ws.length : Int) - 1) = (ws.length : Int) - 1 := wrap64 (by omega) (by omega)
    refine .skip ?_
    refine .seq ?_
    refine .seq ?_
    refine .regionL [0,1,2,3,4,5,6] rfl zz0 ?_
    refine .rn [0,1,2,3,4] [5,6] ?_
    refine .step rfl rfl (.pure rfl rfl rfl Tryz.call70 (by decide) (p70 s 0 ((ws.length : Int) - 1)) (by first | rfl | simp [*]) ?_)
    rintro _ rfl
    refine .rn [6] [] ?_
    refine .done ?_
    refine .condS rfl (fun c25 => ?_) (fun c25 => ?_)
    · try simp at c25
      refine .seq ?_
      refine .rn ?_
      refine .ret ?_
      have e := tlE_arg (s := s) (w := w) c16 (by omega)
      refine ⟨_, _, zz2,zz2, ?_⟩
      rw [tlW_err e (by decide), e]
      exact soft_tup (AltL.cons (Alt.agg' (AltL.cons .sl0v AltL.nil)) (AltL.cons (.same _ rfl) AltL.nil))
    · try simp at c25
      have hsr : 0 ≤ s ∧ s ≤ (ws.length : Int) - 1 := by omega
      have hE := tlE_new (w := w) c16 hsr
      obtain ⟨a, rfl⟩ : ∃ a : Nat, s = a := ⟨s.toNat, by omega⟩
      rw [tellW_nat] at hE
      have ha : a < ws.length := by omega
      have hpos : 0 < ws.length := by omega
      refine .skip ?_
      refine .seq ?_
      refine .rn ?_
      refine .seq ?_
      refine .seq ?_
      refine .rn ?_
      refine .block ?_
      refine .loopS (fun k : Nat => ([(1, .int .i64 a),(2, ints w),(6, .ptr 1 0),(9, .ptr 2 0),(28, .vec (ws.map ints)),(29, .int .i64 ws.length),(30, .int .i64 k)], ⟨4,[(3, .grow 1 ((ws.take k).map ints)),(2, .box [.grow 3 k true]),(1, .box [.sl0])]⟩)) (fun k => k ≤ ws.length) (fun k => ws.length - k) 0 (Nat.zero_le _) (.mk [0] [] zz14 zz15 rfl rfl rfl) ?_
      rintro k hk
      simp only at hk ⊢
      have htl : (ws.take k).length = k := by rw [List.length_take]; omega
      have hTk : k = ws.length → ws.take k = ws := fun h => by rw [h, List.take_length]
      have hS0 := row_take ws k
      obtain ⟨T, hT⟩ : ∃ T, ws.take k = T := ⟨_, rfl⟩
      rw [hT] at htl hTk hS0 ⊢
      refine .seq ?_
      refine .rn ?_
      refine .seq ?_
      refine .condS rfl (fun c31 => ?_) (fun c31 => ?_)
      · try simp at c31
        have hw2 : IntKind.i64.wrap ((k : Int) + 1) = (k : Int) + 1 := wrap64 (by omega) (by omega)
        have hS := hS0 c31
        have hk4 : k + 1 ≤ 4294967296 := by omega
        have hL := hll ws[k] (List.getElem_mem c31)
        refine .skip ?_
        refine .seq ?_
        refine .block ?_
        refine .seq ?_
        refine .rn ?_
        refine .drawn (ms := [0,1,0,4,12,31,63,127]) (W := [3,4,5,7]) (items := [.op 0, .op 1, .op 2, .op 3, .ck 1, .op 4, .ck 1, .op 5, .op 6, .op 7]) rfl zz0 zz0 zz0 ?_
        refine .rd rfl rfl (by decide) rfl (by decide) zz1 ?_   -- 0
        refine .rd rfl rfl (by decide) rfl (by decide) zz1 ?_   -- 1
        refine .rd rfl rfl (by decide) rfl (by decide) zz1 ?_   -- 2
        refine .wr rfl rfl (by decide) (.pure rfl rfl rfl Tryz.call94 (by decide) (p94a ws[k] hL) (by first | rfl | simp [*]) ?_)
        rintro _ rfl
        refine .ck rfl zz0 ?_   -- 1
        refine .wr rfl rfl (by decide) (.vop zz1 (by decide) ?_)   -- 4
        refine .ck rfl zz0 ?_   -- 1
        refine .wr rfl rfl (by decide) (.vop zz1 (by decide) ?_)   -- 5
        refine .rd rfl rfl (by decide) rfl (by decide) zz1 ?_   -- 6
        refine .wr rfl rfl (by decide) (.vop zz1 (by decide) ?_)   -- 7
        refine .done ?_
        refine .rn ?_
        refine ⟨k + 1, c31,zz3,(.mk [] [(3,5)] zz8 zz9 rfl rfl rfl)⟩
      · try simp at c31
        have hkn : k = ws.length := by omega
        rw [hTk hkn, hkn]
        refine .exit ?_
        refine .seq ?_
        refine .rec (vts2 := [(1, .int .i64 a),(2, ints w),(6, .ptr 1 0),(9, .ptr 2 0)]) (vh2 := ⟨4,[(3, .arr false 1 (ws.map ints)),(2, .box [.sub 3 0 ws.length]),(1, .box [.sl0])]⟩) (.mk [] [] zz19 (by repeat' (first | exact trivial | refine And.intro (And.intro (Nat.le_of_ble_eq_true rfl) (Or.inr (And.intro rfl (Exists.intro _ (And.intro rfl ?_))))) ?_ | exact grw_row ws hpos _ _ _ _ | refine AltL.cons ?_ ?_ | exact AltL.nil | exact Alt.growS _ _ _ _ 1 _ (Nat.le_of_ble_eq_true rfl) rfl rfl (by simp) hpos | exact Alt.sl0 _ _ | exact Alt.same _ rfl)) rfl rfl rfl) ?_
        have hP := set_putW ws a w ha
        have ha1 : a + 1 ≤ ws.length := ha
        refine .drawn (ms := [0,1,0,0,8,31,63]) (W := [4,6]) (items := [.op 0, .op 1, .op 2, .op 3, .op 4, .ck 1, .op 5, .op 6]) rfl zz0 zz0 zz0 ?_
        refine .rd rfl rfl (by decide) rfl (by decide) zz1 ?_   -- 0
        refine .rd rfl rfl (by decide) rfl (by decide) zz1 ?_   -- 1
        refine .rd rfl rfl (by decide) rfl (by decide) zz1 ?_   -- 2
        refine .rd rfl rfl (by decide) rfl (by decide) zz1 ?_   -- 3
        refine .wr rfl rfl (by decide) (.pure rfl rfl rfl Tryz.call94 (by decide) (p94a w hw) (by first | rfl | simp [*]) ?_)
        rintro _ rfl
        refine .ck rfl zz0 ?_   -- 1
        refine .rd rfl rfl (by decide) rfl (by decide) zz1 ?_   -- 5
        refine .wr rfl rfl (by decide) (.vop zz1 (by decide) ?_)   -- 6
        refine .done ?_
        refine .seq ?_
        refine .seq ?_
        refine .rec (vts2 := [(6, .ptr 1 0),(9, .ptr 2 0)]) (vh2 := ⟨3,[(2, .box [.vec ((ws.set a w).map ints)]),(1, .box [.sl0])]⟩) (.mk [3] [] zz20 zz21 rfl rfl rfl) ?_
        have hVl : (ws.set a w).length < 4294967296 := by rw [List.length_set]; exact hl
        have hVm : ∀ l ∈ ws.set a w, l.length < 4294967296 := fun l h => (List.mem_or_eq_of_mem_set h).elim (hll l) fun h => by rw [h]; exact hw
        obtain ⟨V, hV⟩ : ∃ V, ws.set a w = V := ⟨_, rfl⟩
        rw [hV] at hE hVl hVm ⊢
        clear hP hTk hS0 hT
        refine .regionL [0,1,2] rfl zz0 ?_
        refine .rn [0] [1,2] ?_
        refine .step rfl rfl (.pure rfl rfl rfl Tryz.call39 (by decide) (p39 V hVl hVm) (by first | rfl | simp [*]) ?_)
        rintro _ rfl
        refine .rn [2] [] ?_
        refine .done ?_
        refine .seq ?_
        refine .rn ?_
        refine .condS rfl (fun c51 => ?_) (fun c51 => ?_)
        · try simp at c51
          refine .seq ?_
          refine .rn ?_
          refine .ret ?_
          have e : tlE ws a w = mkE V := hE
          refine ⟨_, _, zz2,zz2, ?_⟩
          rw [tlW_err e c51, e]
          exact soft_tup (AltL.cons (Alt.agg' (AltL.cons .sl0v AltL.nil)) (AltL.cons (.same _ rfl) AltL.nil))
        · try simp at c51
          refine .skip ?_
          refine .seq ?_
          refine .rn ?_
          refine .ret ?_
          have e : tlE ws a w = 0 := by rw [hE, c51]
          refine ⟨_, .tup [encM V, .int .i64 0],zz2,zz2, ?_⟩
          rw [tlW_yes e, tellW_nat, hV, e]; exact soft_rfl rfl
end Go.Am.Hi
end
