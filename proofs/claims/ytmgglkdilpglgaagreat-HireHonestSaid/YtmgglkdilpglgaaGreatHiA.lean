/-
  What is used in the proof of a statement (part HiA); no condition.
-/
import Derived.Test.YtmgglkdilpglgaaGreatHiZ
import Derived.Test.YtmgglkdilpglgaaGreatVm2
import Derived.Test.YtmgglkdilpglgaaGreatHiT
set_option linter.all false
section
namespace Go.Am.Hi
open Go Go.Am Go.Proofs
set_option maxRecDepth 100000
set_option maxHeartbeats 4000000
set_option linter.unusedSimpArgs false
set_option linter.unusedVariables false
attribute [local simp] vrun vwanted vyielded vop vopA vputAll VHeap.back hidI hidF backL bm Nat.testBit_eq_decide_div_mod_eq veval vevals vparts vO vbuiltin vlen vappend velems vcopy vmakeSlice vbuildSlice valloc vbox vmakeMap vload vpartT vpart vstore vfieldAddr vfield vindexAddr vindex vextract vslice vsliceZ vbounds vbnd zeroO vidx vlookup vmget vmapUpdate vdelete vclear vnilq vnilp vnils vbin vsc vsc1 vscs vscl abinOp aint ashift aunOp aconvert amaxs amax2 pvcV pvc pvcs tput tget vargs VHeap.get VHeap.alloc VHeap.put VHeap.drop VHeap.empty vlook vput vdrop psplice pfill preps chunk List.range List.range.loop vresults vresult vresultV frz frzL PV.isF PV.allF PV.scal PV.allS retP subT allFT PV.one PV.ids PV.idsL dropL beq_eq ble_dec blt_dec
theorem p70 (n a b : Int) : VPure Tryz.prog 70 [.int .i64 n, .int .i64 a, .int .i64 b] fun r => r = .bool (decide (a ≤ n) && decide (n ≤ b)) := by
  refine .of_body Tryz.func70 rfl rfl ?_
  refine .seq ?_
  refine .rn ?_
  refine .seq ?_
  refine .regionL [0,1,2,3,4,5,6,7,8] rfl zz0 ?_
  refine .rn [0,1,2,3] [4,5,6,7,8] ?_
  refine .split (t := 10) rfl (fun c10 => ?_) (fun c10 => ?_)
  · try rw [c10]
    try simp at c10
    refine .rn [4,5,6,7,8] [] ?_
    refine .done ?_
    refine .ret ?_
    refine ⟨_, _, zz2,zz2, ?_⟩
    simp <;> omega
  · try rw [c10]
    try simp at c10
    refine .rn [4,5,6,7,8] [] ?_
    refine .done ?_
    refine .ret ?_
    refine ⟨_, _, zz2,zz2, ?_⟩
    simp <;> omega
def idxF {α : Type} (p : α → Bool) : Nat → List α → Int
  | _, [] => -1
  | i, a :: r => if p a then i else idxF p (i + 1) r
theorem idxF_drop {α : Type} (p : α → Bool) (l : List α) (i : Nat) (h : i < l.length) : idxF p i (l.drop i) = if p l[i] then (i : Int) else idxF p (i + 1) (l.drop (i + 1)) := by
  rw [List.drop_eq_getElem_cons h]; rfl
theorem idxF_ge {α : Type} (p : α → Bool) : ∀ (l : List α) (i : Nat),(idxF p i l = -1 ∧ l.any p = false) ∨ ((i : Int) ≤ idxF p i l ∧ idxF p i l < i + l.length ∧ l.any p = true)
  | [], i => .inl ⟨rfl, rfl⟩
  | a :: r, i => by
    simp only [idxF, List.any_cons, List.length_cons]
    cases h : p a with
    | true => exact .inr ⟨by simp, by simp; omega, rfl⟩
    | false =>
      rcases idxF_ge p r (i + 1) with ⟨h1, h2⟩ | ⟨h1, h2, h3⟩
      · exact .inl ⟨by simpa using h1, by simpa using h2⟩
      · exact .inr ⟨by simp; omega, by simp; omega, by simpa using h3⟩
theorem idxF_any {α : Type} (p : α → Bool) (l : List α) (i : Nat) : decide (idxF p i l ≥ 0) = l.any p := by
  rcases idxF_ge p l i with ⟨h1, h2⟩ | ⟨h1, h2, h3⟩
  · rw [h1, h2]; decide
  · rw [h3]; simp; omega
def prm (l : List Int) : Bool := decide (l.Nodup ∧ ∀ n ∈ l, 0 ≤ n ∧ n ≤ (l.length : Int) - 1)
def PrmK (l : List Int) (i : Nat) : Prop := (l.take i).Nodup ∧ ∀ n ∈ l.take i, 0 ≤ n ∧ n ≤ (l.length : Int) - 1
def rowB (l : List Int) : Bool := prm l && (decide (1 ≤ l.length) && decide (l.length ≤ 24))
end Go.Am.Hi
end

section
namespace Go.Am.Hi
open Go Go.Am Go.Proofs
set_option maxRecDepth 100000
set_option maxHeartbeats 4000000
set_option linter.unusedSimpArgs false
set_option linter.unusedVariables false
attribute [local simp] vrun vwanted vyielded vop vopA vputAll VHeap.back hidI hidF backL bm Nat.testBit_eq_decide_div_mod_eq veval vevals vparts vO vbuiltin vlen vappend velems vcopy vmakeSlice vbuildSlice valloc vbox vmakeMap vload vpartT vpart vstore vfieldAddr vfield vindexAddr vindex vextract vslice vsliceZ vbounds vbnd zeroO vidx vlookup vmget vmapUpdate vdelete vclear vnilq vnilp vnils vbin vsc vsc1 vscs vscl abinOp aint ashift aunOp aconvert amaxs amax2 pvcV pvc pvcs tput tget vargs VHeap.get VHeap.alloc VHeap.put VHeap.drop VHeap.empty vlook vput vdrop psplice pfill preps chunk List.range List.range.loop vresults vresult vresultV frz frzL PV.isF PV.allF PV.scal PV.allS retP subT allFT PV.one PV.ids PV.idsL dropL beq_eq ble_dec blt_dec
def nx (row : List Int) (c : Int) : Int := row.getD c.toNat 0
def wlk (row bar : List Int) : Nat → Int → List Int → List Int
  | 0, _, l => l
  | k + 1, c, l => if c ∈ bar ++ l then l else wlk row bar k (nx row c) (l ++ [c])
def lpH (row : List Int) : Nat → List (List Int)
  | 0 => []
  | k + 1 => if (k : Int) ∈ (lpH row k).flatten then lpH row k else lpH row k ++ [wlk row (lpH row k).flatten (row.length + 1) k []]
def lpR (row : List Int) : Nat → List (List Int)
  | 0 => []
  | k + 1 => if (k : Int) ∈ (lpR row k).flatten then lpR row k else lpR row k ++ [wlk row [] (row.length + 1) k []]
def seenV (n : Nat) (S : List Int) : List PV := (List.range n).map fun (i : Nat) => PV.bool (decide ((i : Int) ∈ S))
@[simp] theorem seenV_len (n : Nat) (S : List Int) : (seenV n S).length = n := by simp [seenV, -List.range, -List.range.loop]
@[simp] theorem seenV_one (n : Nat) (S : List Int) : (seenV n S).all PV.one = true := by simp [seenV, PV.one]
@[simp] theorem seenV_allF (n : Nat) (S : List Int) : PV.allF (seenV n S) = true := by
  unfold seenV
  exact allF_map (fun _ => rfl) _
theorem in_len {l : List Int} {n : Nat} (h1 : l.Nodup) (h2 : ∀ x ∈ l, 0 ≤ x ∧ x < (n : Int)) : l.length ≤ n := by
  have := h1.length_le_of_subset (l₂ := (List.range n).map Int.ofNat) fun x hx => by
    obtain ⟨h3, h4⟩ := h2 x hx
    exact List.mem_map.2 ⟨x.toNat, List.mem_range.2 (by omega), by simp; omega⟩
  rw [List.length_map, List.length_range] at this; exact this
def WK (row S : List Int) (c : Int) (a : Nat) (l : List Int) : Prop := a < row.length ∧ l.Nodup ∧ (∀ x ∈ l, 0 ≤ x ∧ x < (row.length : Int)) ∧ wlk row S (row.length + 1 - l.length) a l = wlk row S (row.length + 1) c []
theorem WK.len {row S : List Int} {c : Int} {a : Nat} {l : List Int} (h : WK row S c a l) : l.length ≤ row.length := in_len h.2.1 h.2.2.1
theorem WK.next {row S : List Int} {c : Int} {a : Nat} {l : List Int} (hr : ∀ n ∈ row, 0 ≤ n ∧ n ≤ (row.length : Int) - 1) (h : WK row S c a l) (hm : (a : Int) ∉ S ++ l) : WK row S c (row[a]'h.1).toNat (l ++ [(a : Int)]) := by
  have hlen := h.len
  obtain ⟨h1, h2, h3, h4⟩ := h
  have hx := hr _ (List.getElem_mem h1)
  refine ⟨by omega, ?_, fun x hx => ?_, ?_⟩
  · rw [List.nodup_append]
    refine ⟨h2, by simp, fun x hx b hb hab => hm ?_⟩
    rw [List.mem_singleton] at hb
    rw [List.mem_append, ← hb, ← hab]; exact .inr hx
  · rcases List.mem_append.1 hx with hx | hx
    · exact h3 x hx
    · rw [List.mem_singleton] at hx; omega
  · have e1 : row.length + 1 - (l ++ [(a : Int)]).length = row.length - l.length := by rw [List.length_append, List.length_singleton]; omega
    rw [show row.length + 1 - l.length = (row.length - l.length) + 1 by omega, wlk, if_neg hm] at h4
    rw [e1]
    refine Eq.trans ?_ h4
    congr 1
    unfold nx
    rw [Int.toNat_natCast, List.getD_eq_getElem?_getD, List.getElem?_eq_getElem h1, Option.getD_some]
    omega
theorem WK.zero {row S : List Int} {k : Nat} (h : k < row.length) : WK row S k k [] := ⟨h, by simp, by simp, rfl⟩
@[simp] theorem allSz_ints (l : List (List Int)) : allSz 1 (l.map ints) = true := allSz_map (f := ints) (n := 1) (fun _ => rfl) l
@[simp] theorem allOne_ints (l : List (List Int)) : allOne (l.map ints) = true := allOne_map (f := ints) (fun _ => rfl) l
end Go.Am.Hi
end

section
namespace Go.Am.Hi
open Go Go.Am Go.Proofs
set_option maxRecDepth 100000
set_option maxHeartbeats 4000000
set_option linter.unusedSimpArgs false
set_option linter.unusedVariables false
attribute [local simp] vrun vwanted vyielded vop vopA vputAll VHeap.back hidI hidF backL bm Nat.testBit_eq_decide_div_mod_eq veval vevals vparts vO vbuiltin vlen vappend velems vcopy vmakeSlice vbuildSlice valloc vbox vmakeMap vload vpartT vpart vstore vfieldAddr vfield vindexAddr vindex vextract vslice vsliceZ vbounds vbnd zeroO vidx vlookup vmget vmapUpdate vdelete vclear vnilq vnilp vnils vbin vsc vsc1 vscs vscl abinOp aint ashift aunOp aconvert amaxs amax2 pvcV pvc pvcs tput tget vargs VHeap.get VHeap.alloc VHeap.put VHeap.drop VHeap.empty vlook vput vdrop psplice pfill preps chunk List.range List.range.loop vresults vresult vresultV frz frzL PV.isF PV.allF PV.scal PV.allS retP subT allFT PV.one PV.ids PV.idsL dropL beq_eq ble_dec blt_dec
def Soft (r v : PV) : Prop := Alt VHeap.empty 0 (fun _ => true) id r v
theorem VPure.soft {P : Program} {f : FuncId} {args : List PV} {v : PV} (hp : VPure P f args fun r => Soft r v) (hv : v.isF = true) : VPure P f args fun r => r = v := hp.alt fun r h => ⟨v, h, hv, rfl⟩
theorem soft_rfl {v : PV} (h : v.isF = true) : Soft v v := .same v h
theorem soft_tup {l l2 : List PV} (h : AltL VHeap.empty 0 (fun _ => true) id l l2) : Soft (.tup l) (.tup l2) := .tup' h
def lpsE (row : List Int) : Int := if rowB row then 0 else 1
def lpsH (row : List Int) : List (List Int) := if rowB row then lpH row row.length else []
def lpsR (row : List Int) : List (List Int) := if rowB row then lpR row row.length else []
end Go.Am.Hi
end

section
namespace Go.Am.Hi
open Go Go.Am Go.Proofs
set_option maxRecDepth 100000
set_option maxHeartbeats 4000000
set_option linter.unusedSimpArgs false
set_option linter.unusedVariables false
attribute [local simp] vrun vwanted vyielded vop vopA vputAll VHeap.back hidI hidF backL bm Nat.testBit_eq_decide_div_mod_eq veval vevals vparts vO vbuiltin vlen vappend velems vcopy vmakeSlice vbuildSlice valloc vbox vmakeMap vload vpartT vpart vstore vfieldAddr vfield vindexAddr vindex vextract vslice vsliceZ vbounds vbnd zeroO vidx vlookup vmget vmapUpdate vdelete vclear vnilq vnilp vnils vbin vsc vsc1 vscs vscl abinOp aint ashift aunOp aconvert amaxs amax2 pvcV pvc pvcs tput tget vargs VHeap.get VHeap.alloc VHeap.put VHeap.drop VHeap.empty vlook vput vdrop psplice pfill preps chunk List.range List.range.loop vresults vresult vresultV frz frzL PV.isF PV.allF PV.scal PV.allS retP subT allFT PV.one PV.ids PV.idsL dropL beq_eq ble_dec blt_dec
@[simp] theorem all_one_int (k : IntKind) (l : List Int) : (l.map (PV.int k)).all PV.one = true := by simp [PV.one]
theorem frz_own_int (vh : VHeap) (i k : Nat) (l : List Int) (hg : vh.get i = some (.arr false 1 (l.map (PV.int .i64)))) : frz vh (.own i 0 l.length k) = some (ints l) := by
  by_cases h : l.length = 0
  · have := List.eq_nil_of_length_eq_zero h
    subst this; rfl
  · have h1 : Nat.beq l.length 0 = false := by rw [beq_eq]; simpa using h
    have h2 : (l.map (PV.int .i64)).take l.length = l.map (PV.int .i64) := by
      have := List.take_length (l := l.map (PV.int .i64)); simpa using this
    simp only [frz, h1, cond_false, hg, velems]
    simp only [all_one_int, beq_eq, ble_dec, List.drop_zero, chunk, cond_false, h2, List.length_map]
    simp
def encX (x : Int × Int) : PV := .agg [.int .i64 x.1, .int .i64 x.2]
@[simp] theorem encX_cells (x : Int × Int) : (encX x).cells = [.int .i64 x.1, .int .i64 x.2] := rfl
@[simp] theorem encX_isF (x : Int × Int) : (encX x).isF = true := rfl
def swp (r : List Int) (x : Int × Int) : List Int := (r.set x.1.toNat (r.getD x.2.toNat 0)).set x.2.toNat (r.getD x.1.toNat 0)
def exch (r : List Int) (l : List (Int × Int)) : List Int := l.foldl swp r
@[simp] theorem swp_len (r : List Int) (x : Int × Int) : (swp r x).length = r.length := by simp [swp]
theorem set_put (r : List Int) (a : Nat) (y : Int) (h : a < r.length) : (r.map (PV.int .i64)).take a ++ PV.int .i64 y :: (r.map (PV.int .i64)).drop (a + 1) = (r.set a y).map (PV.int .i64) := by
  rw [List.map_set, List.set_eq_take_append_cons_drop, if_pos (by simpa using h)]
def okX (n : Nat) (l : List (Int × Int)) : Prop := ∀ x ∈ l, (0 ≤ x.1 ∧ x.1 ≤ (n : Int) - 1) ∧ 0 ≤ x.2 ∧ x.2 ≤ (n : Int) - 1
def goodX (n : Nat) (x : Int × Int) : Bool := (decide (0 ≤ x.1) && decide (x.1 ≤ (n : Int) - 1)) && (decide (0 ≤ x.2) && decide (x.2 ≤ (n : Int) - 1)) && !decide (x.1 = x.2)
def exE (row : List Int) (l : List (Int × Int)) : Int := if rowB row then (if 120 < l.length then 2 else if l.all (goodX row.length) then 0 else 1) else 1
end Go.Am.Hi
end
