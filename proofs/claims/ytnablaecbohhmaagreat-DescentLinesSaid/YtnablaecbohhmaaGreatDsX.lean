/-
  What is used in the proof of a statement (part DsX); no condition.
-/
import Derived.Test.YtnablaecbohhmaaGreatDsT
import Derived.Test.YtnablaecbohhmaaGreatVm2
import Derived.Test.YtnablaecbohhmaaGreatDsC
import Derived.Test.YtnablaecbohhmaaGreatDsG
import Derived.Test.YtnablaecbohhmaaGreatDsF
set_option linter.all false
section
namespace Go.Am.Ds
open Go Go.Am Go.Proofs
set_option maxRecDepth 100000
set_option maxHeartbeats 4000000
set_option linter.unusedSimpArgs false
set_option linter.unusedVariables false
attribute [local simp] vrun vwanted vyielded vop vopA vputAll VHeap.back hidI hidF backL bm Nat.testBit_eq_decide_div_mod_eq veval vevals vparts vO vbuiltin vlen vappend velems vcopy vmakeSlice vbuildSlice valloc vbox vmakeMap vload vpartT vpart vstore vfieldAddr vfield vindexAddr vindex vextract vslice vsliceZ vbounds vbnd zeroO vidx vlookup vmget vmapUpdate vdelete vclear vnilq vnilp vnils vbin vsc vsc1 vscs vscl abinOp aint ashift aunOp aconvert amaxs amax2 pvcV pvc pvcs tput tget vargs VHeap.get VHeap.alloc VHeap.put VHeap.drop VHeap.empty vlook vput vdrop psplice pfill preps chunk List.range List.range.loop vresults vresult vresultV frz frzL PV.isF PV.allF PV.scal PV.allS retP subT allFT PV.one PV.ids PV.idsL dropL beq_eq ble_dec blt_dec
attribute [local simp] zW tup2
def lowN (l : List Int) (n : Int) : Nat := match l with
  | [] => 0
  | a :: r => if a < n then lowN r n + 1 else 0
def putS (l : List Int) (n : Int) : List Int := if l[lowN l n]? = some n then l else l.take (lowN l n) ++ [n] ++ l.drop (lowN l n)
end Go.Am.Ds
end
section
namespace Go.Am.Ds
open Go Go.Am Go.Proofs
set_option maxHeartbeats 4000000
set_option linter.unusedSimpArgs false
set_option linter.unusedVariables false
attribute [local simp] vrun vwanted vyielded vop veval vevals vparts vO vbuiltin vlen vappend velems vcopy vmakeSlice vbuildSlice valloc vbox vmakeMap vload vpartT vpart vstore vfieldAddr vfield vindexAddr vindex vextract vslice vsliceZ vbounds vbnd zeroO vidx vlookup vmget vmapUpdate vdelete vnilq vnilp vnils vbin vsc vsc1 vscs vscl abinOp aint ashift aunOp aconvert amaxs amax2 pvcV pvc pvcs tput tget vargs VHeap.get VHeap.alloc VHeap.put VHeap.drop VHeap.empty vlook vput vdrop psplice pfill preps chunk List.range List.range.loop vresults vresult vresultV frz frzL PV.isF PV.allF PV.scal PV.allS retP subT allFT PV.one PV.ids PV.idsL dropL beq_eq ble_dec blt_dec
attribute [local simp] zW tup2
theorem getW_idx {s : List Wit} {id : Int} {c : Wit} (h : getW s id = some c) : ∃ i, ∃ h : i < s.length, findI s id = (i : Int) ∧ s[i] = c := by
  rcases Int.lt_or_le (findI s id) 0 with h0 | h0
  · rw [getW_none h0] at h; cases h
  · obtain ⟨i, h1, h2, h3⟩ := getW_some h0
    rw [h3] at h; injection h with h
    exact ⟨i, h1, h2, h⟩
end Go.Am.Ds
end
section
namespace Go.Am.Ds
open Go Go.Am Go.Proofs
set_option maxHeartbeats 4000000
set_option linter.unusedSimpArgs false
set_option linter.unusedVariables false
attribute [local simp] vrun vwanted vyielded vop veval vevals vparts vO vbuiltin vlen vappend velems vcopy vmakeSlice vbuildSlice valloc vbox vmakeMap vload vpartT vpart vstore vfieldAddr vfield vindexAddr vindex vextract vslice vsliceZ vbounds vbnd zeroO vidx vlookup vmget vmapUpdate vdelete vnilq vnilp vnils vbin vsc vsc1 vscs vscl abinOp aint ashift aunOp aconvert amaxs amax2 pvcV pvc pvcs tput tget vargs VHeap.get VHeap.alloc VHeap.put VHeap.drop VHeap.empty vlook vput vdrop psplice pfill preps chunk List.range List.range.loop vresults vresult vresultV frz frzL PV.isF PV.allF PV.scal PV.allS retP subT allFT PV.one PV.ids PV.idsL dropL beq_eq ble_dec blt_dec
attribute [local simp] zW tup2
theorem take_succ_filt (p : Int → Bool) (l : List Int) (i : Nat) (h : i < l.length) : (l.take (i + 1)).filter p = if p l[i] then (l.take i).filter p ++ [l[i]] else (l.take i).filter p := take_succ_filter p l i h
end Go.Am.Ds
end
section
namespace Go.Am.Ds
open Go Go.Am Go.Proofs
set_option maxRecDepth 100000
set_option maxHeartbeats 4000000
set_option linter.unusedSimpArgs false
set_option linter.unusedVariables false
attribute [local simp] vrun vwanted vyielded vop vopA vputAll VHeap.back hidI hidF backL bm Nat.testBit_eq_decide_div_mod_eq veval vevals vparts vO vbuiltin vlen vappend velems vcopy vmakeSlice vbuildSlice valloc vbox vmakeMap vload vpartT vpart vstore vfieldAddr vfield vindexAddr vindex vextract vslice vsliceZ vbounds vbnd zeroO vidx vlookup vmget vmapUpdate vdelete vclear vnilq vnilp vnils vbin vsc vsc1 vscs vscl abinOp aint ashift aunOp aconvert amaxs amax2 pvcV pvc pvcs tput tget vargs VHeap.get VHeap.alloc VHeap.put VHeap.drop VHeap.empty vlook vput vdrop psplice pfill preps chunk List.range List.range.loop vresults vresult vresultV frz frzL PV.isF PV.allF PV.scal PV.allS retP subT allFT PV.one PV.ids PV.idsL dropL beq_eq ble_dec blt_dec
attribute [local simp] zW tup2
theorem p108' (s : List Wit) (hl : s.length < 4294967296) : VPure Tryz.prog 108 [encS s] fun r => r = .tup [.vec ((chL s).map encC), .int .i64 (chE s)] := VPure.soft (p108 s hl) rfl
def madeP (s : List Wit) (a b : Int) : Int × Int := match kinR s a b with
  | .err e => (0, e)
  | .text c => if chE s ≠ 0 then (0, chE s) else if lastS c 0 ≠ 0 then (0,8) else ((c.slips.length : Int) - (choF s c).2,0)
  | .of c p => if chE s ≠ 0 then (0, chE s) else if (whyP c p).1 ≠ 0 then (0,8) else (((ariS c p).length : Int) - (choF s c).2,0)
end Go.Am.Ds
end
section
namespace Go.Am.Ds
open Go Go.Am Go.Proofs

theorem checkL_nodup : ∀ {l : List Wit} {seen : List Int}, checkL l seen = 0 → (l.map Wit.id).Nodup ∧ ∀ w ∈ l, w.id ∉ seen
  | [], _, _ => ⟨.nil, fun w hw => by cases hw⟩
  | a :: r, seen, h => by
    simp only [checkL] at h
    split at h
    · split at h
      · simp at h
      · rename_i hn
        obtain ⟨h1, h2⟩ := checkL_nodup h
        refine ⟨?_, fun w hw => ?_⟩
        · rw [List.map_cons, List.nodup_cons]
          refine ⟨fun hm => ?_, h1⟩
          obtain ⟨w, hw, he⟩ := List.mem_map.1 hm
          exact h2 w hw ((mem_insU _ _ _).2 (.inr he))
        · rcases List.mem_cons.1 hw with rfl | hw
          · exact hn
          · exact fun hs => h2 w hw ((mem_insU _ _ _).2 (.inl hs))
    · rename_i h0; exact absurd h h0
theorem checkS_nodup {s : List Wit} (h : checkS s = 0) : (s.map Wit.id).Nodup := by
  unfold checkS at h
  split at h
  · simp at h
  · exact (checkL_nodup h).1
theorem checkS_pos {s : List Wit} (h : checkS s = 0) : ∀ w ∈ s, 0 < w.id := fun w hw => by
  have := (checkS_ok h).2 w hw
  unfold witE at this
  split at this
  · cases this
  · omega

theorem stepP_some {s : List Wit} {c : Wit} {id : Int} {y : Int × Int} : stepP s c id = some y ↔ ∃ p, getW s id = some p ∧ (whyP c p).1 = 0 ∧ y = (id, ((ariS c p).length : Int)) := by
  unfold stepP
  cases hg : getW s id with
  | none => simp
  | some p =>
    simp only
    by_cases h : (whyP c p).1 = 0
    · rw [if_pos h]
      constructor
      · intro h2; injection h2 with h2; exact ⟨p, rfl, h, h2.symm⟩
      · rintro ⟨q, h2, _, h3⟩; injection h2 with h2; subst h2; rw [h3]
    · rw [if_neg h]
      constructor
      · intro h2; cases h2
      · rintro ⟨q, h2, h3, _⟩; injection h2 with h2; subst h2; exact absurd h3 h
theorem parS_mem {s : List Wit} {c : Wit} {y : Int × Int} : y ∈ parS s c ↔ (y = (0,(c.slips.length : Int)) ∧ lastS c 0 = 0) ∨ ∃ p, y.1 ∈ idsS s ∧ getW s y.1 = some p ∧ (whyP c p).1 = 0 ∧ y.2 = ((ariS c p).length : Int) := by
  unfold parS
  rw [List.mem_append, List.mem_filterMap]
  have h0 : y ∈ headP c ↔ y = (0,(c.slips.length : Int)) ∧ lastS c 0 = 0 := by
    unfold headP
    split
    · rename_i h; simp [h]
    · rename_i h; simp [h]
  rw [h0]
  constructor
  · rintro (h | ⟨id, h1, h2⟩)
    · exact .inl h
    · obtain ⟨p, h3, h4, h5⟩ := stepP_some.1 h2
      subst h5
      exact .inr ⟨p, h1, h3, h4, rfl⟩
  · rintro (h | ⟨p, h1, h2, h3, h4⟩)
    · exact .inl h
    · exact .inr ⟨y.1, h1, stepP_some.2 ⟨p, h2, h3, Prod.ext rfl h4⟩⟩
theorem fold_spec : ∀ (l : List (Int × Int)) (d : List (Int × Int)) (x : List Int × Int),(d = [] ∧ x.1 = [] ∨ x.1 ≠ [] ∧ (∀ y ∈ d, x.2 ≤ y.2) ∧ ∃ y ∈ d, y.2 = x.2) →
    (d ++ l = [] ∧ (l.foldl stepC x).1 = [] ∨ (l.foldl stepC x).1 ≠ [] ∧ (∀ y ∈ d ++ l, (l.foldl stepC x).2 ≤ y.2) ∧ ∃ y ∈ d ++ l, y.2 = (l.foldl stepC x).2)
  | [], d, x, h => by simpa using h
  | y :: r, d, x, h => by
    have ih := fold_spec r (d ++ [y]) (stepC x y) (.inr (by
      unfold stepC
      split
      · rename_i h1
        rcases h with ⟨_, h2⟩ | ⟨h2, h3, z, h4, h5⟩
        · exact absurd h2 h1.1
        · refine ⟨h2, fun w hw => ?_, z, List.mem_append_left _ h4, h5⟩
          rcases List.mem_append.1 hw with hw | hw
          · exact h3 w hw
          · rw [List.mem_singleton] at hw; rw [hw]; omega
      · rename_i h1
        split
        · rename_i h2
          refine ⟨by simp, fun w hw => ?_, y, by simp, rfl⟩
          rcases List.mem_append.1 hw with hw | hw
          · rcases h with ⟨h3, _⟩ | ⟨h3, h4, _⟩
            · rw [h3] at hw; cases hw
            · rcases h2 with h2 | h2
              · exact absurd h2 h3
              · have := h4 w hw; simp only; omega
          · rw [List.mem_singleton] at hw; rw [hw]; exact Int.le_refl _
        · rename_i h2
          have h3 : x.1 ≠ [] := fun h4 => h2 (.inl h4)
          have h4 : ¬ y.2 < x.2 := fun h4 => h2 (.inr h4)
          have h5 : ¬ x.2 < y.2 := fun h5 => h1 ⟨h3, h5⟩
          rcases h with ⟨_, h6⟩ | ⟨_, h7, z, h8, h9⟩
          · exact absurd h6 h3
          · refine ⟨by simp, fun w hw => ?_, z, List.mem_append_left _ h8, h9⟩
            rcases List.mem_append.1 hw with hw | hw
            · exact h7 w hw
            · rw [List.mem_singleton] at hw; rw [hw]; simp only; omega))
    rw [List.append_assoc, List.singleton_append] at ih
    rw [List.foldl_cons]
    exact ih
theorem choF_spec (s : List Wit) (c : Wit) : (parS s c = [] ∧ (choF s c).1 = []) ∨ ((choF s c).1 ≠ [] ∧ (∀ y ∈ parS s c, (choF s c).2 ≤ y.2) ∧ ∃ y ∈ parS s c, y.2 = (choF s c).2) := by
  have := fold_spec (parS s c) [] ([],0) (.inl ⟨rfl, rfl⟩)
  simpa [choF] using this
end Go.Am.Ds
end
section
namespace Go.Am.Ds
open Go Go.Am Go.Proofs
set_option maxRecDepth 100000
set_option maxHeartbeats 4000000
set_option linter.unusedSimpArgs false
set_option linter.unusedVariables false
attribute [local simp] vrun vwanted vyielded vop vopA vputAll VHeap.back hidI hidF backL bm Nat.testBit_eq_decide_div_mod_eq veval vevals vparts vO vbuiltin vlen vappend velems vcopy vmakeSlice vbuildSlice valloc vbox vmakeMap vload vpartT vpart vstore vfieldAddr vfield vindexAddr vindex vextract vslice vsliceZ vbounds vbnd zeroO vidx vlookup vmget vmapUpdate vdelete vclear vnilq vnilp vnils vbin vsc vsc1 vscs vscl abinOp aint ashift aunOp aconvert amaxs amax2 pvcV pvc pvcs tput tget vargs VHeap.get VHeap.alloc VHeap.put VHeap.drop VHeap.empty vlook vput vdrop psplice pfill preps chunk List.range List.range.loop vresults vresult vresultV frz frzL PV.isF PV.allF PV.scal PV.allS retP subT allFT PV.one PV.ids PV.idsL dropL beq_eq ble_dec blt_dec
def longT (w : Wit) : Bool := decide (8 < w.slips.length) || decide (30 < w.mended.length) || decide (24 < w.models.length)
def smallS (s : List Wit) : Bool := !(s.any longT) && decide (s.length ≤ 12)
def parR (s : List Wit) (id : Int) : PV := match getW s id with
  | some p => .vp (encW p).cells
  | none => .ptr0
theorem parR_none {s : List Wit} {id : Int} (h : getW s id = none) : parR s id = .ptr0 := by unfold parR; rw [h]
theorem parR_some {s : List Wit} {id : Int} {p : Wit} (h : getW s id = some p) : parR s id = .vp (encW p).cells := by unfold parR; rw [h]
def stepD (s : List Wit) (c : Wit) (id : Int) : Option Int := match getW s id with
  | none => if id = 0 ∧ lastS c 0 = 0 then some (c.slips.length : Int) else none
  | some p => if (whyP c p).1 = 0 then some ((ariS c p).length : Int) else none
def desL (s : List Wit) (l : List Int) : List (Option Int) := (s.zip l).map fun x => stepD s x.1 x.2
def desP (s : List Wit) (l : List Int) (k : Nat) : Int := (((desL s l).take k).map (·.getD 0)).sum
def desR (s : List Wit) (l : List Int) : Int × Bool := if l.length = s.length ∧ (desL s l).all Option.isSome = true then (desP s l s.length, true) else (0, false)
theorem desL_get (s : List Wit) (l : List Int) (k : Nat) (h : k < s.length) (h2 : k < l.length) : ∃ h3 : k < (desL s l).length, (desL s l)[k] = stepD s s[k] l[k] := by
  refine ⟨by simp [desL]; omega, by simp [desL]⟩
theorem desP_succ (s : List Wit) (l : List Int) (k : Nat) (h : k < s.length) (h2 : k < l.length) : desP s l (k + 1) = desP s l k + (stepD s s[k] l[k]).getD 0 := by
  obtain ⟨h3, h4⟩ := desL_get s l k h h2
  unfold desP
  rw [List.take_succ_eq_append_getElem h3, h4]; simp
theorem desA_succ (s : List Wit) (l : List Int) (k : Nat) (h : k < s.length) (h2 : k < l.length) : ((desL s l).take (k + 1)).all Option.isSome = (((desL s l).take k).all Option.isSome && (stepD s s[k] l[k]).isSome) := by
  obtain ⟨h3, h4⟩ := desL_get s l k h h2
  rw [take_succ_all _ _ _ h3, h4]
theorem ariS_len (c p : Wit) : (ariS c p).length ≤ c.slips.length := by unfold ariS; exact List.length_filter_le _ _
theorem stepD_bd (s : List Wit) (c : Wit) (id : Int) : 0 ≤ (stepD s c id).getD 0 ∧ (stepD s c id).getD 0 ≤ (c.slips.length : Int) := by
  unfold stepD
  cases getW s id with
  | none => simp only; split <;> simp
  | some p =>
    simp only; have := ariS_len c p
    split <;> simp <;> omega
theorem desP_bd (s : List Wit) (l : List Int) (hli : ∀ w ∈ s, w.slips.length < 4294967296 ∧ w.mended.length < 4294967296 ∧ w.models.length < 4294967296) (he : l.length = s.length) : ∀ k, k ≤ s.length → 0 ≤ desP s l k ∧ desP s l k ≤ (k : Int) * 4294967296
  | 0, _ => by simp [desP]
  | k + 1, h => by
    have h1 := desP_bd s l hli he k (by omega)
    rw [desP_succ s l k (by omega) (by omega)]
    have h2 := stepD_bd s s[k] l[k]
    have h3 := (hli s[k] (List.getElem_mem (by omega))).1
    constructor
    · omega
    · push_cast; omega
theorem desR_none {s : List Wit} {l : List Int} {k : Nat} (h : k < s.length) (h2 : k < l.length) (hN : stepD s s[k] l[k] = none) : desR s l = (0, false) := by
  obtain ⟨h3, h4⟩ := desL_get s l k h h2
  unfold desR
  rw [if_neg]
  rintro ⟨_, ha⟩
  have := List.all_eq_true.1 ha _ (List.getElem_mem h3)
  rw [h4, hN] at this; cases this
theorem p21 (s : List Wit) (hl : s.length < 4611686018427387904) : VPure Tryz.prog 21 [encS s] fun r => r = .bool (smallS s) := by
  refine .of_body Tryz.func21 rfl rfl ?_
  refine .seq ?_
  refine .rn ?_
  refine .seq ?_
  refine .seq ?_
  refine .rn ?_
  refine .block ?_
  refine .loopS (fun i : Nat => ([(1, .ptr 0 0),(3, .int .i64 i)], ⟨1,[(0, .box [.vec (s.map encW)])]⟩)) (fun i => i ≤ s.length ∧ (s.take i).any longT = false) (fun i => s.length - i) 0 (by simp) (.mk [] [] zz14 zz15 rfl rfl rfl) ?_
  rintro i ⟨hi, hr⟩
  simp only at hi hr ⊢
  refine .seq ?_
  refine .seq ?_
  refine .rn ?_
  refine .condS rfl (fun c8 => ?_) (fun c8 => ?_)
  · try simp at c8
    have hw2 : IntKind.i64.wrap ((i : Int) + 1) = (i : Int) + 1 := wrap64 (by omega) (by omega)
    have hA := take_succ_any longT s i c8
    rw [hr] at hA
    refine .skip ?_
    refine .seq ?_
    refine .block ?_
    refine .seq ?_
    refine .regionL [0,1,2,3,4,5,6,7,8,9,10,11,12,13,14,15,16,17,18,19,20,21,22,23,24,25,26,27] rfl zz0 ?_
    refine .rn [0,1,2,3,4,5,6,7,8] [9,10,11,12,13,14,15,16,17,18,19,20,21,22,23,24,25,26,27] ?_
    refine .split (t := 19) rfl (fun c19 => ?_) (fun c19 => ?_)
    · try rw [c19]
      try simp at c19
      refine .rn [9,10,11,12,13,14,15,16,17,18,19,20,21,22,23,24,25,26,27] [] ?_
      refine .done ?_
      refine .condT rfl ?_
      refine .seq ?_
      refine .rn ?_
      refine .ret ?_
      refine ⟨_, _, zz4,zz4, ?_⟩
      have h : longT s[i] = true := by unfold longT; simp; omega
      unfold smallS; rw [any_get longT s i c8 h]; rfl
    · try rw [c19]
      try simp at c19
      refine .rn [9,10,11,12,13,14,15,16,17,18] [19,20,21,22,23,24,25,26,27] ?_
      refine .split (t := 29) rfl (fun c29 => ?_) (fun c29 => ?_)
      · try rw [c29]
        try simp at c29
        refine .rn [19,20,21,22,23,24,25,26,27] [] ?_
        refine .done ?_
        refine .condT rfl ?_
        refine .seq ?_
        refine .rn ?_
        refine .ret ?_
        refine ⟨_, _, zz4,zz4, ?_⟩
        have h : longT s[i] = true := by unfold longT; simp; omega
        unfold smallS; rw [any_get longT s i c8 h]; rfl
      · try rw [c29]
        try simp at c29
        refine .rn [19,20,21,22,23,24,25,26,27] [] ?_
        refine .done ?_
        refine .condS rfl (fun c38 => ?_) (fun c38 => ?_)
        · try simp at c38
          refine .seq ?_
          refine .rn ?_
          refine .ret ?_
          refine ⟨_, _, zz4,zz4, ?_⟩
          have h : longT s[i] = true := by unfold longT; simp; omega
          unfold smallS; rw [any_get longT s i c8 h]; rfl
        · try simp at c38
          refine .skip ?_
          refine .rn ?_
          have h : longT s[i] = false := by unfold longT; simp; omega
          rw [h] at hA
          refine ⟨i + 1, ⟨zz5, by simpa using hA⟩, zz5,(.mk [] [] zz14 zz15 rfl rfl rfl)⟩
  · try simp at c8
    have hi2 : i = s.length := by omega
    subst hi2
    rw [List.take_length] at hr
    refine .exit ?_
    refine .seq ?_
    refine .rn ?_
    refine .ret ?_
    refine ⟨_, _, zz4,zz4, ?_⟩
    unfold smallS; rw [hr]; simp; omega
theorem p173 (s : List Wit) (id : Int) (hl : s.length < 4294967296) : VPure Tryz.prog 173 [encS s, .int .i64 id] fun r => r = parR s id := by
  refine .of_body Tryz.func173 rfl rfl ?_
  refine .seq ?_
  refine .rn ?_
  refine .seq ?_
  refine .seq ?_
  refine .regionL [0,1,2,3] rfl zz0 ?_
  refine .rn [0,1] [2,3] ?_
  refine .step rfl rfl (.pure rfl rfl rfl Tryz.call105 (by decide) (p105' s id hl) (by first | rfl | simp [*]) ?_)
  rintro _ rfl
  refine .rn [3] [] ?_
  refine .done ?_
  refine .seq ?_
  refine .rn ?_
  refine .condS rfl (fun c10 => ?_) (fun c10 => ?_)
  · try simp at c10
    obtain ⟨i, hi, hie, hga⟩ := getW_some c10
    refine .seq ?_
    refine .rn ?_
    refine .ret ?_
    refine ⟨_, _, zz4,zz4, ?_⟩
    rw [parR_some hga]; rfl
  · try simp at c10
    have hn := getW_none (show findI s id < 0 by omega)
    refine .skip ?_
    refine .seq ?_
    refine .rn ?_
    refine .ret ?_
    refine ⟨_, _, zz4,zz4, ?_⟩
    rw [parR_none hn]
theorem p132 (s : List Wit) (l : List Int) (hl : s.length < 65536) (hlL : l.length < 4611686018427387904) (hli : ∀ w ∈ s, w.slips.length < 4294967296 ∧ w.mended.length < 4294967296 ∧ w.models.length < 4294967296) : VPure Tryz.prog 132 [encS s, ints l] fun r => r = .tup [.int .i64 (desR s l).1, .bool (desR s l).2] := by
  refine .of_body Tryz.func132 rfl rfl ?_
  refine .seq ?_
  refine .rn ?_
  refine .seq ?_
  refine .seq ?_
  refine .rn ?_
  refine .condS rfl (fun c17 => ?_) (fun c17 => ?_)
  · try simp at c17
    refine .seq ?_
    refine .rn ?_
    refine .ret ?_
    refine ⟨_, _, zz4,zz4, ?_⟩
    rw [desR, if_neg (by rintro ⟨h, _⟩; omega)]
  · try simp at c17
    have he : l.length = s.length := by omega
    refine .skip ?_
    refine .seq ?_
    refine .rn ?_
    refine .seq ?_
    refine .seq ?_
    refine .rn ?_
    refine .block ?_
    refine .loopS (fun k : Nat => ([(1, ints l),(2, .ptr 0 0),(6, .int .i64 (desP s l k)),(19, .vec (s.map encW)),(20, .int .i64 s.length),(21, .int .i64 k)], ⟨1,[(0, .box [.vec (s.map encW)])]⟩)) (fun k => k ≤ s.length ∧ ((desL s l).take k).all Option.isSome = true) (fun k => s.length - k) 0 (by simp) (.mk [] [] zz14 zz15 rfl rfl rfl) ?_
    rintro k ⟨hk, hal⟩
    simp only at hk hal ⊢
    refine .seq ?_
    refine .rn ?_
    refine .seq ?_
    refine .condS rfl (fun c22 => ?_) (fun c22 => ?_)
    · try simp at c22
      have hw2 : IntKind.i64.wrap ((k : Int) + 1) = (k : Int) + 1 := wrap64 (by omega) (by omega)
      have hkl : k < l.length := by omega
      obtain ⟨hw1, hw3, hw4⟩ := hli s[k] (List.getElem_mem c22)
      have hbd := desP_bd s l hli he k hk
      have hbd2 := stepD_bd s s[k] l[k]
      have hS := desP_succ s l k c22 hkl
      have hA := desA_succ s l k c22 hkl
      have hW3 : ∀ x : Int, 0 ≤ x → x ≤ 4294967296 → IntKind.i64.wrap (desP s l k + x) = desP s l k + x := fun x h1 h2 => wrap64 (by omega) (by omega)
      have hE : encW s[k] = .agg [.int .i64 s[k].id, .int .i64 s[k].known, ints s[k].slips, ints s[k].mended, ints s[k].models, .int .i64 s[k].lo, .int .i64 s[k].hi] := rfl
      rcases hg : getW s l[k] with _ | p
      · skip
        refine .skip ?_
        refine .seq ?_
        refine .block ?_
        refine .seq ?_
        refine .rn ?_
        refine .seq ?_
        refine .drawn (ms := [0,0,0,6,14,31,63]) (W := [5]) (items := [.op 0, .op 1, .op 2, .op 3, .op 4, .op 5, .op 6]) rfl zz0 zz0 zz0 ?_
        refine .rd rfl rfl (by decide) rfl (by decide) zz1 ?_   -- 0
        refine .rd rfl rfl (by decide) rfl (by decide) zz1 ?_   -- 1
        refine .rd rfl rfl (by decide) rfl (by decide) zz1 ?_   -- 2
        refine .rd rfl rfl (by decide) rfl (by decide) zz1 ?_   -- 3
        refine .rd rfl rfl (by decide) rfl (by decide) zz1 ?_   -- 4
        refine .wr rfl rfl (by decide) (.pure rfl rfl rfl Tryz.call173 (by decide) ((by have h := p173 s l[k] (by omega); rw [parR_none hg] at h; exact h)) (by first | rfl | simp [*]) ?_)
        rintro _ rfl
        refine .rd rfl rfl (by decide) rfl (by decide) zz1 ?_   -- 6
        refine .done ?_
        refine .seq ?_
        refine .seq ?_
        refine .regionL [0,1,2,3,4,5,6,7,8] rfl zz0 ?_
        refine .rn [0,1,2] [3,4,5,6,7,8] ?_
        refine .split (t := 34) rfl (fun c34 => ?_) (fun c34 => ?_)
        · try rw [c34]
          try simp at c34
          refine .rn [3,4,5,6,7,8] [] ?_
          refine .done ?_
          refine .condS rfl (fun c40 => ?_) (fun c40 => ?_)
          · try simp at c40
            have hN : stepD s s[k] l[k] = none := by simp only [stepD, hg]; rw [if_neg (fun h => c40 h.1)]
            refine .seq ?_
            refine .rn ?_
            refine .ret ?_
            refine ⟨_, _, zz4,zz4, ?_⟩
            rw [desR_none c22 hkl hN]
          · try simp at c40
            refine .skip ?_
            refine .seq ?_
            refine .seq ?_
            refine .regionL [0,1,2,3,4,5,6,7] rfl zz0 ?_
            refine .rn [0,1] [2,3,4,5,6,7] ?_
            refine .step rfl rfl (.pure rfl rfl rfl Tryz.call101 (by decide) (p101a s[k] hw4) (by first | rfl | simp [*]) ?_)
            rintro _ rfl
            refine .rn [3,4,5,6,7] [] ?_
            refine .done ?_
            refine .seq ?_
            refine .rn ?_
            refine .condS rfl (fun c48 => ?_) (fun c48 => ?_)
            · try simp at c48
              have hN : stepD s s[k] l[k] = none := by simp only [stepD, hg]; rw [if_neg (fun h => c48 h.2)]
              refine .seq ?_
              refine .rn ?_
              refine .ret ?_
              refine ⟨_, _, zz4,zz4, ?_⟩
              rw [desR_none c22 hkl hN]
            · try simp at c48
              have hN : stepD s s[k] l[k] = some (s[k].slips.length : Int) := by simp only [stepD, hg]; rw [if_pos ⟨c40, c48⟩]
              rw [hN] at hS hA
              simp only [Option.getD_some] at hS
              have hW4 := hW3 (s[k].slips.length : Int) (by omega) (by omega)
              refine .skip ?_
              refine .regionL [0,1,2,3,4,5,6] rfl zz0 ?_
              refine .rn [0,1,2] [3,4,5,6] ?_
              refine .step rfl rfl (.pure rfl rfl rfl Tryz.call109 (by decide) (p109a s[k]) (by first | rfl | simp [*]) ?_)
              rintro _ rfl
              refine .rn [4,5,6] [] ?_
              refine .done ?_
              refine .rn ?_
              refine ⟨k + 1, ⟨zz5, by rw [hA]; simpa using hal⟩, zz5,(.mk [] [] zz14 zz15 rfl rfl rfl)⟩
        · try rw [c34]
          try simp at c34
      · skip
        refine .skip ?_
        refine .seq ?_
        refine .block ?_
        refine .seq ?_
        refine .rn ?_
        refine .seq ?_
        refine .drawn (ms := [0,0,0,6,14,31,63]) (W := [5]) (items := [.op 0, .op 1, .op 2, .op 3, .op 4, .op 5, .op 6]) rfl zz0 zz0 zz0 ?_
        refine .rd rfl rfl (by decide) rfl (by decide) zz1 ?_   -- 0
        refine .rd rfl rfl (by decide) rfl (by decide) zz1 ?_   -- 1
        refine .rd rfl rfl (by decide) rfl (by decide) zz1 ?_   -- 2
        refine .rd rfl rfl (by decide) rfl (by decide) zz1 ?_   -- 3
        refine .rd rfl rfl (by decide) rfl (by decide) zz1 ?_   -- 4
        refine .wr rfl rfl (by decide) (.pure rfl rfl rfl Tryz.call173 (by decide) ((by have h := p173 s l[k] (by omega); rw [parR_some hg] at h; exact h)) (by first | rfl | simp [*]) ?_)
        rintro _ rfl
        refine .rd rfl rfl (by decide) rfl (by decide) zz1 ?_   -- 6
        refine .done ?_
        refine .seq ?_
        refine .seq ?_
        refine .regionL [0,1,2,3,4,5,6,7,8] rfl zz0 ?_
        refine .rn [0,1,2] [3,4,5,6,7,8] ?_
        refine .split (t := 34) rfl (fun c34 => ?_) (fun c34 => ?_)
        · try rw [c34]
          try simp at c34
        · try rw [c34]
          try simp at c34
          have hp := (getW_mem hg).1
          have hp1 := (hli p hp).1
          refine .rn [3,4,5,6,7,8] [] ?_
          refine .done ?_
          refine .condF rfl ?_
          refine .skip ?_
          refine .seq ?_
          refine .seq ?_
          refine .regionL [0,1,2,3,4,5,6,7] rfl zz0 ?_
          refine .rn [0,1] [2,3,4,5,6,7] ?_
          refine .step rfl rfl (.pure rfl rfl rfl Tryz.call101 (by decide) (p101b s[k] p hw1 hw3 hw4 hp1) (by first | rfl | simp [*]) ?_)
          rintro _ rfl
          refine .rn [3,4,5,6,7] [] ?_
          refine .done ?_
          refine .seq ?_
          refine .rn ?_
          refine .condS rfl (fun c48 => ?_) (fun c48 => ?_)
          · try simp at c48
            have hN : stepD s s[k] l[k] = none := by simp only [stepD, hg]; rw [if_neg c48]
            refine .seq ?_
            refine .rn ?_
            refine .ret ?_
            refine ⟨_, _, zz4,zz4, ?_⟩
            rw [desR_none c22 hkl hN]
          · try simp at c48
            have hN : stepD s s[k] l[k] = some ((ariS s[k] p).length : Int) := by simp only [stepD, hg]; rw [if_pos c48]
            rw [hN] at hS hA
            simp only [Option.getD_some] at hS
            have har := ariS_len s[k] p
            have hW4 := hW3 ((ariS s[k] p).length : Int) (by omega) (by omega)
            refine .skip ?_
            refine .regionL [0,1,2,3,4,5,6] rfl zz0 ?_
            refine .rn [0,1,2] [3,4,5,6] ?_
            refine .step rfl rfl (.pure rfl rfl rfl Tryz.call109 (by decide) (p109 s[k] p hw1 hp1) (by first | rfl | simp [*]) ?_)
            rintro _ rfl
            refine .rn [4,5,6] [] ?_
            refine .done ?_
            refine .rn ?_
            refine ⟨k + 1, ⟨zz5, by rw [hA]; simpa using hal⟩, zz5,(.mk [] [] zz14 zz15 rfl rfl rfl)⟩
    · try simp at c22
      have hk2 : k = s.length := by omega
      subst hk2
      refine .exit ?_
      refine .seq ?_
      refine .rn ?_
      refine .ret ?_
      refine ⟨_, _, zz4,zz4, ?_⟩
      have hall : (desL s l).all Option.isSome = true := by
        rw [List.take_of_length_le (by simp [desL]; omega)] at hal
        simpa using hal
      rw [desR, if_pos ⟨he, hall⟩]
end Go.Am.Ds
end
section
namespace Go.Am.Ds
open Go Go.Am Go.Proofs
set_option maxRecDepth 100000
set_option maxHeartbeats 4000000
set_option linter.unusedSimpArgs false
set_option linter.unusedVariables false
attribute [local simp] vrun vwanted vyielded vop vopA vputAll VHeap.back hidI hidF backL bm Nat.testBit_eq_decide_div_mod_eq veval vevals vparts vO vbuiltin vlen vappend velems vcopy vmakeSlice vbuildSlice valloc vbox vmakeMap vload vpartT vpart vstore vfieldAddr vfield vindexAddr vindex vextract vslice vsliceZ vbounds vbnd zeroO vidx vlookup vmget vmapUpdate vdelete vclear vnilq vnilp vnils vbin vsc vsc1 vscs vscl abinOp aint ashift aunOp aconvert amaxs amax2 pvcV pvc pvcs tput tget vargs VHeap.get VHeap.alloc VHeap.put VHeap.drop VHeap.empty vlook vput vdrop psplice pfill preps chunk List.range List.range.loop vresults vresult vresultV frz frzL PV.isF PV.allF PV.scal PV.allS retP subT allFT PV.one PV.ids PV.idsL dropL beq_eq ble_dec blt_dec
def bestP (s : List Wit) : List Int := (chL s).map fun c => c.1.headD 0
def bestS (s : List Wit) (k : Nat) : Int := (((chL s).take k).map (·.2)).sum
theorem chL_ok {s : List Wit} (h : chE s = 0) : chL s = s.map (choF s) := by unfold chL; rw [if_pos h]
theorem chE_ok {s : List Wit} (h : chE s = 0) : checkS s = 0 ∧ ∀ c ∈ s, (choF s c).1 ≠ [] := by
  unfold chE at h
  split at h
  · split at h
    · cases h
    · rename_i h1 h2; exact ⟨h1, fun c hc h3 => h2 ⟨c, hc, h3⟩⟩
  · contradiction
theorem choF_bd {s : List Wit} {c : Wit} (h : (choF s c).1 ≠ []) : 0 ≤ (choF s c).2 ∧ (choF s c).2 ≤ (c.slips.length : Int) := by
  rcases choF_spec s c with ⟨_, h1⟩ | ⟨_, _, y, hy, h2⟩
  · exact absurd h1 h
  · rcases parS_mem.1 hy with ⟨rfl, _⟩ | ⟨p, _, _, _, h4⟩
    · simp only at h2; omega
    · have := ariS_len c p; omega
theorem chL_get {s : List Wit} (h : chE s = 0) {k : Nat} (hk : k < (chL s).length) : ∃ a r d, (chL s)[k] = (a :: r, d) ∧ 0 ≤ d ∧ d < 4294967296 := by
  obtain ⟨h1, h2⟩ := chE_ok h
  have aux : ∀ x ∈ chL s, ∃ c ∈ s, choF s c = x := fun x hx => by rw [chL_ok h] at hx; exact List.mem_map.1 hx
  obtain ⟨c, hc, he⟩ := aux _ (List.getElem_mem hk)
  have h3 := h2 c hc
  have h4 := choF_bd h3
  have h5 := (checkS_lens h1 c hc).1
  cases h6 : (choF s c).1 with
  | nil => exact absurd h6 h3
  | cons a r => exact ⟨a, r, (choF s c).2, by rw [← he, ← h6], h4.1, by omega⟩
theorem chL_len {s : List Wit} (h : chE s = 0) : (chL s).length = s.length := by rw [chL_ok h]; simp
theorem bestS_succ (s : List Wit) (k : Nat) (hk : k < (chL s).length) : bestS s (k + 1) = bestS s k + (chL s)[k].2 := by
  unfold bestS; rw [List.take_succ_eq_append_getElem hk, List.map_append, List.sum_append]; simp only [List.map_cons, List.map_nil, List.sum_cons, List.sum_nil]; omega
theorem bestS_bd {s : List Wit} (h : chE s = 0) : ∀ k, k ≤ (chL s).length → 0 ≤ bestS s k ∧ bestS s k ≤ (k : Int) * 4294967296
  | 0, _ => by simp [bestS]
  | k + 1, hk => by
    have h1 := bestS_bd h k (by omega)
    obtain ⟨a, r, d, he, h2, h3⟩ := chL_get h (show k < (chL s).length by omega)
    rw [bestS_succ s k (by omega), he]
    constructor
    · omega
    · push_cast; omega
theorem p63 (s : List Wit) (hl : s.length < 65536) : VPure Tryz.prog 63 [encS s] fun r => Soft r (.tup [.agg [ints (bestP s), .int .i64 (bestS s (chL s).length)], .int .i64 (chE s)]) := by
  refine .of_body Tryz.func63 rfl rfl ?_
  refine .seq ?_
  refine .rn ?_
  refine .seq ?_
  refine .regionL [0,1,2,3,4,5,6] rfl zz0 ?_
  refine .rn [0] [1,2,3,4,5,6] ?_
  refine .step rfl rfl (.pure rfl rfl rfl Tryz.call108 (by decide) (p108' s (by omega)) (by first | rfl | simp [*]) ?_)
  rintro _ rfl
  refine .rn [2,3,4,5,6] [] ?_
  refine .done ?_
  refine .seq ?_
  refine .seq ?_
  refine .rn ?_
  refine .condS rfl (fun c15 => ?_) (fun c15 => ?_)
  · try simp at c15
    refine .seq ?_
    refine .rn ?_
    refine .ret ?_
    refine ⟨_, _, zz4,zz4, ?_⟩
    have e2 : chL s = [] := by unfold chL; rw [if_neg c15]
    have e3 : bestP s = [] := by unfold bestP; rw [e2]; rfl
    have e4 : bestS s (chL s).length = 0 := by unfold bestS; rw [e2]; rfl
    rw [e3, e4]
    exact soft_tup (AltL.cons (.agg' (.cons .sl0v (.cons (.same _ rfl) .nil))) (AltL.cons (.same _ rfl) AltL.nil))
  · try simp at c15
    refine .skip ?_
    refine .seq ?_
    refine .rn ?_
    refine .seq ?_
    refine .seq ?_
    refine .rn ?_
    refine .block ?_
    refine .loopS (fun k : Nat => ([(2, .ptr 1 0),(6, .ptr 2 0),(18, .vec ((chL s).map encC)),(19, .int .i64 (chL s).length),(20, .int .i64 k)], ⟨4,[(3, .grow 1 (((bestP s).take k).map (.int .i64))),(2, .box [.grow 3 k true, .int .i64 (bestS s k)]),(1, .box [.sl0, .int .i64 0]),(0, .box [.vec (s.map encW)])]⟩)) (fun k => k ≤ (chL s).length) (fun k => (chL s).length - k) 0 (by simp) (.mk [] [] zz14 zz15 rfl rfl rfl) ?_
    rintro k hk
    simp only at hk ⊢
    refine .seq ?_
    refine .rn ?_
    refine .seq ?_
    refine .condS rfl (fun c21 => ?_) (fun c21 => ?_)
    · try simp at c21
      have hcl : (chL s).length < 65536 := by have := chL_len c15; omega
      have hw2 : IntKind.i64.wrap ((k : Int) + 1) = (k : Int) + 1 := wrap64 (by omega) (by omega)
      obtain ⟨a, r, d, hc, hd1, hd2⟩ := chL_get c15 c21
      have hE : encC (a :: r, d) = .agg [ints (a :: r), .int .i64 d] := rfl
      have hS := bestS_succ s k c21
      rw [hc] at hS
      simp only at hS
      have hbd := bestS_bd c15 k hk
      have hW4 : IntKind.i64.wrap (bestS s k + d) = bestS s k + d := wrap64 (by omega) (by omega)
      have hT : (bestP s).take (k + 1) = (bestP s).take k ++ [a] := by
        have h1 : k < (bestP s).length := by simpa [bestP] using c21
        rw [List.take_succ_eq_append_getElem h1]; simp [bestP, hc]
      have hln : min k (bestP s).length = k := by simp [bestP]; omega
      have hT2 : List.take (k + 1) (List.map (PV.int .i64) (bestP s)) = List.take k (List.map (PV.int .i64) (bestP s)) ++ [.int .i64 a] := by rw [← List.map_take, hT]; simp
      have hb : k + 1 ≤ 4294967296 := by omega
      refine .skip ?_
      refine .seq ?_
      refine .block ?_
      refine .seq ?_
      refine .rn ?_
      refine .seq ?_
      refine .drawn (ms := [0,1,0,4,12,28,60,127,255,511]) (W := [6,7,9]) (items := [.op 0, .op 1, .op 2, .op 3, .op 4, .op 5, .op 6, .ck 1, .op 7, .op 8, .op 9]) rfl zz0 zz0 zz0 ?_
      refine .rd rfl rfl (by decide) rfl (by decide) zz1 ?_   -- 0
      refine .rd rfl rfl (by decide) rfl (by decide) zz1 ?_   -- 1
      refine .rd rfl rfl (by decide) rfl (by decide) zz1 ?_   -- 2
      refine .rd rfl rfl (by decide) rfl (by decide) zz1 ?_   -- 3
      refine .rd rfl rfl (by decide) rfl (by decide) zz1 ?_   -- 4
      refine .rd rfl rfl (by decide) rfl (by decide) zz1 ?_   -- 5
      refine .wr rfl rfl (by decide) (.vop zz1 (by decide) ?_)   -- 6
      refine .ck rfl zz0 ?_   -- 1
      refine .wr rfl rfl (by decide) (.vop zz1 (by decide) ?_)   -- 7
      refine .rd rfl rfl (by decide) rfl (by decide) zz1 ?_   -- 8
      refine .wr rfl rfl (by decide) (.vop zz1 (by decide) ?_)   -- 9
      refine .done ?_
      refine .rn ?_
      refine .rn ?_
      refine ⟨k + 1, c21,zz5,(.mk [] [(3,6)] zz14 zz15 rfl rfl rfl)⟩
    · try simp at c21
      have : k = (chL s).length := by omega
      subst this
      have hbl : (bestP s).length = (chL s).length := by simp [bestP]
      refine .exit ?_
      refine .seq ?_
      refine .rn ?_
      refine .ret ?_
      refine ⟨_, _, zz4,(by simp [hbl] <;> rfl), ?_⟩
      have e3 : List.take (chL s).length (List.map (PV.int .i64) (bestP s)) = List.map (PV.int .i64) (bestP s) := List.take_of_length_le (by simp [hbl])
      rw [c15]
      show Soft _ _
      rw [e3]
      exact soft_rfl rfl
end Go.Am.Ds
end
section
namespace Go.Am.Ds
open Go Go.Am Go.Proofs
set_option maxRecDepth 100000
set_option maxHeartbeats 4000000
set_option linter.unusedSimpArgs false
set_option linter.unusedVariables false
attribute [local simp] vrun vwanted vyielded vop vopA vputAll VHeap.back hidI hidF backL bm Nat.testBit_eq_decide_div_mod_eq veval vevals vparts vO vbuiltin vlen vappend velems vcopy vmakeSlice vbuildSlice valloc vbox vmakeMap vload vpartT vpart vstore vfieldAddr vfield vindexAddr vindex vextract vslice vsliceZ vbounds vbnd zeroO vidx vlookup vmget vmapUpdate vdelete vclear vnilq vnilp vnils vbin vsc vsc1 vscs vscl abinOp aint ashift aunOp aconvert amaxs amax2 pvcV pvc pvcs tput tget vargs VHeap.get VHeap.alloc VHeap.put VHeap.drop VHeap.empty vlook vput vdrop psplice pfill preps chunk List.range List.range.loop vresults vresult vresultV frz frzL PV.isF PV.allF PV.scal PV.allS retP subT allFT PV.one PV.ids PV.idsL dropL beq_eq ble_dec blt_dec
theorem p63' (s : List Wit) (hl : s.length < 65536) : VPure Tryz.prog 63 [encS s] fun r => r = .tup [.agg [ints (bestP s), .int .i64 (bestS s (chL s).length)], .int .i64 (chE s)] := VPure.soft (p63 s hl) rfl
def cbR (s : List Wit) (l : List Int) (m : Int) : Int := if checkS s = 0 then (if (desR s l).2 = true ∧ chE s = 0 ∧ (desR s l).1 = m ∧ (desR s l).1 = bestS s (chL s).length then 0 else 8) else checkS s
end Go.Am.Ds
end
section
namespace Go.Am.Ds
open Go Go.Am Go.Proofs
set_option maxRecDepth 100000
set_option maxHeartbeats 4000000
set_option linter.unusedSimpArgs false
set_option linter.unusedVariables false
attribute [local simp] vrun vwanted vyielded vop vopA vputAll VHeap.back hidI hidF backL bm Nat.testBit_eq_decide_div_mod_eq veval vevals vparts vO vbuiltin vlen vappend velems vcopy vmakeSlice vbuildSlice valloc vbox vmakeMap vload vpartT vpart vstore vfieldAddr vfield vindexAddr vindex vextract vslice vsliceZ vbounds vbnd zeroO vidx vlookup vmget vmapUpdate vdelete vclear vnilq vnilp vnils vbin vsc vsc1 vscs vscl abinOp aint ashift aunOp aconvert amaxs amax2 pvcV pvc pvcs tput tget vargs VHeap.get VHeap.alloc VHeap.put VHeap.drop VHeap.empty vlook vput vdrop psplice pfill preps chunk List.range List.range.loop vresults vresult vresultV frz frzL PV.isF PV.allF PV.scal PV.allS retP subT allFT PV.one PV.ids PV.idsL dropL beq_eq ble_dec blt_dec
def orpW (s : List Wit) (c : Wit) : Bool := (parS s c).isEmpty
def orpI (s : List Wit) (id : Int) : Bool := match getW s id with
  | some c => orpW s c
  | none => false
def orpL (s : List Wit) : List Int := if checkS s = 0 then (idsS s).filter (orpI s) else []
end Go.Am.Ds
end
section
namespace Go.Am.Ds
open Go Go.Am Go.Proofs
theorem fold_mem : ∀ (l d : List (Int × Int)) (x : List Int × Int),(∀ b ∈ x.1,(b, x.2) ∈ d) → ∀ b ∈ (l.foldl stepC x).1,(b, (l.foldl stepC x).2) ∈ d ++ l
  | [], d, x, h => by simpa using h
  | y :: r, d, x, h => by
    have ih := fold_mem r (d ++ [y]) (stepC x y) (by
      unfold stepC
      split
      · intro b hb; exact List.mem_append_left _ (h b hb)
      · rename_i h1
        split
        · intro b hb
          rw [List.mem_singleton] at hb
          subst hb; simp
        · rename_i h2
          intro b hb
          have h3 : x.1 ≠ [] := fun h4 => h2 (.inl h4)
          have h4 : ¬ y.2 < x.2 := fun h4 => h2 (.inr h4)
          have h5 : ¬ x.2 < y.2 := fun h5 => h1 ⟨h3, h5⟩
          rcases List.mem_append.1 hb with hb | hb
          · exact List.mem_append_left _ (h b hb)
          · rw [List.mem_singleton] at hb
            subst hb
            have h6 : x.2 = y.2 := by omega
            simp [h6])
    rw [List.append_assoc, List.singleton_append] at ih
    rw [List.foldl_cons]
    exact ih
theorem choF_mem {s : List Wit} {c : Wit} {b : Int} (h : b ∈ (choF s c).1) : (b, (choF s c).2) ∈ parS s c := by
  have := fold_mem (parS s c) [] ([],0) (by simp) b h
  rw [List.nil_append] at this
  exact this
theorem stepD_par {s : List Wit} (h : checkS s = 0) {c : Wit} {b d : Int} (hb : (b, d) ∈ parS s c) : stepD s c b = some d := by
  rcases parS_mem.1 hb with ⟨he, h1⟩ | ⟨p, _, h2, h3, h4⟩
  · injection he with e1 e2
    subst e1; subst e2
    have hg : getW s 0 = none := by
      cases hg : getW s 0 with
      | none => rfl
      | some p =>
        obtain ⟨hp, h0⟩ := getW_mem hg
        have := checkS_pos h p hp
        omega
    simp only [stepD, hg]
    rw [if_pos ⟨trivial, h1⟩]
  · simp only at h2 h4
    simp only [stepD, h2]
    rw [if_pos h3, h4]
theorem head_mem {l : List Int} (h : l ≠ []) : l.headD 0 ∈ l := by
  cases l with
  | nil => exact absurd rfl h
  | cons a r => simp
theorem desL_best {s : List Wit} (h : chE s = 0) : desL s (bestP s) = (chL s).map fun c => some c.2 := by
  obtain ⟨h0, h1⟩ := chE_ok h
  have hb : bestP s = s.map fun c => (choF s c).1.headD 0 := by unfold bestP; rw [chL_ok h, List.map_map]; rfl
  rw [chL_ok h, hb]
  unfold desL
  rw [List.zip_map_right, List.map_map, List.map_map]
  apply List.ext_getElem
  · simp
  · intro i h2 h3
    simp only [List.getElem_map, List.getElem_zip, Function.comp, Prod.map, id]
    exact stepD_par h0 (choF_mem (head_mem (h1 _ (List.getElem_mem _))))
theorem getW_own : ∀ {s : List Wit},(s.map Wit.id).Nodup → ∀ {w : Wit}, w ∈ s → getW s w.id = some w
  | a :: r, hn, w, hw => by
    rw [List.map_cons, List.nodup_cons] at hn
    unfold getW
    rw [List.find?_cons]
    rcases List.mem_cons.1 hw with rfl | hw
    · simp
    · have : a.id ≠ w.id := fun h => hn.1 (h ▸ List.mem_map_of_mem hw)
      rw [show decide (a.id = w.id) = false from decide_eq_false this]
      exact getW_own hn.2 hw
end Go.Am.Ds
end
section
namespace Go.Am.Ds
open Go Go.Am Go.Proofs
set_option maxHeartbeats 4000000
set_option linter.unusedSimpArgs false
set_option linter.unusedVariables false
attribute [local simp] vrun vwanted vyielded vop veval vevals vparts vO vbuiltin vlen vappend velems vcopy vmakeSlice vbuildSlice valloc vbox vmakeMap vload vpartT vpart vstore vfieldAddr vfield vindexAddr vindex vextract vslice vsliceZ vbounds vbnd zeroO vidx vlookup vmget vmapUpdate vdelete vnilq vnilp vnils vbin vsc vsc1 vscs vscl abinOp aint ashift aunOp aconvert amaxs amax2 pvcV pvc pvcs tput tget vargs VHeap.get VHeap.alloc VHeap.put VHeap.drop VHeap.empty vlook vput vdrop psplice pfill preps chunk List.range List.range.loop vresults vresult vresultV frz frzL PV.isF PV.allF PV.scal PV.allS retP subT allFT PV.one PV.ids PV.idsL dropL beq_eq ble_dec blt_dec
theorem smallS_len {s : List Wit} (h : smallS s = true) : s.length ≤ 12 := by
  unfold smallS at h
  simp only [Bool.and_eq_true, decide_eq_true_eq] at h
  exact h.2
end Go.Am.Ds
end
section
namespace Go.Am.Ds
open Go Go.Am Go.Proofs
set_option maxHeartbeats 4000000
set_option linter.unusedSimpArgs false
set_option linter.unusedVariables false
attribute [local simp] vrun vwanted vyielded vop veval vevals vparts vO vbuiltin vlen vappend velems vcopy vmakeSlice vbuildSlice valloc vbox vmakeMap vload vpartT vpart vstore vfieldAddr vfield vindexAddr vindex vextract vslice vsliceZ vbounds vbnd zeroO vidx vlookup vmget vmapUpdate vdelete vnilq vnilp vnils vbin vsc vsc1 vscs vscl abinOp aint ashift aunOp aconvert amaxs amax2 pvcV pvc pvcs tput tget vargs VHeap.get VHeap.alloc VHeap.put VHeap.drop VHeap.empty vlook vput vdrop psplice pfill preps chunk List.range List.range.loop vresults vresult vresultV frz frzL PV.isF PV.allF PV.scal PV.allS retP subT allFT PV.one PV.ids PV.idsL dropL beq_eq ble_dec blt_dec
theorem take_succ_mem {l : List Int} {n : Int} {i : Nat} (h : i < l.length) (h1 : n ∉ l.take i) (h2 : l[i] ≠ n) : n ∉ l.take (i + 1) := by
  rw [List.take_succ_eq_append_getElem h]
  intro h3
  rcases List.mem_append.1 h3 with h3 | h3
  · exact h1 h3
  · rw [List.mem_singleton] at h3; exact h2 h3.symm
theorem p46 (l : List Int) (n : Int) (hl : l.length < 4611686018427387904) : VPure Tryz.prog 46 [ints l, .int .i64 n] fun r => r = .bool (decide (n ∈ l)) := by
  refine .of_body Tryz.func46 rfl rfl ?_
  refine .seq ?_
  refine .rn ?_
  refine .seq ?_
  refine .seq ?_
  refine .rn ?_
  refine .block ?_
  refine .loopS (fun i : Nat => ([(0, ints l),(1, .int .i64 n),(5, .int .i64 i)], ⟨0,[]⟩)) (fun i => i ≤ l.length ∧ n ∉ l.take i) (fun i => l.length - i) 0 (by simp) (.mk [] [] zz14 zz15 rfl rfl rfl) ?_
  rintro i ⟨hi, hn⟩
  simp only at hi hn ⊢
  refine .seq ?_
  refine .seq ?_
  refine .rn ?_
  refine .condS rfl (fun c9 => ?_) (fun c9 => ?_)
  · try simp at c9
    have hw2 : IntKind.i64.wrap ((i : Int) + 1) = (i : Int) + 1 := wrap64 (by omega) (by omega)
    refine .skip ?_
    refine .seq ?_
    refine .block ?_
    refine .seq ?_
    refine .rn ?_
    refine .condS rfl (fun c17 => ?_) (fun c17 => ?_)
    · try simp at c17
      refine .seq ?_
      refine .rn ?_
      refine .ret ?_
      refine ⟨_, _, zz4,zz4, ?_⟩
      have : n ∈ l := c17 ▸ List.getElem_mem c9
      simp [this]
    · try simp at c17
      refine .skip ?_
      refine .rn ?_
      refine ⟨i + 1, ⟨c9, take_succ_mem c9 hn c17⟩, zz5,(.mk [] [] zz14 zz15 rfl rfl rfl)⟩
  · try simp at c9
    have : i = l.length := by omega
    subst this
    rw [List.take_length] at hn
    refine .exit ?_
    refine .seq ?_
    refine .rn ?_
    refine .ret ?_
    refine ⟨_, _, zz4,zz4, ?_⟩
    simp [hn]
end Go.Am.Ds
end
section
namespace Go.Am.Ds
open Go Go.Am Go.Proofs
set_option maxRecDepth 100000
set_option maxHeartbeats 4000000
set_option linter.unusedSimpArgs false
set_option linter.unusedVariables false
attribute [local simp] vrun vwanted vyielded vop vopA vputAll VHeap.back hidI hidF backL bm Nat.testBit_eq_decide_div_mod_eq veval vevals vparts vO vbuiltin vlen vappend velems vcopy vmakeSlice vbuildSlice valloc vbox vmakeMap vload vpartT vpart vstore vfieldAddr vfield vindexAddr vindex vextract vslice vsliceZ vbounds vbnd zeroO vidx vlookup vmget vmapUpdate vdelete vclear vnilq vnilp vnils vbin vsc vsc1 vscs vscl abinOp aint ashift aunOp aconvert amaxs amax2 pvcV pvc pvcs tput tget vargs VHeap.get VHeap.alloc VHeap.put VHeap.drop VHeap.empty vlook vput vdrop psplice pfill preps chunk List.range List.range.loop vresults vresult vresultV frz frzL PV.isF PV.allF PV.scal PV.allS retP subT allFT PV.one PV.ids PV.idsL dropL beq_eq ble_dec blt_dec
end Go.Am.Ds
end
section
namespace Go.Am.Ds
open Go Go.Am Go.Proofs
end Go.Am.Ds
end
section
namespace Go.Am.Ds
open Go Go.Am Go.Proofs
def idF (s : List Wit) (k : Nat) : List Int := (s.take k).foldl (fun a w => putS a w.id) []
end Go.Am.Ds
end
section
namespace Go.Am.Ds
open Go Go.Am Go.Proofs
def upI (s : List Wit) (l : List Int) (id : Int) : Int := (l[(findI s id).toNat]?).getD 0
def rkI (s : List Wit) (id : Int) : Nat := match getW s id with
  | none => 0
  | some c => (s.filter fun w => decide (w.hi ≤ c.hi)).length
def chN (s : List Wit) (l : List Int) : Nat → Int → List Int
  | 0, _ => []
  | n + 1, id => if id = 0 then [] else id :: chN s l n (upI s l id)
def chI (s : List Wit) (l : List Int) (id : Int) : List Int := chN s l (rkI s id) id
def froI (s : List Wit) (l : List Int) (id : Int) : List Int := chI s l (upI s l id)
theorem filt_lt {p q : Wit → Bool} (h : ∀ w, p w = true → q w = true) : ∀ {s : List Wit} {c : Wit}, c ∈ s → q c = true → p c = false → (s.filter p).length < (s.filter q).length
  | a :: r, c, hc, h1, h2 => by
    have hle : (r.filter p).length ≤ (r.filter q).length := by
      rw [← List.countP_eq_length_filter, ← List.countP_eq_length_filter]
      exact List.countP_mono_left fun x _ hx => h x hx
    rcases List.mem_cons.1 hc with rfl | hc
    · rw [List.filter_cons_of_pos h1, List.filter_cons_of_neg (by simp [h2]), List.length_cons]; omega
    · have ih := filt_lt h hc h1 h2
      by_cases hp : p a = true
      · rw [List.filter_cons_of_pos hp, List.filter_cons_of_pos (h a hp), List.length_cons, List.length_cons]; omega
      · rw [List.filter_cons_of_neg hp]
        by_cases hq : q a = true
        · rw [List.filter_cons_of_pos hq, List.length_cons]; omega
        · rw [List.filter_cons_of_neg hq]; exact ih
theorem wit_lohi {s : List Wit} (h : checkS s = 0) {w : Wit} (hw : w ∈ s) : w.lo ≤ w.hi := by
  have := (checkS_ok h).2 w hw
  unfold witE at this
  repeat' split at this
  all_goals first | omega | cases this
theorem why_hi {c p : Wit} (h : (whyP c p).1 = 0) : p.hi < c.lo := by
  unfold whyP at h
  split at h
  · cases h
  · split at h
    · cases h
    · omega
theorem getW_zero {s : List Wit} (h : checkS s = 0) : getW s 0 = none := by
  cases hg : getW s 0 with
  | none => rfl
  | some p =>
    obtain ⟨hp, h0⟩ := getW_mem hg
    have := checkS_pos h p hp
    omega
theorem des_len {s : List Wit} {l : List Int} (hd : (desR s l).2 = true) : l.length = s.length ∧ (desL s l).all Option.isSome = true := by
  unfold desR at hd; split at hd
  · assumption
  · cases hd
theorem up_at {s : List Wit} {l : List Int} (hd : (desR s l).2 = true) {id : Int} {c : Wit} (hg : getW s id = some c) : ∃ i, ∃ hi : i < s.length, ∃ h2 : i < l.length, findI s id = (i : Int) ∧ s[i] = c ∧ l[i] = upI s l id := by
  obtain ⟨he, _⟩ := des_len hd
  obtain ⟨i, hi, hie, hc⟩ := getW_idx hg
  refine ⟨i, hi, by omega, hie, hc, ?_⟩
  unfold upI
  rw [hie, Int.toNat_natCast, List.getElem?_eq_getElem (by omega), Option.getD_some]
theorem up_some {s : List Wit} {l : List Int} (hd : (desR s l).2 = true) {id : Int} {c : Wit} (hg : getW s id = some c) : upI s l id = 0 ∨ ∃ p, getW s (upI s l id) = some p ∧ (whyP c p).1 = 0 := by
  obtain ⟨i, hi, h2, _, hc, hl⟩ := up_at hd hg
  obtain ⟨_, ha⟩ := des_len hd
  obtain ⟨h3, h4⟩ := desL_get s l i hi h2
  have h5 := List.all_eq_true.1 ha _ (List.getElem_mem h3)
  rw [h4, hc, hl] at h5
  unfold stepD at h5
  cases hp : getW s (upI s l id) with
  | none =>
    rw [hp] at h5
    simp only at h5
    split at h5
    · rename_i h6; exact .inl h6.1
    · cases h5
  | some p =>
    rw [hp] at h5
    simp only at h5
    split at h5
    · rename_i h6; exact .inr ⟨p, rfl, h6⟩
    · cases h5
theorem rk_pos {s : List Wit} {id : Int} {c : Wit} (hg : getW s id = some c) : 0 < rkI s id := by
  unfold rkI; rw [hg]
  exact List.length_pos_iff.2 (List.ne_nil_of_mem (List.mem_filter.2 ⟨(getW_mem hg).1, by simp⟩))
theorem rk_le (s : List Wit) (id : Int) : rkI s id ≤ s.length := by
  unfold rkI; split
  · omega
  · exact List.length_filter_le _ _
theorem rk_zero {s : List Wit} (h : checkS s = 0) : rkI s 0 = 0 := by unfold rkI; rw [getW_zero h]
theorem rk_up {s : List Wit} {l : List Int} (h : checkS s = 0) (hd : (desR s l).2 = true) {id : Int} {c : Wit} (hg : getW s id = some c) : rkI s (upI s l id) < rkI s id := by
  rcases up_some hd hg with h1 | ⟨p, h1, h2⟩
  · rw [h1, rk_zero h]; exact rk_pos hg
  · have h3 := why_hi h2
    have h4 := wit_lohi h (getW_mem hg).1
    unfold rkI; rw [h1, hg]
    exact filt_lt (fun w hw => by simp only [decide_eq_true_eq] at hw ⊢; omega) (getW_mem hg).1 (by simp) (by simp; omega)
def okI (s : List Wit) (id : Int) : Prop := id = 0 ∨ ∃ c, getW s id = some c
theorem up_ok {s : List Wit} {l : List Int} (hd : (desR s l).2 = true) {id : Int} {c : Wit} (hg : getW s id = some c) : okI s (upI s l id) := (up_some hd hg).imp (fun h => h) fun ⟨p, h, _⟩ => ⟨p, h⟩
theorem chN_zero (s : List Wit) (l : List Int) (n : Nat) : chN s l n 0 = [] := by cases n <;> simp [chN]
theorem chN_st {s : List Wit} {l : List Int} (h : checkS s = 0) (hd : (desR s l).2 = true) : ∀ n m id, okI s id → rkI s id ≤ n → rkI s id ≤ m → chN s l n id = chN s l m id := by
  intro n
  induction n with
  | zero =>
    intro m id ho h1 h2
    rcases ho with rfl | ⟨c, hg⟩
    · rw [chN_zero, chN_zero]
    · have := rk_pos hg; omega
  | succ n ih =>
    intro m id ho h1 h2
    rcases ho with rfl | ⟨c, hg⟩
    · rw [chN_zero, chN_zero]
    · have h3 := rk_pos hg
      obtain ⟨k, rfl⟩ : ∃ k, m = k + 1 := ⟨m - 1, by omega⟩
      have h4 := rk_up h hd hg
      unfold chN
      rw [ih k (upI s l id) (up_ok hd hg) (by omega) (by omega)]
theorem chI_zero (s : List Wit) (l : List Int) : chI s l 0 = [] := chN_zero s l _
theorem chI_step {s : List Wit} {l : List Int} (h : checkS s = 0) (hd : (desR s l).2 = true) {id : Int} {c : Wit} (hg : getW s id = some c) : chI s l id = id :: froI s l id := by
  have h0 : id ≠ 0 := fun h0 => by rw [h0, getW_zero h] at hg; cases hg
  have h3 := rk_pos hg
  have h4 := rk_up h hd hg
  unfold froI chI
  obtain ⟨k, hk⟩ : ∃ k, rkI s id = k + 1 := ⟨rkI s id - 1, by omega⟩
  rw [hk]
  show (if id = 0 then [] else id :: chN s l k (upI s l id)) = _
  rw [if_neg h0, chN_st h hd k (rkI s (upI s l id)) (upI s l id) (up_ok hd hg) (by omega) (Nat.le_refl _)]
theorem chI_mem {s : List Wit} {l : List Int} (h : checkS s = 0) (hd : (desR s l).2 = true) : ∀ n id c, rkI s id ≤ n → getW s id = some c → ∀ b ∈ chI s l id, ∃ q, getW s b = some q ∧ (b = id ∨ q.hi < c.lo) := by
  intro n
  induction n with
  | zero => intro id c h1 hg; have := rk_pos hg; omega
  | succ n ih =>
    intro id c h1 hg b hb
    rw [chI_step h hd hg] at hb
    rcases List.mem_cons.1 hb with rfl | hb
    · exact ⟨c, hg, .inl rfl⟩
    · have h4 := rk_up h hd hg
      rcases up_some hd hg with h5 | ⟨p, h5, h6⟩
      · unfold froI at hb; rw [h5, chI_zero] at hb; cases hb
      · obtain ⟨q, h7, h8⟩ := ih _ p (by omega) h5 b hb
        have h9 := why_hi h6
        have h10 := wit_lohi h (getW_mem h5).1
        refine ⟨q, h7, .inr ?_⟩
        rcases h8 with rfl | h8
        · rw [h5] at h7; injection h7 with h7; subst h7; exact h9
        · omega
theorem chI_len {s : List Wit} {l : List Int} (h : checkS s = 0) (hd : (desR s l).2 = true) (id : Int) : (chI s l id).length ≤ s.length := by
  have : ∀ n id, (chN s l n id).length ≤ n := by
    intro n
    induction n with
    | zero => intro id; simp [chN]
    | succ n ih =>
      intro id
      unfold chN
      split
      · simp
      · rw [List.length_cons]; have := ih (upI s l id); omega
  have h1 := this (rkI s id) id
  have h2 := rk_le s id
  unfold chI; omega
theorem froI_mem {s : List Wit} {l : List Int} (h : checkS s = 0) (hd : (desR s l).2 = true) {id : Int} {c : Wit} (hg : getW s id = some c) {b : Int} (hb : b ∈ froI s l id) : ∃ q, getW s b = some q ∧ q.hi < c.lo := by
  rcases up_some hd hg with h5 | ⟨p, h5, h6⟩
  · unfold froI at hb; rw [h5, chI_zero] at hb; cases hb
  · obtain ⟨q, h7, h8⟩ := chI_mem h hd _ _ p (Nat.le_refl _) h5 b hb
    have h9 := why_hi h6
    have h10 := wit_lohi h (getW_mem h5).1
    refine ⟨q, h7, ?_⟩
    rcases h8 with rfl | h8
    · rw [h5] at h7; injection h7 with h7; subst h7; exact h9
    · omega
theorem froI_self {s : List Wit} {l : List Int} (h : checkS s = 0) (hd : (desR s l).2 = true) {id : Int} {c : Wit} (hg : getW s id = some c) : id ∉ froI s l id := by
  intro hb
  obtain ⟨q, h1, h2⟩ := froI_mem h hd hg hb
  rw [hg] at h1; injection h1 with h1; subst h1
  have := wit_lohi h (getW_mem hg).1
  omega
def askE (s : List Wit) (l : List Int) (id : Int) (text : Bool) : Int := if checkS s = 0 then (if getW s id = none ∧ (id ≠ 0 ∨ text = false) then 5 else if (desR s l).2 = true then 0 else 1) else checkS s
theorem askE_ok {s : List Wit} {l : List Int} {id : Int} {text : Bool} (h : askE s l id text = 0) : checkS s = 0 ∧ (desR s l).2 = true ∧ ((∃ c, getW s id = some c) ∨ id = 0 ∧ text = true) := by
  unfold askE at h
  split at h
  · rename_i h0
    split at h
    · cases h
    · rename_i h1
      split at h
      · rename_i h2
        refine ⟨h0, h2, ?_⟩
        cases hg : getW s id with
        | some c => exact .inl ⟨c, rfl⟩
        | none =>
          rw [hg] at h1
          refine .inr ⟨Decidable.by_contra fun h3 => h1 ⟨rfl, .inl h3⟩, ?_⟩
          cases text with
          | true => rfl
          | false => exact absurd ⟨rfl, .inr rfl⟩ h1
      · cases h
  · rename_i h0; exact absurd h h0
def froL (s : List Wit) (l : List Int) (id : Int) : List Int := if askE s l id false = 0 then froI s l id else []
def belB (s : List Wit) (l : List Int) (id : Int) (k : Int) : Bool := decide (id = 0) || decide (id ∈ froI s l k)
def belL (s : List Wit) (l : List Int) (id : Int) : List Int := if askE s l id true = 0 then (idsS s).filter (belB s l id) else []
theorem des_best {s : List Wit} (h : chE s = 0) : (desR s (bestP s)).2 = true := by
  have hlen := chL_len h
  unfold desR
  rw [if_pos ⟨by simp [bestP, hlen], by rw [desL_best h]; simp⟩]
theorem askE_of {s : List Wit} {l : List Int} {id : Int} {text : Bool} (h : checkS s = 0) (hd : (desR s l).2 = true) (ho : (∃ c, getW s id = some c) ∨ id = 0 ∧ text = true) : askE s l id text = 0 := by
  unfold askE
  rw [if_pos h, if_neg, if_pos hd]
  rintro ⟨h1, h2⟩
  rcases ho with ⟨c, hc⟩ | ⟨h3, h4⟩
  · rw [h1] at hc; cases hc
  · rcases h2 with h2 | h2
    · exact h2 h3
    · rw [h4] at h2; cases h2
theorem froL_len {s : List Wit} (l : List Int) (id : Int) : (froL s l id).length ≤ s.length := by
  unfold froL
  split
  · rename_i h1
    obtain ⟨h, hd, _⟩ := askE_ok h1
    exact chI_len h hd _
  · simp
theorem belL_len (s : List Wit) (l : List Int) (id : Int) : (belL s l id).length ≤ s.length := by
  unfold belL
  split
  · have := List.length_filter_le (belB s l id) (idsS s); rw [idsS_len] at this; exact this
  · simp
theorem lines_end {s : List Wit} (h : chE s = 0) {x y : Wit} (hx : x ∈ s) (hy : y ∈ s) : askE s (bestP s) x.id false = 0 ∧ askE s (bestP s) y.id true = 0 ∧ askE s (bestP s) 0 true = 0 ∧ (belL s (bestP s) 0).length = s.length ∧ x.id ∉ froL s (bestP s) x.id ∧ y.id ∉ belL s (bestP s) y.id ∧ decide (x.id ∈ belL s (bestP s) y.id) = decide (y.id ∈ froL s (bestP s) x.id) ∧ (y.id ∈ froL s (bestP s) x.id → y.hi < x.lo) := by
  obtain ⟨h0, _⟩ := chE_ok h
  have hd := des_best h
  have hgx := getW_own (checkS_nodup h0) hx
  have hgy := getW_own (checkS_nodup h0) hy
  have h1 : askE s (bestP s) x.id false = 0 := askE_of h0 hd (.inl ⟨x, hgx⟩)
  have h2 : askE s (bestP s) y.id true = 0 := askE_of h0 hd (.inl ⟨y, hgy⟩)
  have h3 : askE s (bestP s) 0 true = 0 := askE_of h0 hd (.inr ⟨rfl, rfl⟩)
  have hy0 : y.id ≠ 0 := by have := checkS_pos h0 y hy; omega
  have hf : froL s (bestP s) x.id = froI s (bestP s) x.id := by unfold froL; rw [if_pos h1]
  have hb : belL s (bestP s) y.id = (idsS s).filter (belB s (bestP s) y.id) := by unfold belL; rw [if_pos h2]
  have hm : ∀ k, belB s (bestP s) y.id k = true ↔ y.id ∈ froI s (bestP s) k := fun k => by simp [belB, hy0]
  refine ⟨h1, h2, h3, ?_, ?_, ?_, ?_, ?_⟩
  · unfold belL
    rw [if_pos h3, List.filter_eq_self.2 (fun k _ => by simp [belB]), idsS_len]
  · rw [hf]; exact froI_self h0 hd hgx
  · rw [hb]
    intro hc
    exact froI_self h0 hd hgy ((hm _).1 (List.mem_filter.1 hc).2)
  · rw [decide_eq_decide, hb, hf, List.mem_filter, hm]
    exact ⟨fun h => h.2, fun h => ⟨idsS_mem.2 ⟨x, hx, rfl⟩, h⟩⟩
  · rw [hf]
    intro hc
    obtain ⟨q, h4, h5⟩ := froI_mem h0 hd hgx hc
    rw [hgy] at h4; injection h4 with h4; subst h4; exact h5
end Go.Am.Ds
end
section
namespace Go.Am.Ds
open Go Go.Am Go.Proofs
set_option maxRecDepth 100000
set_option maxHeartbeats 4000000
set_option linter.unusedSimpArgs false
set_option linter.unusedVariables false
attribute [local simp] vrun vwanted vyielded vop vopA vputAll VHeap.back hidI hidF backL bm Nat.testBit_eq_decide_div_mod_eq veval vevals vparts vO vbuiltin vlen vappend velems vcopy vmakeSlice vbuildSlice valloc vbox vmakeMap vload vpartT vpart vstore vfieldAddr vfield vindexAddr vindex vextract vslice vsliceZ vbounds vbnd zeroO vidx vlookup vmget vmapUpdate vdelete vclear vnilq vnilp vnils vbin vsc vsc1 vscs vscl abinOp aint ashift aunOp aconvert amaxs amax2 pvcV pvc pvcs tput tget vargs VHeap.get VHeap.alloc VHeap.put VHeap.drop VHeap.empty vlook vput vdrop psplice pfill preps chunk List.range List.range.loop vresults vresult vresultV frz frzL PV.isF PV.allF PV.scal PV.allS retP subT allFT PV.one PV.ids PV.idsL dropL beq_eq ble_dec blt_dec
attribute [local simp] zW tup2
theorem any_memD (l : List Int) (v : Int) : (l.any fun a => decide (v = a)) = decide (v ∈ l) := by rw [Bool.eq_iff_iff]; simp
theorem p144d (l : List Int) (v : Int) (hl : l.length < 4294967296) : VPure Tryz.prog 144 [ints l, .int .i64 v] fun r => r = .bool (decide (v ∈ l)) := by
  have := p144 l v hl
  rw [any_memD] at this; exact this
theorem p142 (s : List Wit) (l : List Int) (m id : Int) (text : Bool) (hl : s.length < 65536) (hlL : l.length < 4611686018427387904) : VPure Tryz.prog 142 [encS s, .agg [ints l, .int .i64 m], .int .i64 id, .bool text] fun r => r = .int .i64 (askE s l id text) := by
  refine .of_body Tryz.func142 rfl rfl ?_
  refine .seq ?_
  refine .rn ?_
  refine .seq ?_
  refine .seq ?_
  refine .regionL [0,1,2] rfl zz0 ?_
  refine .rn [0] [1,2] ?_
  refine .step rfl rfl (.pure rfl rfl rfl Tryz.call35 (by decide) (p35 s (by omega)) (by first | rfl | simp [*]) ?_)
  rintro _ rfl
  refine .rn [2] [] ?_
  refine .done ?_
  refine .seq ?_
  refine .rn ?_
  refine .condS rfl (fun c15 => ?_) (fun c15 => ?_)
  · try simp at c15
    refine .seq ?_
    refine .rn ?_
    refine .ret ?_
    refine ⟨_, _, zz4,zz4, ?_⟩
    simp_all [askE]
  · try simp at c15
    refine .skip ?_
    refine .seq ?_
    refine .seq ?_
    refine .regionL [0,1,2,3,4,5,6,7,8,9,10,11] rfl zz0 ?_
    refine .rn [0,1] [2,3,4,5,6,7,8,9,10,11] ?_
    refine .step rfl rfl (.pure rfl rfl rfl Tryz.call105 (by decide) (p105' s id (by omega)) (by first | rfl | simp [*]) ?_)
    rintro _ rfl
    refine .rn [3,4] [5,6,7,8,9,10,11] ?_
    refine .split (t := 21) rfl (fun c21 => ?_) (fun c21 => ?_)
    · try rw [c21]
      try simp at c21
      have hn := getW_none c21
      refine .rn [5,6,7] [8,9,10,11] ?_
      refine .split (t := 24) rfl (fun c24 => ?_) (fun c24 => ?_)
      · try rw [c24]
        try simp at c24
        refine .rn [8,9,10,11] [] ?_
        refine .done ?_
        refine .condT rfl ?_
        refine .seq ?_
        refine .rn ?_
        refine .ret ?_
        refine ⟨_, _, zz4,zz4, ?_⟩
        simp_all [askE]
      · try rw [c24]
        try simp at c24
        refine .rn [8,9,10,11] [] ?_
        refine .done ?_
        refine .condS rfl (fun c28 => ?_) (fun c28 => ?_)
        · try simp at c28
          refine .seq ?_
          refine .rn ?_
          refine .ret ?_
          refine ⟨_, _, zz4,zz4, ?_⟩
          simp_all [askE]
        · try simp at c28
          refine .skip ?_
          refine .seq ?_
          refine .seq ?_
          refine .regionL [0,1,2,3,4,5,6,7,8] rfl zz0 ?_
          refine .rn [0,1,2] [3,4,5,6,7,8] ?_
          refine .step rfl rfl (.pure rfl rfl rfl Tryz.call132 (by decide) (p132 s l hl hlL (checkS_lens c15)) (by first | rfl | simp [*]) ?_)
          rintro _ rfl
          refine .rn [4,5,6,7,8] [] ?_
          refine .done ?_
          refine .seq ?_
          refine .rn ?_
          refine .condS rfl (fun c37 => ?_) (fun c37 => ?_)
          · try simp at c37
            refine .seq ?_
            refine .rn ?_
            refine .ret ?_
            refine ⟨_, _, zz4,zz4, ?_⟩
            simp_all [askE]
          · try simp at c37
            refine .skip ?_
            refine .seq ?_
            refine .rn ?_
            refine .ret ?_
            refine ⟨_, _, zz4,zz4, ?_⟩
            simp_all [askE]
    · try rw [c21]
      try simp at c21
      obtain ⟨i, hi, hie, hga⟩ := getW_some (show 0 ≤ findI s id by omega)
      refine .rn [5,6,7,8,9,10,11] [] ?_
      refine .done ?_
      refine .condF rfl ?_
      refine .skip ?_
      refine .seq ?_
      refine .seq ?_
      refine .regionL [0,1,2,3,4,5,6,7,8] rfl zz0 ?_
      refine .rn [0,1,2] [3,4,5,6,7,8] ?_
      refine .step rfl rfl (.pure rfl rfl rfl Tryz.call132 (by decide) (p132 s l hl hlL (checkS_lens c15)) (by first | rfl | simp [*]) ?_)
      rintro _ rfl
      refine .rn [4,5,6,7,8] [] ?_
      refine .done ?_
      refine .seq ?_
      refine .rn ?_
      refine .condS rfl (fun c37 => ?_) (fun c37 => ?_)
      · try simp at c37
        refine .seq ?_
        refine .rn ?_
        refine .ret ?_
        refine ⟨_, _, zz4,zz4, ?_⟩
        simp_all [askE]
      · try simp at c37
        refine .skip ?_
        refine .seq ?_
        refine .rn ?_
        refine .ret ?_
        refine ⟨_, _, zz4,zz4, ?_⟩
        simp_all [askE]
theorem p143 (s : List Wit) (l : List Int) (m id : Int) (c : Wit) (h : checkS s = 0) (hd : (desR s l).2 = true) (hg : getW s id = some c) : VPure Tryz.prog 143 [encS s, .agg [ints l, .int .i64 m], .int .i64 id] fun r => r = ints (froI s l id) := by
  have hl24 := (checkS_ok h).1
  obtain ⟨i, hi, hi2, hie, hci, hup⟩ := up_at hd hg
  refine .of_body Tryz.func143 rfl rfl ?_
  refine .seq ?_
  refine .rn ?_
  refine .seq ?_
  refine .rn ?_
  refine .seq ?_
  refine .seq ?_
  refine .drawn (ms := [0,1,0,0,12,31,63,127]) (W := [4]) (items := [.op 0, .op 1, .op 2, .op 3, .op 4, .ck 1, .op 5, .op 6, .op 7]) rfl zz0 zz0 zz0 ?_
  refine .rd rfl rfl (by decide) rfl (by decide) zz1 ?_   -- 0
  refine .rd rfl rfl (by decide) rfl (by decide) zz1 ?_   -- 1
  refine .rd rfl rfl (by decide) rfl (by decide) zz1 ?_   -- 2
  refine .rd rfl rfl (by decide) rfl (by decide) zz1 ?_   -- 3
  refine .wr rfl rfl (by decide) (.pure rfl rfl rfl Tryz.call105 (by decide) ((by have h := p105' s id (by omega); rw [hie] at h; exact h)) (by first | rfl | simp [*]) ?_)
  rintro _ rfl
  refine .ck rfl zz0 ?_   -- 1
  refine .rd rfl rfl (by decide) rfl (by decide) zz1 ?_   -- 5
  refine .rd rfl rfl (by decide) rfl (by decide) zz1 ?_   -- 6
  refine .rd rfl rfl (by decide) rfl (by decide) zz1 ?_   -- 7
  refine .done ?_
  refine .block ?_
  refine .loopS (fun st : List Int × Int => ([(2, .int .i64 st.2),(3, .ptr 0 0),(4, .ptr 1 0),(7, .grow 2 st.1.length true)], ⟨3,[(2, .grow 1 (st.1.map (.int .i64))),(1, .box [ints l, .int .i64 m]),(0, .box [.vec (s.map encW)])]⟩)) (fun st => okI s st.2 ∧ froI s l id = st.1 ++ chI s l st.2) (fun st => rkI s st.2) ([], upI s l id) ⟨up_ok hd hg, rfl⟩ (.mk [] [] zz14 zz15 rfl rfl rfl) ?_
  rintro ⟨o, x⟩ ⟨hx, ho⟩
  simp only at hx ho ⊢
  have hol : o.length ≤ 24 := by
    have h1 := chI_len h hd (upI s l id)
    have h2 : (froI s l id).length = o.length + (chI s l x).length := by rw [ho, List.length_append]
    unfold froI at h2; omega
  refine .seq ?_
  refine .seq ?_
  refine .rn ?_
  refine .condS rfl (fun c16 => ?_) (fun c16 => ?_)
  · try simp at c16
    obtain ⟨c2, hg2⟩ := hx.resolve_left c16
    obtain ⟨i2, hi3, hi4, hie2, hci2, hup2⟩ := up_at hd hg2
    have hone : allOne [PV.int IntKind.i64 x] = true := rfl
    have hb : o.length ≤ 4294967295 := by omega
    have hrk := rk_up h hd hg2
    refine .skip ?_
    refine .seq ?_
    refine .block ?_
    refine .rn ?_
    refine .drawn (ms := [0,1,0,0,12,31,63,127]) (W := [4]) (items := [.op 0, .op 1, .op 2, .op 3, .op 4, .ck 1, .op 5, .op 6, .op 7]) rfl zz0 zz0 zz0 ?_
    refine .rd rfl rfl (by decide) rfl (by decide) zz1 ?_   -- 0
    refine .rd rfl rfl (by decide) rfl (by decide) zz1 ?_   -- 1
    refine .rd rfl rfl (by decide) rfl (by decide) zz1 ?_   -- 2
    refine .rd rfl rfl (by decide) rfl (by decide) zz1 ?_   -- 3
    refine .wr rfl rfl (by decide) (.pure rfl rfl rfl Tryz.call105 (by decide) ((by have h := p105' s x (by omega); rw [hie2] at h; exact h)) (by first | rfl | simp [*]) ?_)
    rintro _ rfl
    refine .ck rfl zz0 ?_   -- 1
    refine .rd rfl rfl (by decide) rfl (by decide) zz1 ?_   -- 5
    refine .rd rfl rfl (by decide) rfl (by decide) zz1 ?_   -- 6
    refine .rd rfl rfl (by decide) rfl (by decide) zz1 ?_   -- 7
    refine .done ?_
    refine ⟨(o ++ [x], upI s l x), ⟨up_ok hd hg2, by rw [ho, chI_step h hd hg2]; simp [froI]⟩, hrk, (.mk [] [(2,4)] zz14 zz15 rfl rfl rfl)⟩
  · try simp at c16
    have hfr : froI s l id = o := by rw [ho, c16, chI_zero, List.append_nil]
    refine .exit ?_
    refine .seq ?_
    refine .rn ?_
    refine .ret ?_
    refine ⟨_, _, zz4,zz4, ?_⟩
    first | rfl | (simp [*]; done) | (simp_all; done)
theorem p71 (s : List Wit) (l : List Int) (m id : Int) (hl : s.length < 65536) (hlL : l.length < 4611686018427387904) : VPure Tryz.prog 71 [encS s, .agg [ints l, .int .i64 m], .int .i64 id] fun r => Soft r (.tup [ints (froL s l id), .int .i64 (askE s l id false)]) := by
  refine .of_body Tryz.func71 rfl rfl ?_
  refine .seq ?_
  refine .rn ?_
  refine .seq ?_
  refine .seq ?_
  refine .regionL [0,1,2,3,4] rfl zz0 ?_
  refine .rn [0,1,2] [3,4] ?_
  refine .step rfl rfl (.pure rfl rfl rfl Tryz.call142 (by decide) (p142 s l m id false hl hlL) (by first | rfl | simp [*]) ?_)
  rintro _ rfl
  refine .rn [4] [] ?_
  refine .done ?_
  refine .seq ?_
  refine .rn ?_
  refine .condS rfl (fun c14 => ?_) (fun c14 => ?_)
  · try simp at c14
    refine .seq ?_
    refine .rn ?_
    refine .ret ?_
    refine ⟨_, _, zz4,zz4, ?_⟩
    rw [show froL s l id = [] by unfold froL; rw [if_neg c14]]
    exact soft_tup (AltL.cons .sl0v (AltL.cons (.same _ rfl) AltL.nil))
  · try simp at c14
    obtain ⟨h0, hd, hor⟩ := askE_ok c14
    obtain ⟨c, hg⟩ := hor.resolve_right (fun h => by cases h.2)
    have hfr : froL s l id = froI s l id := by unfold froL; rw [if_pos c14]
    refine .skip ?_
    refine .seq ?_
    refine .regionL [0,1,2,3,4,5] rfl zz0 ?_
    refine .rn [0,1,2] [3,4,5] ?_
    refine .step rfl rfl (.pure rfl rfl rfl Tryz.call143 (by decide) (p143 s l m id c h0 hd hg) (by first | rfl | simp [*]) ?_)
    rintro _ rfl
    refine .rn [4,5] [] ?_
    refine .done ?_
    refine .ret ?_
    refine ⟨_, _, zz4,zz4, ?_⟩
    rw [hfr, c14]
    exact soft_rfl rfl
theorem p72 (s : List Wit) (l : List Int) (m id : Int) (hl : s.length < 65536) (hlL : l.length < 4611686018427387904) : VPure Tryz.prog 72 [encS s, .agg [ints l, .int .i64 m], .int .i64 id] fun r => Soft r (.tup [ints (belL s l id), .int .i64 (askE s l id true)]) := by
  refine .of_body Tryz.func72 rfl rfl ?_
  refine .seq ?_
  refine .rn ?_
  refine .seq ?_
  refine .seq ?_
  refine .regionL [0,1,2,3,4] rfl zz0 ?_
  refine .rn [0,1,2] [3,4] ?_
  refine .step rfl rfl (.pure rfl rfl rfl Tryz.call142 (by decide) (p142 s l m id true hl hlL) (by first | rfl | simp [*]) ?_)
  rintro _ rfl
  refine .rn [4] [] ?_
  refine .done ?_
  refine .seq ?_
  refine .rn ?_
  refine .condS rfl (fun c17 => ?_) (fun c17 => ?_)
  · try simp at c17
    refine .seq ?_
    refine .rn ?_
    refine .ret ?_
    refine ⟨_, _, zz4,zz4, ?_⟩
    rw [show belL s l id = [] by unfold belL; rw [if_neg c17]]
    exact soft_tup (AltL.cons .sl0v (AltL.cons (.same _ rfl) AltL.nil))
  · try simp at c17
    obtain ⟨h0, hd, _⟩ := askE_ok c17
    have hl24 := (checkS_ok h0).1
    have hidl := idsS_len s
    refine .skip ?_
    refine .seq ?_
    refine .rn ?_
    refine .seq ?_
    refine .seq ?_
    refine .regionL [0,1,2,3] rfl zz0 ?_
    refine .rn [0] [1,2,3] ?_
    refine .step rfl rfl (.pure rfl rfl rfl Tryz.call99 (by decide) (p99' s (by omega)) (by first | rfl | simp [*]) ?_)
    rintro _ rfl
    refine .rn [2,3] [] ?_
    refine .done ?_
    refine .block ?_
    refine .loopS (fun k : Nat => ([(2, .int .i64 id),(3, .ptr 0 0),(4, .ptr 1 0),(9, .grow 2 ((idsS s).take k |>.filter (belB s l id)).length true),(20, ints (idsS s)),(21, .int .i64 (idsS s).length),(22, .int .i64 k)], ⟨3,[(2, .grow 1 (((idsS s).take k |>.filter (belB s l id)).map (.int .i64))),(1, .box [ints l, .int .i64 m]),(0, .box [.vec (s.map encW)])]⟩)) (fun k => k ≤ (idsS s).length) (fun k => (idsS s).length - k) 0 (by simp) (.mk [] [] zz14 zz15 rfl rfl rfl) ?_
    rintro k hk
    simp only at hk ⊢
    clear hidl
    refine .seq ?_
    refine .rn ?_
    refine .seq ?_
    refine .condS rfl (fun c23 => ?_) (fun c23 => ?_)
    · try simp at c23
      have hidl := idsS_len s
      have hw2 : IntKind.i64.wrap ((k : Int) + 1) = (k : Int) + 1 := wrap64 (by omega) (by omega)
      obtain ⟨i, hi, hie, hga⟩ := getW_some (find_ids (List.getElem_mem c23))
      have hle : ((idsS s).take k |>.filter (belB s l id)).length ≤ k := Nat.le_trans (List.length_filter_le _ _) (by simp; omega)
      have hb : ((idsS s).take k |>.filter (belB s l id)).length ≤ 4294967295 := by omega
      have hone : allOne [PV.int IntKind.i64 (idsS s)[k]] = true := rfl
      have hT := take_succ_filt (belB s l id) (idsS s) k c23
      clear hidl
      have hfl : (froI s l (idsS s)[k]).length < 4294967296 := by have := chI_len h0 hd (upI s l (idsS s)[k]); unfold froI; omega
      refine .skip ?_
      refine .seq ?_
      refine .block ?_
      refine .seq ?_
      refine .rn ?_
      refine .seq ?_
      refine .regionL [0,1,2,3,4,5,6,7,8,9] rfl zz0 ?_
      refine .rn [0,1,2] [3,4,5,6,7,8,9] ?_
      refine .split (t := 28) rfl (fun c28 => ?_) (fun c28 => ?_)
      · try rw [c28]
        try simp at c28
        subst c28
        rw [if_pos (by simp [belB])] at hT
        refine .rn [3,4,5,6,7,8,9] [] ?_
        refine .done ?_
        refine .condT rfl ?_
        refine .rn ?_
        refine .rn ?_
        refine ⟨k + 1, c23,zz5,(.mk [] [(2,4)] zz14 zz15 rfl rfl rfl)⟩
      · try rw [c28]
        try simp at c28
        refine .rn [3,4,5] [6,7,8,9] ?_
        refine .step rfl rfl (.pure rfl rfl rfl Tryz.call143 (by decide) (p143 s l m (idsS s)[k] s[i] h0 hd hga) (by first | rfl | simp [*]) ?_)
        rintro _ rfl
        refine .rn [7] [8,9] ?_
        refine .step rfl rfl (.pure rfl rfl rfl Tryz.call144 (by decide) (p144d _ id (by omega)) (by first | rfl | simp [*]) ?_)
        rintro _ rfl
        refine .rn [9] [] ?_
        refine .done ?_
        refine .condS rfl (fun c35 => ?_) (fun c35 => ?_)
        · try simp at c35
          rw [if_pos (by simp [belB, c35])] at hT
          refine .rn ?_
          refine .rn ?_
          refine ⟨k + 1, c23,zz5,(.mk [] [(2,4)] zz14 zz15 rfl rfl rfl)⟩
        · try simp at c35
          rw [if_neg (by simp [belB, c35, c28])] at hT
          refine .skip ?_
          refine .rn ?_
          refine ⟨k + 1, c23,zz5,(.mk [] [] zz14 zz15 rfl rfl rfl)⟩
    · try simp at c23
      have hk2 : k = (idsS s).length := by omega
      subst hk2
      refine .exit ?_
      refine .seq ?_
      refine .rn ?_
      refine .ret ?_
      refine ⟨_, _, zz4,zz4, ?_⟩
      rw [show belL s l id = (idsS s).filter (belB s l id) by unfold belL; rw [if_pos c17], c17]
      exact soft_rfl rfl
theorem p71' (s : List Wit) (l : List Int) (m id : Int) (hl : s.length < 65536) (hlL : l.length < 4611686018427387904) : VPure Tryz.prog 71 [encS s, .agg [ints l, .int .i64 m], .int .i64 id] fun r => r = .tup [ints (froL s l id), .int .i64 (askE s l id false)] := VPure.soft (p71 s l m id hl hlL) rfl
theorem p72' (s : List Wit) (l : List Int) (m id : Int) (hl : s.length < 65536) (hlL : l.length < 4611686018427387904) : VPure Tryz.prog 72 [encS s, .agg [ints l, .int .i64 m], .int .i64 id] fun r => r = .tup [ints (belL s l id), .int .i64 (askE s l id true)] := VPure.soft (p72 s l m id hl hlL) rfl
end Go.Am.Ds
end
section
namespace Go.Am.Ds
open Go Go.Am Go.Proofs
set_option maxRecDepth 100000
set_option maxHeartbeats 4000000
set_option linter.unusedSimpArgs false
set_option linter.unusedVariables false
attribute [local simp] vrun vwanted vyielded vop vopA vputAll VHeap.back hidI hidF backL bm Nat.testBit_eq_decide_div_mod_eq veval vevals vparts vO vbuiltin vlen vappend velems vcopy vmakeSlice vbuildSlice valloc vbox vmakeMap vload vpartT vpart vstore vfieldAddr vfield vindexAddr vindex vextract vslice vsliceZ vbounds vbnd zeroO vidx vlookup vmget vmapUpdate vdelete vclear vnilq vnilp vnils vbin vsc vsc1 vscs vscl abinOp aint ashift aunOp aconvert amaxs amax2 pvcV pvc pvcs tput tget vargs VHeap.get VHeap.alloc VHeap.put VHeap.drop VHeap.empty vlook vput vdrop psplice pfill preps chunk List.range List.range.loop vresults vresult vresultV frz frzL PV.isF PV.allF PV.scal PV.allS retP subT allFT PV.one PV.ids PV.idsL dropL beq_eq ble_dec blt_dec
attribute [local simp] zW tup2
set_option maxHeartbeats 40000000
theorem p15 (s : List Wit) (a b : Int) (ha : 0 ≤ a ∧ a ≤ 255) (hb : 0 ≤ b ∧ b ≤ 255) (hl : s.length < 4611686018427387904) (sanB : Bool) (hsan : VPure Tryz.prog 22 [] fun r => r = .bool sanB) (hsb : sanB = true) : VPure Tryz.prog 15 [encS s, .int .u8 a, .int .u8 b] fun r => r = .bool true := by
  refine .of_body Tryz.func15 rfl rfl ?_
  refine .seq ?_
  refine .rn ?_
  refine .seq ?_
  refine .seq ?_
  refine .regionL [0,1,2,3,4,5,6,7,8] rfl zz0 ?_
  refine .rn [0] [1,2,3,4,5,6,7,8] ?_
  refine .step rfl rfl (.pure rfl rfl rfl Tryz.call21 (by decide) (p21 s hl) (by first | rfl | simp [*]) ?_)
  rintro _ rfl
  refine .rn [2,3] [4,5,6,7,8] ?_
  refine .split (t := 20) rfl (fun c20 => ?_) (fun c20 => ?_)
  · try rw [c20]
    try simp at c20
    refine .rn [4,5,6,7,8] [] ?_
    refine .done ?_
    refine .condT rfl ?_
    refine .seq ?_
    refine .regionL [0,1] rfl zz0 ?_
    refine .step rfl rfl (.pure rfl rfl rfl Tryz.call22 (by decide) (hsan) (by first | rfl | simp [*]) ?_)
    rintro _ rfl
    refine .rn [1] [] ?_
    refine .done ?_
    refine .ret ?_
    refine ⟨_, _, zz4,zz4, ?_⟩
    first | rfl | (simp [*]; done) | (simp_all; done)
  · try rw [c20]
    try simp at c20
    have hl2 := smallS_len c20
    refine .rn [4,5,6,7,8] [] ?_
    refine .done ?_
    refine .condS rfl (fun c25 => ?_) (fun c25 => ?_)
    · try simp at c25
      refine .seq ?_
      refine .regionL [0,1] rfl zz0 ?_
      refine .step rfl rfl (.pure rfl rfl rfl Tryz.call22 (by decide) (hsan) (by first | rfl | simp [*]) ?_)
      rintro _ rfl
      refine .rn [1] [] ?_
      refine .done ?_
      refine .ret ?_
      refine ⟨_, _, zz4,zz4, ?_⟩
      first | rfl | (simp [*]; done) | (simp_all; done)
    · try simp at c25
      refine .skip ?_
      refine .seq ?_
      refine .regionL [0,1,2,3,4,5,6,7] rfl zz0 ?_
      refine .rn [0] [1,2,3,4,5,6,7] ?_
      refine .step rfl rfl (.pure rfl rfl rfl Tryz.call63 (by decide) (p63' s (by omega)) (by first | rfl | simp [*]) ?_)
      rintro _ rfl
      refine .rn [2,3,4,5,6,7] [] ?_
      refine .done ?_
      refine .seq ?_
      refine .seq ?_
      refine .rn ?_
      refine .condS rfl (fun c33 => ?_) (fun c33 => ?_)
      · try simp at c33
        refine .seq ?_
        refine .regionL [0,1] rfl zz0 ?_
        refine .step rfl rfl (.pure rfl rfl rfl Tryz.call22 (by decide) (hsan) (by first | rfl | simp [*]) ?_)
        rintro _ rfl
        refine .rn [1] [] ?_
        refine .done ?_
        refine .ret ?_
        refine ⟨_, _, zz4,zz4, ?_⟩
        first | rfl | (simp [*]; done) | (simp_all; done)
      · try simp at c33
        have hwa : IntKind.i64.wrap a = a := wrap64 (by omega) (by omega)
        have hwb : IntKind.i64.wrap b = b := wrap64 (by omega) (by omega)
        have hsl : 0 < s.length := List.length_pos_iff.2 c25
        obtain ⟨i, hi, hia⟩ : ∃ i : Nat, i < s.length ∧ a.tmod (s.length : Int) = (i : Int) := by
          have h1 := Int.tmod_nonneg (s.length : Int) ha.1
          have h2 := Int.tmod_lt_of_pos a (show (0 : Int) < (s.length : Int) by omega)
          exact ⟨(a.tmod s.length).toNat, by omega, by omega⟩
        obtain ⟨j, hj, hjb⟩ : ∃ j : Nat, j < s.length ∧ b.tmod (s.length : Int) = (j : Int) := by
          have h1 := Int.tmod_nonneg (s.length : Int) hb.1
          have h2 := Int.tmod_lt_of_pos b (show (0 : Int) < (s.length : Int) by omega)
          exact ⟨(b.tmod s.length).toNat, by omega, by omega⟩
        have hEi : encW s[i] = .agg [.int .i64 s[i].id, .int .i64 s[i].known, ints s[i].slips, ints s[i].mended, ints s[i].models, .int .i64 s[i].lo, .int .i64 s[i].hi] := rfl
        have hEj : encW s[j] = .agg [.int .i64 s[j].id, .int .i64 s[j].known, ints s[j].slips, ints s[j].mended, ints s[j].models, .int .i64 s[j].lo, .int .i64 s[j].hi] := rfl
        obtain ⟨k1, k2, k3, k4, k5, k6, k7, k8⟩ := lines_end c33 (List.getElem_mem hi) (List.getElem_mem hj)
        have hbl : (bestP s).length < 65536 := by simp [bestP]; have := chL_len c33; omega
        refine .skip ?_
        refine .seq ?_
        refine .drawn (ms := [0,1,0,4,0,16,48,124,255,511,0,2047]) (W := [10,11]) (items := [.op 0, .op 1, .op 2, .op 3, .op 4, .op 5, .op 6, .op 7, .op 8, .op 9, .op 10, .ck 9, .ck 6, .ck 5, .ck 1, .op 11]) rfl zz0 zz0 zz0 ?_
        refine .rd rfl rfl (by decide) rfl (by decide) zz1 ?_   -- 0
        refine .rd rfl rfl (by decide) rfl (by decide) zz1 ?_   -- 1
        refine .rd rfl rfl (by decide) rfl (by decide) zz1 ?_   -- 2
        refine .rd rfl rfl (by decide) rfl (by decide) zz1 ?_   -- 3
        refine .rd rfl rfl (by decide) rfl (by decide) zz1 ?_   -- 4
        refine .rd rfl rfl (by decide) rfl (by decide) zz1 ?_   -- 5
        refine .rd rfl rfl (by decide) rfl (by decide) zz1 ?_   -- 6
        refine .rd rfl rfl (by decide) rfl (by decide) zz1 ?_   -- 7
        refine .rd rfl rfl (by decide) rfl (by decide) zz1 ?_   -- 8
        refine .rd rfl rfl (by decide) rfl (by decide) zz1 ?_   -- 9
        refine .wr rfl rfl (by decide) (.vop zz1 (by decide) ?_)   -- 10
        refine .ck rfl zz0 ?_   -- 9
        refine .ck rfl zz0 ?_   -- 6
        refine .ck rfl zz0 ?_   -- 5
        refine .ck rfl zz0 ?_   -- 1
        refine .wr rfl rfl (by decide) (.vop zz1 (by decide) ?_)   -- 11
        refine .done ?_
        refine .seq ?_
        refine .drawn (ms := [0,1,0,4,0,16,48,124,255,511,0,2047]) (W := [10,11]) (items := [.op 0, .op 1, .op 2, .op 3, .op 4, .op 5, .op 6, .op 7, .op 8, .op 9, .op 10, .ck 9, .ck 6, .ck 5, .ck 1, .op 11]) rfl zz0 zz0 zz0 ?_
        refine .rd rfl rfl (by decide) rfl (by decide) zz1 ?_   -- 0
        refine .rd rfl rfl (by decide) rfl (by decide) zz1 ?_   -- 1
        refine .rd rfl rfl (by decide) rfl (by decide) zz1 ?_   -- 2
        refine .rd rfl rfl (by decide) rfl (by decide) zz1 ?_   -- 3
        refine .rd rfl rfl (by decide) rfl (by decide) zz1 ?_   -- 4
        refine .rd rfl rfl (by decide) rfl (by decide) zz1 ?_   -- 5
        refine .rd rfl rfl (by decide) rfl (by decide) zz1 ?_   -- 6
        refine .rd rfl rfl (by decide) rfl (by decide) zz1 ?_   -- 7
        refine .rd rfl rfl (by decide) rfl (by decide) zz1 ?_   -- 8
        refine .rd rfl rfl (by decide) rfl (by decide) zz1 ?_   -- 9
        refine .wr rfl rfl (by decide) (.vop zz1 (by decide) ?_)   -- 10
        refine .ck rfl zz0 ?_   -- 9
        refine .ck rfl zz0 ?_   -- 6
        refine .ck rfl zz0 ?_   -- 5
        refine .ck rfl zz0 ?_   -- 1
        refine .wr rfl rfl (by decide) (.vop zz1 (by decide) ?_)   -- 11
        refine .done ?_
        refine .seq ?_
        refine .regionL [0,1,2,3,4,5,6,7,8,9] rfl zz0 ?_
        refine .rn [0,1,2,3] [4,5,6,7,8,9] ?_
        refine .step rfl rfl (.pure rfl rfl rfl Tryz.call71 (by decide) (p71' s (bestP s) (bestS s (chL s).length) s[i].id (by omega) (by omega)) (by first | rfl | simp [*]) ?_)
        rintro _ rfl
        refine .rn [5,6,7,8,9] [] ?_
        refine .done ?_
        refine .seq ?_
        refine .regionL [0,1,2,3,4,5,6,7,8,9] rfl zz0 ?_
        refine .rn [0,1,2,3] [4,5,6,7,8,9] ?_
        refine .step rfl rfl (.pure rfl rfl rfl Tryz.call72 (by decide) (p72' s (bestP s) (bestS s (chL s).length) s[j].id (by omega) (by omega)) (by first | rfl | simp [*]) ?_)
        rintro _ rfl
        refine .rn [5,6,7,8,9] [] ?_
        refine .done ?_
        refine .seq ?_
        refine .regionL [0,1,2,3,4,5,6,7] rfl zz0 ?_
        refine .rn [0,1] [2,3,4,5,6,7] ?_
        refine .step rfl rfl (.pure rfl rfl rfl Tryz.call72 (by decide) (p72' s (bestP s) (bestS s (chL s).length) 0 (by omega) (by omega)) (by first | rfl | simp [*]) ?_)
        rintro _ rfl
        refine .rn [3,4,5,6,7] [] ?_
        refine .done ?_
        refine .seq ?_
        refine .seq ?_
        refine .regionL [0,1,2,3,4,5,6,7,8,9,10,11,12,13,14,15,16,17,18,19,20,21,22,23,24,25,26,27,28,29] rfl zz0 ?_
        refine .rn [0,1,2] [3,4,5,6,7,8,9,10,11,12,13,14,15,16,17,18,19,20,21,22,23,24,25,26,27,28,29] ?_
        refine .split (t := 79) rfl (fun c79 => ?_) (fun c79 => ?_)
        · try rw [c79]
          try simp at c79
        · try rw [c79]
          try simp at c79
          refine .rn [3,4,5,6] [7,8,9,10,11,12,13,14,15,16,17,18,19,20,21,22,23,24,25,26,27,28,29] ?_
          refine .split (t := 83) rfl (fun c83 => ?_) (fun c83 => ?_)
          · try rw [c83]
            try simp at c83
          · try rw [c83]
            try simp at c83
            refine .rn [7,8,9,10] [11,12,13,14,15,16,17,18,19,20,21,22,23,24,25,26,27,28,29] ?_
            refine .split (t := 87) rfl (fun c87 => ?_) (fun c87 => ?_)
            · try rw [c87]
              try simp at c87
            · try rw [c87]
              try simp at c87
              refine .rn [11,12,13,14,15,16,17,18] [19,20,21,22,23,24,25,26,27,28,29] ?_
              refine .split (t := 95) rfl (fun c95 => ?_) (fun c95 => ?_)
              · try rw [c95]
                try simp at c95
              · try rw [c95]
                try simp at c95
                refine .rn [19,20,21] [22,23,24,25,26,27,28,29] ?_
                refine .step rfl rfl (.pure rfl rfl rfl Tryz.call46 (by decide) (p46 (froL s (bestP s) s[i].id) s[i].id (by have := froL_len (s := s) (bestP s) s[i].id; omega)) (by first | rfl | simp [*]) ?_)
                rintro _ rfl
                refine .rn [23,24] [25,26,27,28,29] ?_
                refine .split (t := 101) rfl (fun c101 => ?_) (fun c101 => ?_)
                · try rw [c101]
                  try simp at c101
                · try rw [c101]
                  try simp at c101
                  refine .rn [25,26,27] [28,29] ?_
                  refine .step rfl rfl (.pure rfl rfl rfl Tryz.call46 (by decide) (p46 (belL s (bestP s) s[j].id) s[j].id (by have := belL_len s (bestP s) s[j].id; omega)) (by first | rfl | simp [*]) ?_)
                  rintro _ rfl
                  refine .rn [29] [] ?_
                  refine .done ?_
                  refine .condS rfl (fun c106 => ?_) (fun c106 => ?_)
                  · try simp at c106
                  · try simp at c106
                    refine .skip ?_
                    refine .seq ?_
                    refine .drawn (ms := [0,1,3,3,11,31,3,3,131,511,1023,2047,4095,8191,8191,24575,65535,131071,262143,524287,1048575,2097151,524287,4718591,13107199,33554431,67108863,134217727,268435455]) (W := [0,5,9,16]) (items := [.op 0, .op 1, .op 2, .op 3, .op 4, .op 6, .op 7, .op 8, .op 5, .ck 8, .op 9, .op 10, .op 11, .op 12, .op 13, .op 14, .op 15, .op 16, .op 17, .op 18, .op 19, .op 20, .op 21, .op 22, .op 23, .op 24, .op 25, .op 26, .op 27, .op 28]) rfl zz0 zz0 zz0 ?_
                    refine .wr rfl rfl (by decide) (.pure rfl rfl rfl Tryz.call22 (by decide) (hsan) (by first | rfl | simp [*]) ?_)
                    rintro _ rfl
                    refine .rd rfl rfl (by decide) rfl (by decide) zz1 ?_   -- 1
                    refine .split (t := 108) rfl (fun c108 => ?_) (fun c108 => ?_)
                    · try rw [c108]
                      try simp at c108
                      refine .rd rfl rfl (by decide) rfl (by decide) zz1 ?_   -- 2
                      refine .rd rfl rfl (by decide) rfl (by decide) zz1 ?_   -- 3
                      refine .rd rfl rfl (by decide) rfl (by decide) zz1 ?_   -- 4
                      refine .rd rfl rfl (by decide) rfl (by decide) zz1 ?_   -- 6
                      refine .rd rfl rfl (by decide) rfl (by decide) zz1 ?_   -- 7
                      refine .rd rfl rfl (by decide) rfl (by decide) zz1 ?_   -- 8
                      refine .wr rfl rfl (by decide) (.pure rfl rfl rfl Tryz.call46 (by decide) (p46 (froL s (bestP s) s[i].id) s[j].id (by have := froL_len (s := s) (bestP s) s[i].id; omega)) (by first | rfl | simp [*]) ?_)
                      rintro _ rfl
                      refine .ck rfl zz0 ?_   -- 8
                      refine .wr rfl rfl (by decide) (.pure rfl rfl rfl Tryz.call46 (by decide) (p46 (belL s (bestP s) s[j].id) s[i].id (by have := belL_len s (bestP s) s[j].id; omega)) (by first | rfl | simp [*]) ?_)
                      rintro _ rfl
                      refine .rd rfl rfl (by decide) rfl (by decide) zz1 ?_   -- 10
                      refine .rd rfl rfl (by decide) rfl (by decide) zz1 ?_   -- 11
                      refine .rd rfl rfl (by decide) rfl (by decide) zz1 ?_   -- 12
                      refine .split (t := 119) rfl (fun c119 => ?_) (fun c119 => ?_)
                      · try rw [c119]
                        try simp at c119
                        refine .rd rfl rfl (by decide) rfl (by decide) zz1 ?_   -- 13
                        refine .rd rfl rfl (by decide) rfl (by decide) zz1 ?_   -- 14
                        refine .rd rfl rfl (by decide) rfl (by decide) zz1 ?_   -- 15
                        refine .wr rfl rfl (by decide) (.pure rfl rfl rfl Tryz.call46 (by decide) (p46 (froL s (bestP s) s[i].id) s[j].id (by have := froL_len (s := s) (bestP s) s[i].id; omega)) (by first | rfl | simp [*]) ?_)
                        rintro _ rfl
                        refine .rd rfl rfl (by decide) rfl (by decide) zz1 ?_   -- 17
                        refine .rd rfl rfl (by decide) rfl (by decide) zz1 ?_   -- 18
                        refine .split (t := 125) rfl (fun c125 => ?_) (fun c125 => ?_)
                        · try rw [c125]
                          try simp at c125
                          refine .un rfl rfl (by decide) ?_   -- 19
                          refine .un rfl rfl (by decide) ?_   -- 20
                          refine .un rfl rfl (by decide) ?_   -- 21
                          refine .un rfl rfl (by decide) ?_   -- 22
                          refine .un rfl rfl (by decide) ?_   -- 23
                          refine .un rfl rfl (by decide) ?_   -- 24
                          refine .un rfl rfl (by decide) ?_   -- 25
                          refine .rd rfl rfl (by decide) rfl (by decide) zz1 ?_   -- 26
                          refine .rd rfl rfl (by decide) rfl (by decide) zz1 ?_   -- 27
                          refine .rd rfl rfl (by decide) rfl (by decide) zz1 ?_   -- 28
                          refine .done ?_
                          refine .ret ?_
                          refine ⟨_, _, zz4,zz4, ?_⟩
                          first | rfl | (simp [*]; done) | (simp_all; done)
                        · try rw [c125]
                          try simp at c125
                          have hk8 := k8 c125
                          refine .rd rfl rfl (by decide) rfl (by decide) zz1 ?_   -- 19
                          refine .rd rfl rfl (by decide) rfl (by decide) zz1 ?_   -- 20
                          refine .rd rfl rfl (by decide) rfl (by decide) zz1 ?_   -- 21
                          refine .rd rfl rfl (by decide) rfl (by decide) zz1 ?_   -- 22
                          refine .rd rfl rfl (by decide) rfl (by decide) zz1 ?_   -- 23
                          refine .rd rfl rfl (by decide) rfl (by decide) zz1 ?_   -- 24
                          refine .rd rfl rfl (by decide) rfl (by decide) zz1 ?_   -- 25
                          refine .rd rfl rfl (by decide) rfl (by decide) zz1 ?_   -- 26
                          refine .rd rfl rfl (by decide) rfl (by decide) zz1 ?_   -- 27
                          refine .rd rfl rfl (by decide) rfl (by decide) zz1 ?_   -- 28
                          refine .done ?_
                          refine .ret ?_
                          refine ⟨_, _, zz4,zz4, ?_⟩
                          first | rfl | (simp [*]; done) | (simp_all; done)
                      · try rw [c119]
                        try simp at c119
                    · try rw [c108]
                      try simp at c108
end Go.Am.Ds
end
