/-
 What is used in the proof of a statement (part DsC); no condition.
-/
import Derived.Test.YtnablaecbohhmaaGreatDsT
import Derived.Test.YtnablaecbohhmaaGreatVm2
import Derived.Test.YtnablaecbohhmaaGreatDsB
set_option linter.all false
section
namespace Go.Am.Ds
open Go Go.Am Go.Proofs
set_option maxHeartbeats 4000000
set_option linter.unusedSimpArgs false
set_option linter.unusedVariables false
attribute [local simp] vrun vwanted vyielded vop veval vevals vparts vO vbuiltin vlen vappend velems vcopy vmakeSlice vbuildSlice valloc vbox vmakeMap vload vpartT vpart vstore vfieldAddr vfield vindexAddr vindex vextract vslice vsliceZ vbounds vbnd zeroO vidx vlookup vmget vmapUpdate vdelete vnilq vnilp vnils vbin vsc vsc1 vscs vscl abinOp aint ashift aunOp aconvert amaxs amax2 pvcV pvc pvcs tput tget vargs VHeap.get VHeap.alloc VHeap.put VHeap.drop VHeap.empty vlook vput vdrop psplice pfill preps chunk List.range List.range.loop vresults vresult vresultV frz frzL PV.isF PV.allF PV.scal PV.allS retP subT allFT PV.one PV.ids PV.idsL dropL beq_eq ble_dec blt_dec
theorem p34 (a b : List Int) (ha : a.length < 4294967296) (hb : b.length < 4294967296) : VPure Tryz.prog 34 [ints a, ints b] fun r => r = .bool (decide (a = b)) := by
 refine .of_body Tryz.func34 rfl rfl ?_
 refine .seq ?_
 refine .rn ?_
 refine .seq ?_
 refine .seq ?_
 refine .rn ?_
 refine .condS rfl (fun c10 => ?_) (fun c10 => ?_)
 ·try simp at c10
  refine .seq ?_
  refine .rn ?_
  refine .ret ?_
  refine ⟨_, _, zz4,zz4, ?_⟩
  have h : ¬ a = b := by intro h; subst h; omega
  simp [h]
 ·try simp at c10
  refine .skip ?_
  refine .seq ?_
  refine .seq ?_
  refine .rn ?_
  refine .block ?_
  refine .loopS (fun i : Nat => ([(0, ints a),(1, ints b),(5, .int .i64 i)], VHeap.empty)) (fun i => i ≤ a.length ∧ a.take i = b.take i) (fun i => a.length - i) 0 (by simp) (.pure (by simp [*]) (by simp)) ?_
  rintro i ⟨hi, hr⟩
  simp only at hi hr ⊢
  refine .seq ?_
  refine .seq ?_
  refine .rn ?_
  refine .condS rfl (fun c14 => ?_) (fun c14 => ?_)
  ·try simp at c14
   have hw2 : IntKind.i64.wrap ((i : Int) + 1) = (i : Int) + 1 := wrap64 (by omega) (by omega)
   have hia : i < a.length := by omega
   have hib : i < b.length := by omega
   refine .skip ?_
   refine .seq ?_
   refine .block ?_
   refine .seq ?_
   refine .drawn (ms := [0,0,3,7,0,0,48,112,255]) (W := []) (items := [.op 0, .op 1, .op 2, .op 3, .op 4, .op 5, .op 6, .op 7, .op 8]) rfl zz0 zz0 zz0 ?_
   refine .rd rfl rfl (by decide) rfl (by decide) zz1 ?_   -- 0
   refine .rd rfl rfl (by decide) rfl (by decide) zz1 ?_   -- 1
   refine .rd rfl rfl (by decide) rfl (by decide) zz1 ?_   -- 2
   refine .rd rfl rfl (by decide) rfl (by decide) zz1 ?_   -- 3
   refine .rd rfl rfl (by decide) rfl (by decide) zz1 ?_   -- 4
   refine .rd rfl rfl (by decide) rfl (by decide) zz1 ?_   -- 5
   refine .rd rfl rfl (by decide) rfl (by decide) zz1 ?_   -- 6
   refine .rd rfl rfl (by decide) rfl (by decide) zz1 ?_   -- 7
   refine .rd rfl rfl (by decide) rfl (by decide) zz1 ?_   -- 8
   refine .done ?_
   refine .condS rfl (fun c25 => ?_) (fun c25 => ?_)
   ·try simp at c25
    refine .seq ?_
    refine .rn ?_
    refine .ret ?_
    refine ⟨_, _, zz4,zz4, ?_⟩
    have h : ¬ a = b := by intro h; subst h; simp at c25
    simp [h]
   ·try simp at c25
    refine .skip ?_
    refine .rn ?_
    refine ⟨i + 1, ⟨zz5, ?_⟩, zz5, .pure (by simp [*]) (by simp)⟩
    rw [List.take_succ_eq_append_getElem hia, List.take_succ_eq_append_getElem hib, hr, c25]
  ·try simp at c14
   have : i = a.length := by omega
   have hab : a = b := by
    rw [this, List.take_length] at hr
    rw [hr]; exact List.take_of_length_le (by omega)
   refine .exit ?_
   refine .seq ?_
   refine .rn ?_
   refine .ret ?_
   refine ⟨_, _, zz4,zz4, ?_⟩
   simp [hab]
end Go.Am.Ds
end

section
namespace Go.Am.Ds
open Go Go.Am Go.Proofs
set_option maxRecDepth 100000
set_option maxHeartbeats 4000000
set_option linter.unusedSimpArgs false
set_option linter.unusedVariables false
attribute [local simp] vrun vwanted vyielded vop veval vevals vparts vO vbuiltin vlen vappend velems vcopy vmakeSlice vbuildSlice valloc vbox vmakeMap vload vpartT vpart vstore vfieldAddr vfield vindexAddr vindex vextract vslice vsliceZ vbounds vbnd zeroO vidx vlookup vmget vmapUpdate vdelete vnilq vnilp vnils vbin vsc vsc1 vscs vscl abinOp aint ashift aunOp aconvert amaxs amax2 pvcV pvc pvcs tput tget vargs VHeap.get VHeap.alloc VHeap.put VHeap.drop VHeap.empty vlook vput vdrop psplice pfill preps chunk List.range List.range.loop vresults vresult vresultV frz frzL PV.isF PV.allF PV.scal PV.allS retP subT allFT PV.one PV.ids PV.idsL dropL beq_eq ble_dec blt_dec
def longW (w : Wit) : Bool := decide (40 < w.slips.length) || decide (40 < w.mended.length) || decide (30 < w.models.length)
def fewS (s : List Wit) : Bool := !(s.any longW) && ((decide (s.length ≤ 8) && s.all fun w => decide (w.slips.length ≤ 6)) || (decide (s.length ≤ 40) && decide (checkS s ≠ 0)))
theorem take_succ_all {α : Type} (p : α → Bool) (l : List α) (i : Nat) (h : i < l.length) : (l.take (i + 1)).all p = ((l.take i).all p && p l[i]) := by
 rw [List.take_succ_eq_append_getElem h, List.all_append]; simp
theorem take_succ_any {α : Type} (p : α → Bool) (l : List α) (i : Nat) (h : i < l.length) : (l.take (i + 1)).any p = ((l.take i).any p || p l[i]) := by
 rw [List.take_succ_eq_append_getElem h, List.any_append]; simp
theorem any_get {α : Type} (p : α → Bool) (l : List α) (i : Nat) (h : i < l.length) (hp : p l[i] = true) : l.any p = true := List.any_eq_true.2 ⟨l[i], List.getElem_mem h, hp⟩
theorem p26 (s : List Wit) (hl : s.length < 4611686018427387904) : VPure Tryz.prog 26 [encS s] fun r => r = .bool (fewS s) := by
 refine .of_body Tryz.func26 rfl rfl ?_
 refine .seq ?_
 refine .rn ?_
 refine .seq ?_
 refine .rn ?_
 refine .seq ?_
 refine .seq ?_
 refine .rn ?_
 refine .block ?_
 refine .loopS (fun st : Nat × Bool => ([(1, .ptr 0 0),(3, .bool st.2),(4, .int .i64 st.1)], ⟨1,[(0, .box [.vec (s.map encW)])]⟩)) (fun st => st.1 ≤ s.length ∧ (s.take st.1).any longW = false ∧ ((s.take st.1).all fun w => decide (w.slips.length ≤ 6)) = st.2) (fun st => s.length - st.1) (0, true) (by simp) (.mk [] [] zz2 zz3 rfl rfl rfl) ?_
 rintro ⟨i, light⟩ ⟨hi, hr, hr2⟩
 simp only at hi hr hr2 ⊢
 refine .seq ?_
 refine .seq ?_
 refine .rn ?_
 refine .condS rfl (fun c10 => ?_) (fun c10 => ?_)
 ·try simp at c10
  have hw2 : IntKind.i64.wrap ((i : Int) + 1) = (i : Int) + 1 := wrap64 (by omega) (by omega)
  have hA := take_succ_any longW s i c10
  have hB := take_succ_all (fun w : Wit => decide (w.slips.length ≤ 6)) s i c10
  rw [hr] at hA
  rw [hr2] at hB
  refine .skip ?_
  refine .seq ?_
  refine .block ?_
  refine .seq ?_
  refine .rn ?_
  refine .seq ?_
  refine .seq ?_
  refine .regionL [0,1,2,3,4,5,6,7,8,9,10,11,12,13,14,15] rfl zz0 ?_
  refine .rn [0,1,2,3,4] [5,6,7,8,9,10,11,12,13,14,15] ?_
  refine .split (t := 22) rfl (fun c22 => ?_) (fun c22 => ?_)
  ·rw [c22]
   try simp at c22
   refine .rn [5,6,7,8,9,10,11,12,13,14,15] [] ?_
   refine .done ?_
   refine .condT rfl ?_
   refine .seq ?_
   refine .rn ?_
   refine .ret ?_
   refine ⟨_, _, zz4,zz4, ?_⟩
   have h : longW s[i] = true := by unfold longW; simp; omega
   unfold fewS; rw [any_get longW s i c10 h]; rfl
  ·rw [c22]
   try simp at c22
   refine .rn [5,6,7,8,9,10] [11,12,13,14,15] ?_
   refine .split (t := 28) rfl (fun c28 => ?_) (fun c28 => ?_)
   ·rw [c28]
    try simp at c28
    refine .rn [11,12,13,14,15] [] ?_
    refine .done ?_
    refine .condT rfl ?_
    refine .seq ?_
    refine .rn ?_
    refine .ret ?_
    refine ⟨_, _, zz4,zz4, ?_⟩
    have h : longW s[i] = true := by unfold longW; simp; omega
    unfold fewS; rw [any_get longW s i c10 h]; rfl
   ·rw [c28]
    try simp at c28
    refine .rn [11,12,13,14,15] [] ?_
    refine .done ?_
    refine .condS rfl (fun c33 => ?_) (fun c33 => ?_)
    ·try simp at c33
     refine .seq ?_
     refine .rn ?_
     refine .ret ?_
     refine ⟨_, _, zz4,zz4, ?_⟩
     have h : longW s[i] = true := by unfold longW; simp; omega
     unfold fewS; rw [any_get longW s i c10 h]; rfl
    ·try simp at c33
     refine .skip ?_
     refine .regionL [0,1,2,3,4,5,6,7] rfl zz0 ?_
     refine .rn [0,1] [2,3,4,5,6,7] ?_
     refine .split (t := 35) rfl (fun c35 => ?_) (fun c35 => ?_)
     ·rw [c35]
      try simp at c35
      refine .rn [2,3,4,5,6,7] [] ?_
      refine .done ?_
      refine .rn ?_
      have h : longW s[i] = false := by unfold longW; simp; omega
      rw [h] at hA
      rw [c35] at hB
      refine ⟨(i + 1, decide ((s[i].slips.length : Int) ≤ 6)), ⟨zz5, by simpa using hA, by rw [hB]; simp; omega⟩, zz5,(.mk [] [] zz2 zz3 rfl rfl rfl)⟩
     ·rw [c35]
      try simp at c35
      refine .rn [2,3,4,5,6,7] [] ?_
      refine .done ?_
      refine .rn ?_
      have h : longW s[i] = false := by unfold longW; simp; omega
      rw [h] at hA
      rw [c35] at hB
      refine ⟨(i + 1, false), ⟨zz5, by simpa using hA, by simpa using hB⟩, zz5,(.mk [] [] zz2 zz3 rfl rfl rfl)⟩
 ·try simp at c10
  have hi2 : i = s.length := by omega
  subst hi2
  rw [List.take_length] at hr hr2
  have hlen : ∀ w ∈ s, w.slips.length < 4294967296 ∧ w.mended.length < 4294967296 ∧ w.models.length < 4294967296 := fun w hw => by
   rw [List.any_eq_false] at hr
   have := hr w hw
   unfold longW at this
   simp at this
   omega
  refine .exit ?_
  refine .seq ?_
  refine .regionL [0,1,2,3,4,5,6,7,8,9,10,11,12,13,14,15,16,17,18] rfl zz0 ?_
  refine .rn [0,1,2,3,4] [5,6,7,8,9,10,11,12,13,14,15,16,17,18] ?_
  refine .split (t := 45) rfl (fun c45 => ?_) (fun c45 => ?_)
  ·rw [c45]
   try simp at c45
   refine .rn [5,6,7] [8,9,10,11,12,13,14,15,16,17,18] ?_
   refine .split (t := 48) rfl (fun c48 => ?_) (fun c48 => ?_)
   ·rw [c48]
    try simp at c48
    refine .rn [8,9,10,11,12,13,14,15,16,17,18] [] ?_
    refine .done ?_
    refine .ret ?_
    refine ⟨_, _, zz4,zz4, ?_⟩
    have k : s.length ≤ 8 := by omega
    unfold fewS; rw [hr, hr2, c48]; simp [k]
   ·rw [c48]
    try simp at c48
    refine .rn [8,9,10,11,12] [13,14,15,16,17,18] ?_
    refine .split (t := 53) rfl (fun c53 => ?_) (fun c53 => ?_)
    ·rw [c53]
     try simp at c53
     refine .rn [13] [14,15,16,17,18] ?_
     refine .step rfl rfl (.pure rfl rfl rfl Tryz.call52 (by decide) (p52 s (by omega) hlen) (by first | rfl | simp [*]) ?_)
     rintro _ rfl
     refine .rn [15,16,17,18] [] ?_
     refine .done ?_
     refine .ret ?_
     refine ⟨_, _, zz4,zz4, ?_⟩
     have k : s.length ≤ 8 := by omega
     have k2 : s.length ≤ 40 := by omega
     unfold fewS; rw [hr, hr2, c48]; by_cases h : checkS s = 0 <;> simp [k, k2, h]
    ·rw [c53]
     try simp at c53
     refine .rn [13,14,15,16,17,18] [] ?_
     refine .done ?_
     refine .ret ?_
     refine ⟨_, _, zz4,zz4, ?_⟩
     exfalso; omega
  ·rw [c45]
   try simp at c45
   refine .rn [5,6,7,8,9,10,11,12] [13,14,15,16,17,18] ?_
   refine .split (t := 53) rfl (fun c53 => ?_) (fun c53 => ?_)
   ·rw [c53]
    try simp at c53
    refine .rn [13] [14,15,16,17,18] ?_
    refine .step rfl rfl (.pure rfl rfl rfl Tryz.call52 (by decide) (p52 s (by omega) hlen) (by first | rfl | simp [*]) ?_)
    rintro _ rfl
    refine .rn [15,16,17,18] [] ?_
    refine .done ?_
    refine .ret ?_
    refine ⟨_, _, zz4,zz4, ?_⟩
    have k : ¬ s.length ≤ 8 := by omega
    have k2 : s.length ≤ 40 := by omega
    unfold fewS; rw [hr]; by_cases h : checkS s = 0 <;> simp [k, k2, h]
   ·rw [c53]
    try simp at c53
    refine .rn [13,14,15,16,17,18] [] ?_
    refine .done ?_
    refine .ret ?_
    refine ⟨_, _, zz4,zz4, ?_⟩
    have k : ¬ s.length ≤ 8 := by omega
    have k2 : ¬ s.length ≤ 40 := by omega
    unfold fewS; rw [hr]; simp [k, k2]
end Go.Am.Ds
end

section
namespace Go.Am.Ds
open Go Go.Am Go.Proofs
set_option maxRecDepth 100000
set_option maxHeartbeats 4000000
set_option linter.unusedSimpArgs false
set_option linter.unusedVariables false
attribute [local simp] vrun vwanted vyielded vop veval vevals vparts vO vbuiltin vlen vappend velems vcopy vmakeSlice vbuildSlice valloc vbox vmakeMap vload vpartT vpart vstore vfieldAddr vfield vindexAddr vindex vextract vslice vsliceZ vbounds vbnd zeroO vidx vlookup vmget vmapUpdate vdelete vnilq vnilp vnils vbin vsc vsc1 vscs vscl abinOp aint ashift aunOp aconvert amaxs amax2 pvcV pvc pvcs tput tget vargs VHeap.get VHeap.alloc VHeap.put VHeap.drop VHeap.empty vlook vput vdrop psplice pfill preps chunk List.range List.range.loop vresults vresult vresultV frz frzL PV.isF PV.allF PV.scal PV.allS retP subT allFT PV.one PV.ids PV.idsL dropL beq_eq ble_dec blt_dec
theorem fewS_len {s : List Wit} (h : fewS s = true) : s.length < 4294967296 ∧ ∀ w ∈ s, w.slips.length < 4294967296 ∧ w.mended.length < 4294967296 ∧ w.models.length < 4294967296 := by
 unfold fewS at h
 simp only [Bool.and_eq_true, Bool.not_eq_true', Bool.or_eq_true, decide_eq_true_eq] at h
 refine ⟨by omega, fun w hw => ?_⟩
 have h1 := h.1
 rw [List.any_eq_false] at h1
 have := h1 w hw
 unfold longW at this
 simp at this
 omega
end Go.Am.Ds
end
