/-
 What is used in the proof of a statement (part DsX); no condition.
-/
import Derived.Test.YtnablaecbohhmaaGreatDsT
import Derived.Test.YtnablaecbohhmaaGreatVm2
import Derived.Test.YtnablaecbohhmaaGreatDsC
import Derived.Test.YtnablaecbohhmaaGreatDsG
import Derived.Test.YtnablaecbohhmaaGreatDsF
import Derived.Test.YtnablaecbohhmaaGreatDsS
set_option linter.all false
namespace Go.Am
open Go Go.Proofs
section
variable {P : Program} {N b : Nat} {vts : VTs} {vh : VHeap}
theorem VScr.rx {ops : Array Oper} {W todo : List Nat} {K : VTs → VHeap → Prop} {m : Nat} {r : List SItem} {o : Oper} {v : PV} (k : VScr P N b ops W K r (bif selfFree o then m :: todoF ops todo o.dst else todoF ops todo o.dst) (tput vts o.dst v) vh) (ho : ops[m]? = some o := by rfl) (hw : vwanted ops o vts = some true := by rfl) (hW : W.contains m = false := by decide) (hr : isR o.op = true := by rfl) (hd : dstOK N o.dst = true := by decide) (hv : vop P vts vh o.op = some (v, vh) := by simp [*] <;> first | exact ⟨rfl, rfl⟩ | exact rfl) : VScr P N b ops W K (.op m :: r) todo vts vh := .rd ho hw hW hr hd hv k
end
end Go.Am
section
namespace Go.Am.Ds
open Go Go.Am Go.Proofs
set_option maxHeartbeats 4000000
set_option linter.unusedSimpArgs false
set_option linter.unusedVariables false
attribute [local simp] vrun vwanted vyielded vop veval vevals vparts vO vbuiltin vlen vappend velems vcopy vmakeSlice vbuildSlice valloc vbox vmakeMap vload vpartT vpart vstore vfieldAddr vfield vindexAddr vindex vextract vslice vsliceZ vbounds vbnd zeroO vidx vlookup vmget vmapUpdate vdelete vnilq vnilp vnils vbin vsc vsc1 vscs vscl abinOp aint ashift aunOp aconvert amaxs amax2 pvcV pvc pvcs tput tget vargs VHeap.get VHeap.alloc VHeap.put VHeap.drop VHeap.empty vlook vput vdrop psplice pfill preps chunk List.range List.range.loop vresults vresult vresultV frz frzL PV.isF PV.allF PV.scal PV.allS retP subT allFT PV.one PV.ids PV.idsL dropL beq_eq ble_dec blt_dec
attribute [local simp] zW tup2
def atI (s : List Wit) (id : Int) (d : Wit) : Wit := (getW s id).getD d
end Go.Am.Ds
end
section
namespace Go.Am.Ds
open Go Go.Am Go.Proofs
set_option maxHeartbeats 4000000
set_option linter.unusedSimpArgs false
set_option linter.unusedVariables false
attribute [local simp] vrun vwanted vyielded vop veval vevals vparts vO vbuiltin vlen vappend velems vcopy vmakeSlice vbuildSlice valloc vbox vmakeMap vload vpartT vpart vstore vfieldAddr vfield vindexAddr vindex vextract vslice vsliceZ vbounds vbnd zeroO vidx vlookup vmget vmapUpdate vdelete vnilq vnilp vnils vbin vsc vsc1 vscs vscl abinOp aint ashift aunOp aconvert amaxs amax2 pvcV pvc pvcs tput tget vargs VHeap.get VHeap.alloc VHeap.put VHeap.drop VHeap.empty vlook vput vdrop psplice pfill preps chunk List.range List.range.loop vresults vresult vresultV frz frzL PV.isF PV.allF PV.scal PV.allS retP subT allFT PV.one PV.ids PV.idsL dropL beq_eq ble_dec blt_dec
attribute [local simp] zW tup2
theorem ariS_eq (c p : Wit) : ariS c p = c.slips.filter fun n => !decide (n ∈ p.slips) := by
 unfold ariS
 congr 1
 funext n
 simp [mem_setK]
theorem take_succ_filt (p : Int → Bool) (l : List Int) (i : Nat) (h : i < l.length) : (l.take (i + 1)).filter p = if p l[i] then (l.take i).filter p ++ [l[i]] else (l.take i).filter p := take_succ_filter p l i h
end Go.Am.Ds
end
section
namespace Go.Am.Ds
open Go Go.Am Go.Proofs
set_option maxHeartbeats 4000000
set_option linter.unusedSimpArgs false
set_option linter.unusedVariables false
attribute [local simp] vrun vwanted vyielded vop veval vevals vparts vO vbuiltin vlen vappend velems vcopy vmakeSlice vbuildSlice valloc vbox vmakeMap vload vpartT vpart vstore vfieldAddr vfield vindexAddr vindex vextract vslice vsliceZ vbounds vbnd zeroO vidx vlookup vmget vmapUpdate vdelete vnilq vnilp vnils vbin vsc vsc1 vscs vscl abinOp aint ashift aunOp aconvert amaxs amax2 pvcV pvc pvcs tput tget vargs VHeap.get VHeap.alloc VHeap.put VHeap.drop VHeap.empty vlook vput vdrop psplice pfill preps chunk List.range List.range.loop vresults vresult vresultV frz frzL PV.isF PV.allF PV.scal PV.allS retP subT allFT PV.one PV.ids PV.idsL dropL beq_eq ble_dec blt_dec
attribute [local simp] zW tup2
def frS (s : List Wit) (c : Wit) (b : Int) : List Int := if b = 0 then c.slips else ariS c (atI s b c)
end Go.Am.Ds
end
section
namespace Go.Am.Ds
open Go Go.Am Go.Proofs
set_option maxHeartbeats 4000000
set_option linter.unusedSimpArgs false
set_option linter.unusedVariables false
attribute [local simp] vrun vwanted vyielded vop veval vevals vparts vO vbuiltin vlen vappend velems vcopy vmakeSlice vbuildSlice valloc vbox vmakeMap vload vpartT vpart vstore vfieldAddr vfield vindexAddr vindex vextract vslice vsliceZ vbounds vbnd zeroO vidx vlookup vmget vmapUpdate vdelete vnilq vnilp vnils vbin vsc vsc1 vscs vscl abinOp aint ashift aunOp aconvert amaxs amax2 pvcV pvc pvcs tput tget vargs VHeap.get VHeap.alloc VHeap.put VHeap.drop VHeap.empty vlook vput vdrop psplice pfill preps chunk List.range List.range.loop vresults vresult vresultV frz frzL PV.isF PV.allF PV.scal PV.allS retP subT allFT PV.one PV.ids PV.idsL dropL beq_eq ble_dec blt_dec
attribute [local simp] zW tup2
theorem p108' (s : List Wit) (hl : s.length < 4294967296) : VPure Tryz.prog 108 [encS s] fun r => r = .tup [.vec ((chL s).map encC), .int .i64 (chE s)] := VPure.soft (p108 s hl) rfl
end Go.Am.Ds
end
section
namespace Go.Am.Ds
open Go Go.Am Go.Proofs

theorem checkL_nodup : ∀ {l : List Wit} {seen : List Int}, checkL l seen = 0 → (l.map Wit.id).Nodup ∧ ∀ w ∈ l, w.id ∉ seen
 | [], _, _ => ⟨.nil, fun w hw => by cases hw⟩
 | a :: r, seen, h => by
  simp only [checkL] at h
  split at h
  ·split at h
   ·simp at h
   ·rename_i hn
    obtain ⟨h1, h2⟩ := checkL_nodup h
    refine ⟨?_, fun w hw => ?_⟩
    ·rw [List.map_cons, List.nodup_cons]
     refine ⟨fun hm => ?_, h1⟩
     obtain ⟨w, hw, he⟩ := List.mem_map.1 hm
     exact h2 w hw ((mem_insU _ _ _).2 (.inr he))
    ·rcases List.mem_cons.1 hw with rfl | hw
     ·exact hn
     ·exact fun hs => h2 w hw ((mem_insU _ _ _).2 (.inl hs))
  ·rename_i h0; exact absurd h h0
theorem checkS_nodup {s : List Wit} (h : checkS s = 0) : (s.map Wit.id).Nodup := by
 unfold checkS at h
 split at h
 ·simp at h
 ·exact (checkL_nodup h).1
theorem checkS_pos {s : List Wit} (h : checkS s = 0) : ∀ w ∈ s, 0 < w.id := fun w hw => by
 have := (checkS_ok h).2 w hw
 unfold witE at this
 split at this
 ·cases this
 ·omega

theorem idsS_sorted {s : List Wit} (h : (s.map Wit.id).Nodup) : (idsS s).Pairwise (· < ·) := by
 unfold idsS
 have h1 := List.pairwise_mergeSort (le := fun x y : Int => decide (x ≤ y)) (fun a b c h1 h2 => by simp only [decide_eq_true_eq] at *; omega) (fun a b => by simp only [Bool.or_eq_true, decide_eq_true_eq]; omega) (s.map Wit.id)
 have h2 : ((s.map Wit.id).mergeSort fun x y => decide (x ≤ y)).Nodup := (List.mergeSort_perm _ _).nodup_iff.2 h
 have h3 := h1.and h2
 exact h3.imp fun ⟨h4, h5⟩ => by
  simp only [decide_eq_true_eq] at h4
  rcases Int.lt_or_eq_of_le h4 with h6 | h6
  ·exact h6
  ·exact absurd h6 h5
theorem stepP_some {s : List Wit} {c : Wit} {id : Int} {y : Int × Int} : stepP s c id = some y ↔ ∃ p, getW s id = some p ∧ (whyP c p).1 = 0 ∧ y = (id, ((ariS c p).length : Int)) := by
 unfold stepP
 cases hg : getW s id with
 | none => simp
 | some p =>
  simp only
  by_cases h : (whyP c p).1 = 0
  ·rw [if_pos h]
   constructor
   ·intro h2; injection h2 with h2; exact ⟨p, rfl, h, h2.symm⟩
   ·rintro ⟨q, h2, _, h3⟩; injection h2 with h2; subst h2; rw [h3]
  ·rw [if_neg h]
   constructor
   ·intro h2; cases h2
   ·rintro ⟨q, h2, h3, _⟩; injection h2 with h2; subst h2; exact absurd h3 h
theorem parS_mem {s : List Wit} {c : Wit} {y : Int × Int} : y ∈ parS s c ↔ (y = (0,(c.slips.length : Int)) ∧ lastS c 0 = 0) ∨ ∃ p, y.1 ∈ idsS s ∧ getW s y.1 = some p ∧ (whyP c p).1 = 0 ∧ y.2 = ((ariS c p).length : Int) := by
 unfold parS
 rw [List.mem_append, List.mem_filterMap]
 have h0 : y ∈ headP c ↔ y = (0,(c.slips.length : Int)) ∧ lastS c 0 = 0 := by
  unfold headP
  split
  ·rename_i h; simp [h]
  ·rename_i h; simp [h]
 rw [h0]
 constructor
 ·rintro (h | ⟨id, h1, h2⟩)
  ·exact .inl h
  ·obtain ⟨p, h3, h4, h5⟩ := stepP_some.1 h2
   subst h5
   exact .inr ⟨p, h1, h3, h4, rfl⟩
 ·rintro (h | ⟨p, h1, h2, h3, h4⟩)
  ·exact .inl h
  ·exact .inr ⟨y.1, h1, stepP_some.2 ⟨p, h2, h3, Prod.ext rfl h4⟩⟩
theorem fold_spec : ∀ (l : List (Int × Int)) (d : List (Int × Int)) (x : List Int × Int),(d = [] ∧ x.1 = [] ∨ x.1 ≠ [] ∧ (∀ y ∈ d, x.2 ≤ y.2) ∧ ∃ y ∈ d, y.2 = x.2) →
  (d ++ l = [] ∧ (l.foldl stepC x).1 = [] ∨ (l.foldl stepC x).1 ≠ [] ∧ (∀ y ∈ d ++ l, (l.foldl stepC x).2 ≤ y.2) ∧ ∃ y ∈ d ++ l, y.2 = (l.foldl stepC x).2)
 | [], d, x, h => by simpa using h
 | y :: r, d, x, h => by
  have ih := fold_spec r (d ++ [y]) (stepC x y) (.inr (by
   unfold stepC
   split
   ·rename_i h1
    rcases h with ⟨_, h2⟩ | ⟨h2, h3, z, h4, h5⟩
    ·exact absurd h2 h1.1
    ·refine ⟨h2, fun w hw => ?_, z, List.mem_append_left _ h4, h5⟩
     rcases List.mem_append.1 hw with hw | hw
     ·exact h3 w hw
     ·rw [List.mem_singleton] at hw; rw [hw]; omega
   ·rename_i h1
    split
    ·rename_i h2
     refine ⟨by simp, fun w hw => ?_, y, by simp, rfl⟩
     rcases List.mem_append.1 hw with hw | hw
     ·rcases h with ⟨h3, _⟩ | ⟨h3, h4, _⟩
      ·rw [h3] at hw; cases hw
      ·rcases h2 with h2 | h2
       ·exact absurd h2 h3
       ·have := h4 w hw; simp only; omega
     ·rw [List.mem_singleton] at hw; rw [hw]; exact Int.le_refl _
    ·rename_i h2
     have h3 : x.1 ≠ [] := fun h4 => h2 (.inl h4)
     have h4 : ¬ y.2 < x.2 := fun h4 => h2 (.inr h4)
     have h5 : ¬ x.2 < y.2 := fun h5 => h1 ⟨h3, h5⟩
     rcases h with ⟨_, h6⟩ | ⟨_, h7, z, h8, h9⟩
     ·exact absurd h6 h3
     ·refine ⟨by simp, fun w hw => ?_, z, List.mem_append_left _ h8, h9⟩
      rcases List.mem_append.1 hw with hw | hw
      ·exact h7 w hw
      ·rw [List.mem_singleton] at hw; rw [hw]; simp only; omega))
  rw [List.append_assoc, List.singleton_append] at ih
  rw [List.foldl_cons]
  exact ih
theorem choF_spec (s : List Wit) (c : Wit) : (parS s c = [] ∧ (choF s c).1 = []) ∨ ((choF s c).1 ≠ [] ∧ (∀ y ∈ parS s c, (choF s c).2 ≤ y.2) ∧ ∃ y ∈ parS s c, y.2 = (choF s c).2) := by
 have := fold_spec (parS s c) [] ([],0) (.inl ⟨rfl, rfl⟩)
 simpa [choF] using this
theorem parS_fr {s : List Wit} (h : checkS s = 0) {c : Wit} {y : Int × Int} (hy : y ∈ parS s c) : y.2 = ((frS s c y.1).length : Int) := by
 rcases parS_mem.1 hy with ⟨rfl, _⟩ | ⟨p, h1, h2, _, h4⟩
 ·simp [frS]
 ·obtain ⟨hp, hpi⟩ := getW_mem h2
  have h0 : y.1 ≠ 0 := by have := checkS_pos h p hp; omega
  rw [h4, frS, if_neg h0, atI, h2]; rfl
end Go.Am.Ds
end
section
namespace Go.Am.Ds
open Go Go.Am Go.Proofs
set_option maxRecDepth 100000
set_option maxHeartbeats 4000000
set_option linter.unusedSimpArgs false
set_option linter.unusedVariables false
attribute [local simp] vrun vwanted vyielded vop vopA vputAll VHeap.back hidI hidF backL bm Nat.testBit_eq_decide_div_mod_eq veval vevals vparts vO vbuiltin vlen vappend velems vcopy vmakeSlice vbuildSlice valloc vbox vmakeMap vload vpartT vpart vstore vfieldAddr vfield vindexAddr vindex vextract vslice vsliceZ vbounds vbnd zeroO vidx vlookup vmget vmapUpdate vdelete vclear vnilq vnilp vnils vbin vsc vsc1 vscs vscl abinOp aint ashift aunOp aconvert amaxs amax2 pvcV pvc pvcs tput tget vargs VHeap.get VHeap.alloc VHeap.put VHeap.drop VHeap.empty vlook vput vdrop psplice pfill preps chunk List.range List.range.loop vresults vresult vresultV frz frzL PV.isF PV.allF PV.scal PV.allS retP subT allFT PV.one PV.ids PV.idsL dropL beq_eq ble_dec blt_dec
def longT (w : Wit) : Bool := decide (8 < w.slips.length) || decide (30 < w.mended.length) || decide (24 < w.models.length)
def smallS (s : List Wit) : Bool := !(s.any longT) && decide (s.length ≤ 12)
def parR (s : List Wit) (id : Int) : PV := match getW s id with
 | some p => .vp (encW p).cells
 | none => .ptr0
theorem parR_none {s : List Wit} {id : Int} (h : getW s id = none) : parR s id = .ptr0 := by unfold parR; rw [h]
theorem parR_some {s : List Wit} {id : Int} {p : Wit} (h : getW s id = some p) : parR s id = .vp (encW p).cells := by unfold parR; rw [h]
def stepD (s : List Wit) (c : Wit) (id : Int) : Option Int := match getW s id with
 | none => if id = 0 ∧ lastS c 0 = 0 then some (c.slips.length : Int) else none
 | some p => if (whyP c p).1 = 0 then some ((ariS c p).length : Int) else none
def desL (s : List Wit) (l : List Int) : List (Option Int) := (s.zip l).map fun x => stepD s x.1 x.2
def desP (s : List Wit) (l : List Int) (k : Nat) : Int := (((desL s l).take k).map (·.getD 0)).sum
def desR (s : List Wit) (l : List Int) : Int × Bool := if l.length = s.length ∧ (desL s l).all Option.isSome = true then (desP s l s.length, true) else (0, false)
theorem desL_get (s : List Wit) (l : List Int) (k : Nat) (h : k < s.length) (h2 : k < l.length) : ∃ h3 : k < (desL s l).length, (desL s l)[k] = stepD s s[k] l[k] := by
 refine ⟨by simp [desL]; omega, by simp [desL]⟩
theorem desP_succ (s : List Wit) (l : List Int) (k : Nat) (h : k < s.length) (h2 : k < l.length) : desP s l (k + 1) = desP s l k + (stepD s s[k] l[k]).getD 0 := by
 obtain ⟨h3, h4⟩ := desL_get s l k h h2
 unfold desP
 rw [List.take_succ_eq_append_getElem h3, h4]; simp
theorem desA_succ (s : List Wit) (l : List Int) (k : Nat) (h : k < s.length) (h2 : k < l.length) : ((desL s l).take (k + 1)).all Option.isSome = (((desL s l).take k).all Option.isSome && (stepD s s[k] l[k]).isSome) := by
 obtain ⟨h3, h4⟩ := desL_get s l k h h2
 rw [take_succ_all _ _ _ h3, h4]
theorem ariS_len (c p : Wit) : (ariS c p).length ≤ c.slips.length := by unfold ariS; exact List.length_filter_le _ _
theorem stepD_bd (s : List Wit) (c : Wit) (id : Int) : 0 ≤ (stepD s c id).getD 0 ∧ (stepD s c id).getD 0 ≤ (c.slips.length : Int) := by
 unfold stepD
 cases getW s id with
 | none => simp only; split <;> simp
 | some p =>
  simp only; have := ariS_len c p
  split <;> simp <;> omega
theorem desP_bd (s : List Wit) (l : List Int) (hli : ∀ w ∈ s, w.slips.length < 4294967296 ∧ w.mended.length < 4294967296 ∧ w.models.length < 4294967296) (he : l.length = s.length) : ∀ k, k ≤ s.length → 0 ≤ desP s l k ∧ desP s l k ≤ (k : Int) * 4294967296
 | 0, _ => by simp [desP]
 | k + 1, h => by
  have h1 := desP_bd s l hli he k (by omega)
  rw [desP_succ s l k (by omega) (by omega)]
  have h2 := stepD_bd s s[k] l[k]
  have h3 := (hli s[k] (List.getElem_mem (by omega))).1
  constructor
  ·omega
  ·push_cast; omega
theorem desR_none {s : List Wit} {l : List Int} {k : Nat} (h : k < s.length) (h2 : k < l.length) (hN : stepD s s[k] l[k] = none) : desR s l = (0, false) := by
 obtain ⟨h3, h4⟩ := desL_get s l k h h2
 unfold desR
 rw [if_neg]
 rintro ⟨_, ha⟩
 have := List.all_eq_true.1 ha _ (List.getElem_mem h3)
 rw [h4, hN] at this; cases this
theorem p21 (s : List Wit) (hl : s.length < 4611686018427387904) : VPure Tryz.prog 21 [encS s] fun r => r = .bool (smallS s) := by
 refine .of_body Tryz.func21 rfl rfl ?_
 refine .seq ?_
 refine .rn ?_
 refine .seq ?_
 refine .seq ?_
 refine .rn ?_
 refine .block ?_
 refine .loopS (fun i : Nat => ([(1, .ptr 0 0),(3, .int .i64 i)], ⟨1,[(0, .box [.vec (s.map encW)])]⟩)) (fun i => i ≤ s.length ∧ (s.take i).any longT = false) (fun i => s.length - i) 0 (by simp) (.mk [] [] zz14 zz15 rfl rfl rfl) ?_
 rintro i ⟨hi, hr⟩
 simp only at hi hr ⊢
 refine .seq ?_
 refine .seq ?_
 refine .rn ?_
 refine .condS rfl (fun c8 => ?_) (fun c8 => ?_)
 ·try simp at c8
  have hw2 : IntKind.i64.wrap ((i : Int) + 1) = (i : Int) + 1 := wrap64 (by omega) (by omega)
  have hA := take_succ_any longT s i c8
  rw [hr] at hA
  refine .skip ?_
  refine .seq ?_
  refine .block ?_
  refine .seq ?_
  refine .regionL [0,1,2,3,4,5,6,7,8,9,10,11,12,13,14,15,16,17,18,19,20,21,22,23,24,25,26,27] rfl zz0 ?_
  refine .rn [0,1,2,3,4,5,6,7,8] [9,10,11,12,13,14,15,16,17,18,19,20,21,22,23,24,25,26,27] ?_
  refine .split (t := 19) rfl (fun c19 => ?_) (fun c19 => ?_)
  ·try rw [c19]
   try simp at c19
   refine .rn [9,10,11,12,13,14,15,16,17,18,19,20,21,22,23,24,25,26,27] [] ?_
   refine .done ?_
   refine .condT rfl ?_
   refine .seq ?_
   refine .rn ?_
   refine .ret ?_
   refine ⟨_, _, zz4,zz4, ?_⟩
   have h : longT s[i] = true := by unfold longT; simp; omega
   unfold smallS; rw [any_get longT s i c8 h]; rfl
  ·try rw [c19]
   try simp at c19
   refine .rn [9,10,11,12,13,14,15,16,17,18] [19,20,21,22,23,24,25,26,27] ?_
   refine .split (t := 29) rfl (fun c29 => ?_) (fun c29 => ?_)
   ·try rw [c29]
    try simp at c29
    refine .rn [19,20,21,22,23,24,25,26,27] [] ?_
    refine .done ?_
    refine .condT rfl ?_
    refine .seq ?_
    refine .rn ?_
    refine .ret ?_
    refine ⟨_, _, zz4,zz4, ?_⟩
    have h : longT s[i] = true := by unfold longT; simp; omega
    unfold smallS; rw [any_get longT s i c8 h]; rfl
   ·try rw [c29]
    try simp at c29
    refine .rn [19,20,21,22,23,24,25,26,27] [] ?_
    refine .done ?_
    refine .condS rfl (fun c38 => ?_) (fun c38 => ?_)
    ·try simp at c38
     refine .seq ?_
     refine .rn ?_
     refine .ret ?_
     refine ⟨_, _, zz4,zz4, ?_⟩
     have h : longT s[i] = true := by unfold longT; simp; omega
     unfold smallS; rw [any_get longT s i c8 h]; rfl
    ·try simp at c38
     refine .skip ?_
     refine .rn ?_
     have h : longT s[i] = false := by unfold longT; simp; omega
     rw [h] at hA
     refine ⟨i + 1, ⟨zz5, by simpa using hA⟩, zz5,(.mk [] [] zz14 zz15 rfl rfl rfl)⟩
 ·try simp at c8
  have hi2 : i = s.length := by omega
  subst hi2
  rw [List.take_length] at hr
  refine .exit ?_
  refine .seq ?_
  refine .rn ?_
  refine .ret ?_
  refine ⟨_, _, zz4,zz4, ?_⟩
  unfold smallS; rw [hr]; simp; omega
theorem p173 (s : List Wit) (id : Int) (hl : s.length < 4294967296) : VPure Tryz.prog 173 [encS s, .int .i64 id] fun r => r = parR s id := by
 refine .of_body Tryz.func173 rfl rfl ?_
 refine .seq ?_
 refine .rn ?_
 refine .seq ?_
 refine .seq ?_
 refine .regionL [0,1,2,3] rfl zz0 ?_
 refine .rn [0,1] [2,3] ?_
 refine .step rfl rfl (.pure rfl rfl rfl Tryz.call105 (by decide) (p105' s id hl) (by first | rfl | simp [*]) ?_)
 rintro _ rfl
 refine .rn [3] [] ?_
 refine .done ?_
 refine .seq ?_
 refine .rn ?_
 refine .condS rfl (fun c10 => ?_) (fun c10 => ?_)
 ·try simp at c10
  obtain ⟨i, hi, hie, hga⟩ := getW_some c10
  refine .seq ?_
  refine .rn ?_
  refine .ret ?_
  refine ⟨_, _, zz4,zz4, ?_⟩
  rw [parR_some hga]; rfl
 ·try simp at c10
  have hn := getW_none (show findI s id < 0 by omega)
  refine .skip ?_
  refine .seq ?_
  refine .rn ?_
  refine .ret ?_
  refine ⟨_, _, zz4,zz4, ?_⟩
  rw [parR_none hn]
theorem p132 (s : List Wit) (l : List Int) (hl : s.length < 65536) (hlL : l.length < 4611686018427387904) (hli : ∀ w ∈ s, w.slips.length < 4294967296 ∧ w.mended.length < 4294967296 ∧ w.models.length < 4294967296) : VPure Tryz.prog 132 [encS s, ints l] fun r => r = .tup [.int .i64 (desR s l).1, .bool (desR s l).2] := by
 refine .of_body Tryz.func132 rfl rfl ?_
 refine .seq ?_
 refine .rn ?_
 refine .seq ?_
 refine .seq ?_
 refine .rn ?_
 refine .condS rfl (fun c17 => ?_) (fun c17 => ?_)
 ·try simp at c17
  refine .seq ?_
  refine .rn ?_
  refine .ret ?_
  refine ⟨_, _, zz4,zz4, ?_⟩
  rw [desR, if_neg (by rintro ⟨h, _⟩; omega)]
 ·try simp at c17
  have he : l.length = s.length := by omega
  refine .skip ?_
  refine .seq ?_
  refine .rn ?_
  refine .seq ?_
  refine .seq ?_
  refine .rn ?_
  refine .block ?_
  refine .loopS (fun k : Nat => ([(1, ints l),(2, .ptr 0 0),(6, .int .i64 (desP s l k)),(19, .vec (s.map encW)),(20, .int .i64 s.length),(21, .int .i64 k)], ⟨1,[(0, .box [.vec (s.map encW)])]⟩)) (fun k => k ≤ s.length ∧ ((desL s l).take k).all Option.isSome = true) (fun k => s.length - k) 0 (by simp) (.mk [] [] zz14 zz15 rfl rfl rfl) ?_
  rintro k ⟨hk, hal⟩
  simp only at hk hal ⊢
  refine .seq ?_
  refine .rn ?_
  refine .seq ?_
  refine .condS rfl (fun c22 => ?_) (fun c22 => ?_)
  ·try simp at c22
   have hw2 : IntKind.i64.wrap ((k : Int) + 1) = (k : Int) + 1 := wrap64 (by omega) (by omega)
   have hkl : k < l.length := by omega
   obtain ⟨hw1, hw3, hw4⟩ := hli s[k] (List.getElem_mem c22)
   have hbd := desP_bd s l hli he k hk
   have hbd2 := stepD_bd s s[k] l[k]
   have hS := desP_succ s l k c22 hkl
   have hA := desA_succ s l k c22 hkl
   have hW3 : ∀ x : Int, 0 ≤ x → x ≤ 4294967296 → IntKind.i64.wrap (desP s l k + x) = desP s l k + x := fun x h1 h2 => wrap64 (by omega) (by omega)
   have hE : encW s[k] = .agg [.int .i64 s[k].id, .int .i64 s[k].known, ints s[k].slips, ints s[k].mended, ints s[k].models, .int .i64 s[k].lo, .int .i64 s[k].hi] := rfl
   rcases hg : getW s l[k] with _ | p
   ·skip
    refine .skip ?_
    refine .seq ?_
    refine .block ?_
    refine .seq ?_
    refine .rn ?_
    refine .seq ?_
    refine .drawn (ms := [0,0,0,6,14,31,63]) (W := [5]) (items := [.op 0, .op 1, .op 2, .op 3, .op 4, .op 5, .op 6]) rfl zz0 zz0 zz0 ?_
    refine .rx ?_
    refine .rx ?_
    refine .rx ?_
    refine .rx ?_
    refine .rx ?_
    refine .wr rfl rfl (by decide) (.pure rfl rfl rfl Tryz.call173 (by decide) ((by have h := p173 s l[k] (by omega); rw [parR_none hg] at h; exact h)) (by first | rfl | simp [*]) ?_)
    rintro _ rfl
    refine .rx ?_
    refine .done ?_
    refine .seq ?_
    refine .seq ?_
    refine .regionL [0,1,2,3,4,5,6,7,8] rfl zz0 ?_
    refine .rn [0,1,2] [3,4,5,6,7,8] ?_
    refine .split (t := 34) rfl (fun c34 => ?_) (fun c34 => ?_)
    ·try rw [c34]
     try simp at c34
     refine .rn [3,4,5,6,7,8] [] ?_
     refine .done ?_
     refine .condS rfl (fun c40 => ?_) (fun c40 => ?_)
     ·try simp at c40
      have hN : stepD s s[k] l[k] = none := by simp only [stepD, hg]; rw [if_neg (fun h => c40 h.1)]
      refine .seq ?_
      refine .rn ?_
      refine .ret ?_
      refine ⟨_, _, zz4,zz4, ?_⟩
      rw [desR_none c22 hkl hN]
     ·try simp at c40
      refine .skip ?_
      refine .seq ?_
      refine .seq ?_
      refine .regionL [0,1,2,3,4,5,6,7] rfl zz0 ?_
      refine .rn [0,1] [2,3,4,5,6,7] ?_
      refine .step rfl rfl (.pure rfl rfl rfl Tryz.call101 (by decide) (p101a s[k] hw4) (by first | rfl | simp [*]) ?_)
      rintro _ rfl
      refine .rn [3,4,5,6,7] [] ?_
      refine .done ?_
      refine .seq ?_
      refine .rn ?_
      refine .condS rfl (fun c48 => ?_) (fun c48 => ?_)
      ·try simp at c48
       have hN : stepD s s[k] l[k] = none := by simp only [stepD, hg]; rw [if_neg (fun h => c48 h.2)]
       refine .seq ?_
       refine .rn ?_
       refine .ret ?_
       refine ⟨_, _, zz4,zz4, ?_⟩
       rw [desR_none c22 hkl hN]
      ·try simp at c48
       have hN : stepD s s[k] l[k] = some (s[k].slips.length : Int) := by simp only [stepD, hg]; rw [if_pos ⟨c40, c48⟩]
       rw [hN] at hS hA
       simp only [Option.getD_some] at hS
       have hW4 := hW3 (s[k].slips.length : Int) (by omega) (by omega)
       refine .skip ?_
       refine .regionL [0,1,2,3,4,5,6] rfl zz0 ?_
       refine .rn [0,1,2] [3,4,5,6] ?_
       refine .step rfl rfl (.pure rfl rfl rfl Tryz.call109 (by decide) (p109a s[k]) (by first | rfl | simp [*]) ?_)
       rintro _ rfl
       refine .rn [4,5,6] [] ?_
       refine .done ?_
       refine .rn ?_
       refine ⟨k + 1, ⟨zz5, by rw [hA]; simpa using hal⟩, zz5,(.mk [] [] zz14 zz15 rfl rfl rfl)⟩
    ·try rw [c34]
     try simp at c34
   ·skip
    refine .skip ?_
    refine .seq ?_
    refine .block ?_
    refine .seq ?_
    refine .rn ?_
    refine .seq ?_
    refine .drawn (ms := [0,0,0,6,14,31,63]) (W := [5]) (items := [.op 0, .op 1, .op 2, .op 3, .op 4, .op 5, .op 6]) rfl zz0 zz0 zz0 ?_
    refine .rx ?_
    refine .rx ?_
    refine .rx ?_
    refine .rx ?_
    refine .rx ?_
    refine .wr rfl rfl (by decide) (.pure rfl rfl rfl Tryz.call173 (by decide) ((by have h := p173 s l[k] (by omega); rw [parR_some hg] at h; exact h)) (by first | rfl | simp [*]) ?_)
    rintro _ rfl
    refine .rx ?_
    refine .done ?_
    refine .seq ?_
    refine .seq ?_
    refine .regionL [0,1,2,3,4,5,6,7,8] rfl zz0 ?_
    refine .rn [0,1,2] [3,4,5,6,7,8] ?_
    refine .split (t := 34) rfl (fun c34 => ?_) (fun c34 => ?_)
    ·try rw [c34]
     try simp at c34
    ·try rw [c34]
     try simp at c34
     have hp := (getW_mem hg).1
     have hp1 := (hli p hp).1
     refine .rn [3,4,5,6,7,8] [] ?_
     refine .done ?_
     refine .condF rfl ?_
     refine .skip ?_
     refine .seq ?_
     refine .seq ?_
     refine .regionL [0,1,2,3,4,5,6,7] rfl zz0 ?_
     refine .rn [0,1] [2,3,4,5,6,7] ?_
     refine .step rfl rfl (.pure rfl rfl rfl Tryz.call101 (by decide) (p101b s[k] p hw1 hw3 hw4 hp1) (by first | rfl | simp [*]) ?_)
     rintro _ rfl
     refine .rn [3,4,5,6,7] [] ?_
     refine .done ?_
     refine .seq ?_
     refine .rn ?_
     refine .condS rfl (fun c48 => ?_) (fun c48 => ?_)
     ·try simp at c48
      have hN : stepD s s[k] l[k] = none := by simp only [stepD, hg]; rw [if_neg c48]
      refine .seq ?_
      refine .rn ?_
      refine .ret ?_
      refine ⟨_, _, zz4,zz4, ?_⟩
      rw [desR_none c22 hkl hN]
     ·try simp at c48
      have hN : stepD s s[k] l[k] = some ((ariS s[k] p).length : Int) := by simp only [stepD, hg]; rw [if_pos c48]
      rw [hN] at hS hA
      simp only [Option.getD_some] at hS
      have har := ariS_len s[k] p
      have hW4 := hW3 ((ariS s[k] p).length : Int) (by omega) (by omega)
      refine .skip ?_
      refine .regionL [0,1,2,3,4,5,6] rfl zz0 ?_
      refine .rn [0,1,2] [3,4,5,6] ?_
      refine .step rfl rfl (.pure rfl rfl rfl Tryz.call109 (by decide) (p109 s[k] p hw1 hp1) (by first | rfl | simp [*]) ?_)
      rintro _ rfl
      refine .rn [4,5,6] [] ?_
      refine .done ?_
      refine .rn ?_
      refine ⟨k + 1, ⟨zz5, by rw [hA]; simpa using hal⟩, zz5,(.mk [] [] zz14 zz15 rfl rfl rfl)⟩
  ·try simp at c22
   have hk2 : k = s.length := by omega
   subst hk2
   refine .exit ?_
   refine .seq ?_
   refine .rn ?_
   refine .ret ?_
   refine ⟨_, _, zz4,zz4, ?_⟩
   have hall : (desL s l).all Option.isSome = true := by
    rw [List.take_of_length_le (by simp [desL]; omega)] at hal
    simpa using hal
   rw [desR, if_pos ⟨he, hall⟩]
end Go.Am.Ds
end
section
namespace Go.Am.Ds
open Go Go.Am Go.Proofs
set_option maxRecDepth 100000
set_option maxHeartbeats 4000000
set_option linter.unusedSimpArgs false
set_option linter.unusedVariables false
attribute [local simp] vrun vwanted vyielded vop vopA vputAll VHeap.back hidI hidF backL bm Nat.testBit_eq_decide_div_mod_eq veval vevals vparts vO vbuiltin vlen vappend velems vcopy vmakeSlice vbuildSlice valloc vbox vmakeMap vload vpartT vpart vstore vfieldAddr vfield vindexAddr vindex vextract vslice vsliceZ vbounds vbnd zeroO vidx vlookup vmget vmapUpdate vdelete vclear vnilq vnilp vnils vbin vsc vsc1 vscs vscl abinOp aint ashift aunOp aconvert amaxs amax2 pvcV pvc pvcs tput tget vargs VHeap.get VHeap.alloc VHeap.put VHeap.drop VHeap.empty vlook vput vdrop psplice pfill preps chunk List.range List.range.loop vresults vresult vresultV frz frzL PV.isF PV.allF PV.scal PV.allS retP subT allFT PV.one PV.ids PV.idsL dropL beq_eq ble_dec blt_dec
def bestP (s : List Wit) : List Int := (chL s).map fun c => c.1.headD 0
def bestS (s : List Wit) (k : Nat) : Int := (((chL s).take k).map (·.2)).sum
theorem chL_ok {s : List Wit} (h : chE s = 0) : chL s = s.map (choF s) := by unfold chL; rw [if_pos h]
theorem chE_ok {s : List Wit} (h : chE s = 0) : checkS s = 0 ∧ ∀ c ∈ s, (choF s c).1 ≠ [] := by
 unfold chE at h
 split at h
 ·split at h
  ·cases h
  ·rename_i h1 h2; exact ⟨h1, fun c hc h3 => h2 ⟨c, hc, h3⟩⟩
 ·contradiction
theorem choF_bd {s : List Wit} {c : Wit} (h : (choF s c).1 ≠ []) : 0 ≤ (choF s c).2 ∧ (choF s c).2 ≤ (c.slips.length : Int) := by
 rcases choF_spec s c with ⟨_, h1⟩ | ⟨_, _, y, hy, h2⟩
 ·exact absurd h1 h
 ·rcases parS_mem.1 hy with ⟨rfl, _⟩ | ⟨p, _, _, _, h4⟩
  ·simp only at h2; omega
  ·have := ariS_len c p; omega
theorem chL_get {s : List Wit} (h : chE s = 0) {k : Nat} (hk : k < (chL s).length) : ∃ a r d, (chL s)[k] = (a :: r, d) ∧ 0 ≤ d ∧ d < 4294967296 := by
 obtain ⟨h1, h2⟩ := chE_ok h
 have aux : ∀ x ∈ chL s, ∃ c ∈ s, choF s c = x := fun x hx => by rw [chL_ok h] at hx; exact List.mem_map.1 hx
 obtain ⟨c, hc, he⟩ := aux _ (List.getElem_mem hk)
 have h3 := h2 c hc
 have h4 := choF_bd h3
 have h5 := (checkS_lens h1 c hc).1
 cases h6 : (choF s c).1 with
 | nil => exact absurd h6 h3
 | cons a r => exact ⟨a, r, (choF s c).2, by rw [← he, ← h6], h4.1, by omega⟩
theorem chL_len {s : List Wit} (h : chE s = 0) : (chL s).length = s.length := by rw [chL_ok h]; simp
theorem bestS_succ (s : List Wit) (k : Nat) (hk : k < (chL s).length) : bestS s (k + 1) = bestS s k + (chL s)[k].2 := by
 unfold bestS; rw [List.take_succ_eq_append_getElem hk, List.map_append, List.sum_append]; simp only [List.map_cons, List.map_nil, List.sum_cons, List.sum_nil]; omega
theorem bestS_bd {s : List Wit} (h : chE s = 0) : ∀ k, k ≤ (chL s).length → 0 ≤ bestS s k ∧ bestS s k ≤ (k : Int) * 4294967296
 | 0, _ => by simp [bestS]
 | k + 1, hk => by
  have h1 := bestS_bd h k (by omega)
  obtain ⟨a, r, d, he, h2, h3⟩ := chL_get h (show k < (chL s).length by omega)
  rw [bestS_succ s k (by omega), he]
  constructor
  ·omega
  ·push_cast; omega
theorem p63 (s : List Wit) (hl : s.length < 65536) : VPure Tryz.prog 63 [encS s] fun r => Soft r (.tup [.agg [ints (bestP s), .int .i64 (bestS s (chL s).length)], .int .i64 (chE s)]) := by
 refine .of_body Tryz.func63 rfl rfl ?_
 refine .seq ?_
 refine .rn ?_
 refine .seq ?_
 refine .regionL [0,1,2,3,4,5,6] rfl zz0 ?_
 refine .rn [0] [1,2,3,4,5,6] ?_
 refine .step rfl rfl (.pure rfl rfl rfl Tryz.call108 (by decide) (p108' s (by omega)) (by first | rfl | simp [*]) ?_)
 rintro _ rfl
 refine .rn [2,3,4,5,6] [] ?_
 refine .done ?_
 refine .seq ?_
 refine .seq ?_
 refine .rn ?_
 refine .condS rfl (fun c15 => ?_) (fun c15 => ?_)
 ·try simp at c15
  refine .seq ?_
  refine .rn ?_
  refine .ret ?_
  refine ⟨_, _, zz4,zz4, ?_⟩
  have e2 : chL s = [] := by unfold chL; rw [if_neg c15]
  have e3 : bestP s = [] := by unfold bestP; rw [e2]; rfl
  have e4 : bestS s (chL s).length = 0 := by unfold bestS; rw [e2]; rfl
  rw [e3, e4]
  exact soft_tup (AltL.cons (.agg' (.cons .sl0v (.cons (.same _ rfl) .nil))) (AltL.cons (.same _ rfl) AltL.nil))
 ·try simp at c15
  refine .skip ?_
  refine .seq ?_
  refine .rn ?_
  refine .seq ?_
  refine .seq ?_
  refine .rn ?_
  refine .block ?_
  refine .loopS (fun k : Nat => ([(2, .ptr 1 0),(6, .ptr 2 0),(18, .vec ((chL s).map encC)),(19, .int .i64 (chL s).length),(20, .int .i64 k)], ⟨4,[(3, .grow 1 (((bestP s).take k).map (.int .i64))),(2, .box [.grow 3 k true, .int .i64 (bestS s k)]),(1, .box [.sl0, .int .i64 0]),(0, .box [.vec (s.map encW)])]⟩)) (fun k => k ≤ (chL s).length) (fun k => (chL s).length - k) 0 (by simp) (.mk [] [] zz14 zz15 rfl rfl rfl) ?_
  rintro k hk
  simp only at hk ⊢
  refine .seq ?_
  refine .rn ?_
  refine .seq ?_
  refine .condS rfl (fun c21 => ?_) (fun c21 => ?_)
  ·try simp at c21
   have hcl : (chL s).length < 65536 := by have := chL_len c15; omega
   have hw2 : IntKind.i64.wrap ((k : Int) + 1) = (k : Int) + 1 := wrap64 (by omega) (by omega)
   obtain ⟨a, r, d, hc, hd1, hd2⟩ := chL_get c15 c21
   have hE : encC (a :: r, d) = .agg [ints (a :: r), .int .i64 d] := rfl
   have hS := bestS_succ s k c21
   rw [hc] at hS
   simp only at hS
   have hbd := bestS_bd c15 k hk
   have hW4 : IntKind.i64.wrap (bestS s k + d) = bestS s k + d := wrap64 (by omega) (by omega)
   have hT : (bestP s).take (k + 1) = (bestP s).take k ++ [a] := by
    have h1 : k < (bestP s).length := by simpa [bestP] using c21
    rw [List.take_succ_eq_append_getElem h1]; simp [bestP, hc]
   have hln : min k (bestP s).length = k := by simp [bestP]; omega
   have hT2 : List.take (k + 1) (List.map (PV.int .i64) (bestP s)) = List.take k (List.map (PV.int .i64) (bestP s)) ++ [.int .i64 a] := by rw [← List.map_take, hT]; simp
   have hb : k + 1 ≤ 4294967296 := by omega
   refine .skip ?_
   refine .seq ?_
   refine .block ?_
   refine .seq ?_
   refine .rn ?_
   refine .seq ?_
   refine .drawn (ms := [0,1,0,4,12,28,60,127,255,511]) (W := [6,7,9]) (items := [.op 0, .op 1, .op 2, .op 3, .op 4, .op 5, .op 6, .ck 1, .op 7, .op 8, .op 9]) rfl zz0 zz0 zz0 ?_
   refine .rx ?_
   refine .rx ?_
   refine .rx ?_
   refine .rx ?_
   refine .rx ?_
   refine .rx ?_
   refine .wr rfl rfl (by decide) (.vop zz1 (by decide) ?_)
   refine .ck rfl zz0 ?_
   refine .wr rfl rfl (by decide) (.vop zz1 (by decide) ?_)
   refine .rx ?_
   refine .wr rfl rfl (by decide) (.vop zz1 (by decide) ?_)
   refine .done ?_
   refine .rn ?_
   refine .rn ?_
   refine ⟨k + 1, c21,zz5,(.mk [] [(3,6)] zz14 zz15 rfl rfl rfl)⟩
  ·try simp at c21
   have : k = (chL s).length := by omega
   subst this
   have hbl : (bestP s).length = (chL s).length := by simp [bestP]
   refine .exit ?_
   refine .seq ?_
   refine .rn ?_
   refine .ret ?_
   refine ⟨_, _, zz4,(by simp [hbl] <;> rfl), ?_⟩
   have e3 : List.take (chL s).length (List.map (PV.int .i64) (bestP s)) = List.map (PV.int .i64) (bestP s) := List.take_of_length_le (by simp [hbl])
   rw [c15]
   show Soft _ _
   rw [e3]
   exact soft_rfl rfl
end Go.Am.Ds
end
section
namespace Go.Am.Ds
open Go Go.Am Go.Proofs
set_option maxRecDepth 100000
set_option maxHeartbeats 4000000
set_option linter.unusedSimpArgs false
set_option linter.unusedVariables false
attribute [local simp] vrun vwanted vyielded vop vopA vputAll VHeap.back hidI hidF backL bm Nat.testBit_eq_decide_div_mod_eq veval vevals vparts vO vbuiltin vlen vappend velems vcopy vmakeSlice vbuildSlice valloc vbox vmakeMap vload vpartT vpart vstore vfieldAddr vfield vindexAddr vindex vextract vslice vsliceZ vbounds vbnd zeroO vidx vlookup vmget vmapUpdate vdelete vclear vnilq vnilp vnils vbin vsc vsc1 vscs vscl abinOp aint ashift aunOp aconvert amaxs amax2 pvcV pvc pvcs tput tget vargs VHeap.get VHeap.alloc VHeap.put VHeap.drop VHeap.empty vlook vput vdrop psplice pfill preps chunk List.range List.range.loop vresults vresult vresultV frz frzL PV.isF PV.allF PV.scal PV.allS retP subT allFT PV.one PV.ids PV.idsL dropL beq_eq ble_dec blt_dec
theorem p63' (s : List Wit) (hl : s.length < 65536) : VPure Tryz.prog 63 [encS s] fun r => r = .tup [.agg [ints (bestP s), .int .i64 (bestS s (chL s).length)], .int .i64 (chE s)] := VPure.soft (p63 s hl) rfl
def cbR (s : List Wit) (l : List Int) (m : Int) : Int := if checkS s = 0 then (if (desR s l).2 = true ∧ chE s = 0 ∧ (desR s l).1 = m ∧ (desR s l).1 = bestS s (chL s).length then 0 else 8) else checkS s
theorem p55 (s : List Wit) (hl : s.length < 65536) : VPure Tryz.prog 55 [encS s] fun r => r = .tup [.int .i64 (bestS s (chL s).length), .int .i64 (chE s)] := by
 refine .of_body Tryz.func55 rfl rfl ?_
 refine .seq ?_
 refine .rn ?_
 refine .seq ?_
 refine .regionL [0,1,2,3,4,5,6,7] rfl zz0 ?_
 refine .rn [0] [1,2,3,4,5,6,7] ?_
 refine .step rfl rfl (.pure rfl rfl rfl Tryz.call63 (by decide) (p63' s hl) (by first | rfl | simp [*]) ?_)
 rintro _ rfl
 refine .rn [2,3,4,5,6,7] [] ?_
 refine .done ?_
 refine .seq ?_
 refine .rn ?_
 refine .ret ?_
 refine ⟨_, _, zz4,zz4, ?_⟩
 first | rfl | (simp [*]; done) | (simp_all; done)
theorem p56 (s : List Wit) (l : List Int) (m : Int) (hl : s.length < 65536) (hlL : l.length < 4611686018427387904) : VPure Tryz.prog 56 [encS s, .agg [ints l, .int .i64 m]] fun r => r = .int .i64 (cbR s l m) := by
 refine .of_body Tryz.func56 rfl rfl ?_
 refine .seq ?_
 refine .rn ?_
 refine .seq ?_
 refine .seq ?_
 refine .regionL [0,1,2] rfl zz0 ?_
 refine .rn [0] [1,2] ?_
 refine .step rfl rfl (.pure rfl rfl rfl Tryz.call35 (by decide) (p35 s (by omega)) (by first | rfl | simp [*]) ?_)
 rintro _ rfl
 refine .rn [2] [] ?_
 refine .done ?_
 refine .seq ?_
 refine .rn ?_
 refine .condS rfl (fun c13 => ?_) (fun c13 => ?_)
 ·try simp at c13
  refine .seq ?_
  refine .rn ?_
  refine .ret ?_
  refine ⟨_, _, zz4,zz4, ?_⟩
  simp_all [cbR]
 ·try simp at c13
  refine .skip ?_
  refine .seq ?_
  refine .regionL [0,1,2,3,4,5,6,7,8] rfl zz0 ?_
  refine .rn [0,1,2] [3,4,5,6,7,8] ?_
  refine .step rfl rfl (.pure rfl rfl rfl Tryz.call132 (by decide) (p132 s l hl hlL (checkS_lens c13)) (by first | rfl | simp [*]) ?_)
  rintro _ rfl
  refine .rn [4,5,6,7,8] [] ?_
  refine .done ?_
  refine .seq ?_
  refine .regionL [0,1,2,3,4,5,6] rfl zz0 ?_
  refine .rn [0] [1,2,3,4,5,6] ?_
  refine .step rfl rfl (.pure rfl rfl rfl Tryz.call55 (by decide) (p55 s hl) (by first | rfl | simp [*]) ?_)
  rintro _ rfl
  refine .rn [2,3,4,5,6] [] ?_
  refine .done ?_
  refine .seq ?_
  refine .seq ?_
  refine .regionL [0,1,2,3,4,5,6,7,8,9,10,11,12,13,14,15,16] rfl zz0 ?_
  refine .rn [0,1,2] [3,4,5,6,7,8,9,10,11,12,13,14,15,16] ?_
  refine .split (t := 29) rfl (fun c29 => ?_) (fun c29 => ?_)
  ·try rw [c29]
   try simp at c29
   refine .rn [3,4,5,6,7,8,9,10,11,12,13,14,15,16] [] ?_
   refine .done ?_
   refine .condT rfl ?_
   refine .seq ?_
   refine .rn ?_
   refine .ret ?_
   refine ⟨_, _, zz4,zz4, ?_⟩
   simp_all [cbR]
  ·try rw [c29]
   try simp at c29
   refine .rn [3,4,5,6] [7,8,9,10,11,12,13,14,15,16] ?_
   refine .split (t := 33) rfl (fun c33 => ?_) (fun c33 => ?_)
   ·try rw [c33]
    try simp at c33
    refine .rn [7,8,9,10,11,12,13,14,15,16] [] ?_
    refine .done ?_
    refine .condT rfl ?_
    refine .seq ?_
    refine .rn ?_
    refine .ret ?_
    refine ⟨_, _, zz4,zz4, ?_⟩
    simp_all [cbR]
   ·try rw [c33]
    try simp at c33
    refine .rn [7,8,9,10,11,12] [13,14,15,16] ?_
    refine .split (t := 39) rfl (fun c39 => ?_) (fun c39 => ?_)
    ·try rw [c39]
     try simp at c39
     refine .rn [13,14,15,16] [] ?_
     refine .done ?_
     refine .condT rfl ?_
     refine .seq ?_
     refine .rn ?_
     refine .ret ?_
     refine ⟨_, _, zz4,zz4, ?_⟩
     simp_all [cbR]
    ·try rw [c39]
     try simp at c39
     refine .rn [13,14,15,16] [] ?_
     refine .done ?_
     refine .condS rfl (fun c43 => ?_) (fun c43 => ?_)
     ·try simp at c43
      refine .seq ?_
      refine .rn ?_
      refine .ret ?_
      refine ⟨_, _, zz4,zz4, ?_⟩
      simp_all [cbR]
     ·try simp at c43
      refine .skip ?_
      refine .seq ?_
      refine .rn ?_
      refine .ret ?_
      refine ⟨_, _, zz4,zz4, ?_⟩
      simp_all [cbR]
end Go.Am.Ds
end
section
namespace Go.Am.Ds
open Go Go.Am Go.Proofs
theorem fold_mem : ∀ (l d : List (Int × Int)) (x : List Int × Int),(∀ b ∈ x.1,(b, x.2) ∈ d) → ∀ b ∈ (l.foldl stepC x).1,(b, (l.foldl stepC x).2) ∈ d ++ l
 | [], d, x, h => by simpa using h
 | y :: r, d, x, h => by
  have ih := fold_mem r (d ++ [y]) (stepC x y) (by
   unfold stepC
   split
   ·intro b hb; exact List.mem_append_left _ (h b hb)
   ·rename_i h1
    split
    ·intro b hb
     rw [List.mem_singleton] at hb
     subst hb; simp
    ·rename_i h2
     intro b hb
     have h3 : x.1 ≠ [] := fun h4 => h2 (.inl h4)
     have h4 : ¬ y.2 < x.2 := fun h4 => h2 (.inr h4)
     have h5 : ¬ x.2 < y.2 := fun h5 => h1 ⟨h3, h5⟩
     rcases List.mem_append.1 hb with hb | hb
     ·exact List.mem_append_left _ (h b hb)
     ·rw [List.mem_singleton] at hb
      subst hb
      have h6 : x.2 = y.2 := by omega
      simp [h6])
  rw [List.append_assoc, List.singleton_append] at ih
  rw [List.foldl_cons]
  exact ih
theorem choF_mem {s : List Wit} {c : Wit} {b : Int} (h : b ∈ (choF s c).1) : (b, (choF s c).2) ∈ parS s c := by
 have := fold_mem (parS s c) [] ([],0) (by simp) b h
 rw [List.nil_append] at this
 exact this
theorem stepD_par {s : List Wit} (h : checkS s = 0) {c : Wit} {b d : Int} (hb : (b, d) ∈ parS s c) : stepD s c b = some d := by
 rcases parS_mem.1 hb with ⟨he, h1⟩ | ⟨p, _, h2, h3, h4⟩
 ·injection he with e1 e2
  subst e1; subst e2
  have hg : getW s 0 = none := by
   cases hg : getW s 0 with
   | none => rfl
   | some p =>
    obtain ⟨hp, h0⟩ := getW_mem hg
    have := checkS_pos h p hp
    omega
  simp only [stepD, hg]
  rw [if_pos ⟨trivial, h1⟩]
 ·simp only at h2 h4
  simp only [stepD, h2]
  rw [if_pos h3, h4]
theorem head_mem {l : List Int} (h : l ≠ []) : l.headD 0 ∈ l := by
 cases l with
 | nil => exact absurd rfl h
 | cons a r => simp
theorem getW_own : ∀ {s : List Wit},(s.map Wit.id).Nodup → ∀ {w : Wit}, w ∈ s → getW s w.id = some w
 | a :: r, hn, w, hw => by
  rw [List.map_cons, List.nodup_cons] at hn
  unfold getW
  rw [List.find?_cons]
  rcases List.mem_cons.1 hw with rfl | hw
  ·simp
  ·have : a.id ≠ w.id := fun h => hn.1 (h ▸ List.mem_map_of_mem hw)
   rw [show decide (a.id = w.id) = false from decide_eq_false this]
   exact getW_own hn.2 hw
end Go.Am.Ds
end
section
namespace Go.Am.Ds
open Go Go.Am Go.Proofs
set_option maxHeartbeats 4000000
set_option linter.unusedSimpArgs false
set_option linter.unusedVariables false
attribute [local simp] vrun vwanted vyielded vop veval vevals vparts vO vbuiltin vlen vappend velems vcopy vmakeSlice vbuildSlice valloc vbox vmakeMap vload vpartT vpart vstore vfieldAddr vfield vindexAddr vindex vextract vslice vsliceZ vbounds vbnd zeroO vidx vlookup vmget vmapUpdate vdelete vnilq vnilp vnils vbin vsc vsc1 vscs vscl abinOp aint ashift aunOp aconvert amaxs amax2 pvcV pvc pvcs tput tget vargs VHeap.get VHeap.alloc VHeap.put VHeap.drop VHeap.empty vlook vput vdrop psplice pfill preps chunk List.range List.range.loop vresults vresult vresultV frz frzL PV.isF PV.allF PV.scal PV.allS retP subT allFT PV.one PV.ids PV.idsL dropL beq_eq ble_dec blt_dec
theorem smallS_len {s : List Wit} (h : smallS s = true) : s.length ≤ 12 := by
 unfold smallS at h
 simp only [Bool.and_eq_true, decide_eq_true_eq] at h
 exact h.2
end Go.Am.Ds
end
section
namespace Go.Am.Ds
open Go Go.Am Go.Proofs
set_option maxRecDepth 100000
set_option maxHeartbeats 4000000
set_option linter.unusedSimpArgs false
set_option linter.unusedVariables false
attribute [local simp] vrun vwanted vyielded vop vopA vputAll VHeap.back hidI hidF backL bm Nat.testBit_eq_decide_div_mod_eq veval vevals vparts vO vbuiltin vlen vappend velems vcopy vmakeSlice vbuildSlice valloc vbox vmakeMap vload vpartT vpart vstore vfieldAddr vfield vindexAddr vindex vextract vslice vsliceZ vbounds vbnd zeroO vidx vlookup vmget vmapUpdate vdelete vclear vnilq vnilp vnils vbin vsc vsc1 vscs vscl abinOp aint ashift aunOp aconvert amaxs amax2 pvcV pvc pvcs tput tget vargs VHeap.get VHeap.alloc VHeap.put VHeap.drop VHeap.empty vlook vput vdrop psplice pfill preps chunk List.range List.range.loop vresults vresult vresultV frz frzL PV.isF PV.allF PV.scal PV.allS retP subT allFT PV.one PV.ids PV.idsL dropL beq_eq ble_dec blt_dec
def encK (x : Int × Int) : PV := .agg [.int .i64 x.1, .int .i64 x.2]
@[simp] theorem allSz_encK (l : List (Int × Int)) : allSz 2 (l.map encK) = true := allSz_map (f := encK) (n := 2) (fun _ => rfl) l
@[simp] theorem allOne_encK (l : List (Int × Int)) : allOne (l.map encK) = true := allOne_map (f := encK) (fun _ => rfl) l
theorem take_succ_mem {l : List Int} {n : Int} {i : Nat} (h : i < l.length) (h1 : n ∉ l.take i) (h2 : l[i] ≠ n) : n ∉ l.take (i + 1) := by
 rw [List.take_succ_eq_append_getElem h]
 intro h3
 rcases List.mem_append.1 h3 with h3 | h3
 ·exact h1 h3
 ·rw [List.mem_singleton] at h3; exact h2 h3.symm
theorem p46 (l : List Int) (n : Int) (hl : l.length < 4611686018427387904) : VPure Tryz.prog 46 [ints l, .int .i64 n] fun r => r = .bool (decide (n ∈ l)) := by
 refine .of_body Tryz.func46 rfl rfl ?_
 refine .seq ?_
 refine .rn ?_
 refine .seq ?_
 refine .seq ?_
 refine .rn ?_
 refine .block ?_
 refine .loopS (fun i : Nat => ([(0, ints l),(1, .int .i64 n),(5, .int .i64 i)], ⟨0,[]⟩)) (fun i => i ≤ l.length ∧ n ∉ l.take i) (fun i => l.length - i) 0 (by simp) (.mk [] [] zz14 zz15 rfl rfl rfl) ?_
 rintro i ⟨hi, hn⟩
 simp only at hi hn ⊢
 refine .seq ?_
 refine .seq ?_
 refine .rn ?_
 refine .condS rfl (fun c9 => ?_) (fun c9 => ?_)
 ·try simp at c9
  have hw2 : IntKind.i64.wrap ((i : Int) + 1) = (i : Int) + 1 := wrap64 (by omega) (by omega)
  refine .skip ?_
  refine .seq ?_
  refine .block ?_
  refine .seq ?_
  refine .rn ?_
  refine .condS rfl (fun c17 => ?_) (fun c17 => ?_)
  ·try simp at c17
   refine .seq ?_
   refine .rn ?_
   refine .ret ?_
   refine ⟨_, _, zz4,zz4, ?_⟩
   have : n ∈ l := c17 ▸ List.getElem_mem c9
   simp [this]
  ·try simp at c17
   refine .skip ?_
   refine .rn ?_
   refine ⟨i + 1, ⟨c9, take_succ_mem c9 hn c17⟩, zz5,(.mk [] [] zz14 zz15 rfl rfl rfl)⟩
 ·try simp at c9
  have : i = l.length := by omega
  subst this
  rw [List.take_length] at hn
  refine .exit ?_
  refine .seq ?_
  refine .rn ?_
  refine .ret ?_
  refine ⟨_, _, zz4,zz4, ?_⟩
  simp [hn]
end Go.Am.Ds
end
section
namespace Go.Am.Ds
open Go Go.Am Go.Proofs
set_option maxRecDepth 100000
set_option maxHeartbeats 4000000
set_option linter.unusedSimpArgs false
set_option linter.unusedVariables false
attribute [local simp] vrun vwanted vyielded vop vopA vputAll VHeap.back hidI hidF backL bm Nat.testBit_eq_decide_div_mod_eq veval vevals vparts vO vbuiltin vlen vappend velems vcopy vmakeSlice vbuildSlice valloc vbox vmakeMap vload vpartT vpart vstore vfieldAddr vfield vindexAddr vindex vextract vslice vsliceZ vbounds vbnd zeroO vidx vlookup vmget vmapUpdate vdelete vclear vnilq vnilp vnils vbin vsc vsc1 vscs vscl abinOp aint ashift aunOp aconvert amaxs amax2 pvcV pvc pvcs tput tget vargs VHeap.get VHeap.alloc VHeap.put VHeap.drop VHeap.empty vlook vput vdrop psplice pfill preps chunk List.range List.range.loop vresults vresult vresultV frz frzL PV.isF PV.allF PV.scal PV.allS retP subT allFT PV.one PV.ids PV.idsL dropL beq_eq ble_dec blt_dec
def cI (s : List Wit) (id : Int) : List Int := match getW s id with
 | some c => (choF s c).1
 | none => []
def kinI (may : Nat → Bool) (s : List Wit) (id : Int) : List (Int × Int) := if may (cI s id).length = true then (cI s id).map fun b => (id, b) else []
def kinP (may : Nat → Bool) (s : List Wit) (k : Nat) : List (Int × Int) := ((idsS s).take k).flatMap (kinI may s)
def kinQ (may : Nat → Bool) (s : List Wit) (id : Int) (j : Nat) : List (Int × Int) := if may (cI s id).length = true then ((cI s id).take j).map fun b => (id, b) else []
def kinT (may : Nat → Bool) (s : List Wit) : List (Int × Int) := if chE s = 0 then (idsS s).flatMap (kinI may s) else []
theorem kinP_succ (may : Nat → Bool) (s : List Wit) (k : Nat) (h : k < (idsS s).length) : kinP may s (k + 1) = kinP may s k ++ kinI may s (idsS s)[k] := by
 unfold kinP; rw [List.take_succ_eq_append_getElem h, List.flatMap_append]; simp
theorem kinQ_all (may : Nat → Bool) (s : List Wit) (id : Int) : kinQ may s id (cI s id).length = kinI may s id := by unfold kinQ kinI; rw [List.take_length]
theorem kinQ_zero (may : Nat → Bool) (s : List Wit) (id : Int) : kinQ may s id 0 = [] := by unfold kinQ; split <;> rfl
theorem kinQ_len (may : Nat → Bool) (s : List Wit) (id : Int) (j : Nat) : (kinQ may s id j).length ≤ j := by
 unfold kinQ; split
 ·rw [List.length_map, List.length_take]; omega
 ·simp
theorem cI_len (s : List Wit) (id : Int) : (cI s id).length ≤ s.length + 1 := by
 unfold cI
 cases getW s id with
 | none => simp
 | some c =>
  simp only
  rw [← chP_all]
  have := chP_len s c (idsS s).length
  have := idsS_len s
  omega
theorem kinI_len (may : Nat → Bool) (s : List Wit) (id : Int) : (kinI may s id).length ≤ s.length + 1 := by
 have := cI_len s id
 unfold kinI; split
 ·rw [List.length_map]; exact this
 ·simp
theorem kinP_len (may : Nat → Bool) (s : List Wit) : ∀ k, k ≤ (idsS s).length → (kinP may s k).length ≤ k * (s.length + 1)
 | 0, _ => by simp [kinP]
 | k + 1, h => by
  have h1 := kinP_len may s k (by omega)
  have h2 := kinI_len may s (idsS s)[k]
  rw [kinP_succ may s k (by omega), List.length_append, Nat.succ_mul]
  omega
theorem chL_at {s : List Wit} (h : chE s = 0) {id : Int} {j : Nat} (hj : j < s.length) (hg : getW s id = some s[j]) : ∃ h2 : j < (chL s).length, (chL s)[j] = (cI s id, (choF s s[j]).2) := by
 refine ⟨by rw [chL_len h]; exact hj, ?_⟩
 have aux : ∀ (l : List (List Int × Int)) (e : l = s.map (choF s)) (hl : j < l.length), l[j] = choF s s[j] := by rintro _ rfl _; simp
 rw [aux _ (chL_ok h)]
 unfold cI; rw [hg]
theorem p122 (s : List Wit) (may : Nat → Bool) (f : FuncId) (hl : s.length < 65536) (hcf : ∀ cs w, (callFunc f cs).run Tryz.prog w = .ok (.enter f cs) w) (hp : ∀ n : Nat, n < 65538 → VPure Tryz.prog f ([] ++ [.int .i64 n] ++ []) fun r => r = .bool (may n)) : VPure Tryz.prog 122 [encS s, .func f [] []] fun r => Soft r (.tup [.vec ((kinT may s).map encK), .int .i64 (chE s)]) := by
 refine .of_body Tryz.func122 rfl rfl ?_
 refine .seq ?_
 refine .rn ?_
 refine .seq ?_
 refine .regionL [0,1,2,3,4,5,6] rfl zz0 ?_
 refine .rn [0] [1,2,3,4,5,6] ?_
 refine .step rfl rfl (.pure rfl rfl rfl Tryz.call108 (by decide) (p108' s (by omega)) (by first | rfl | simp [*]) ?_)
 rintro _ rfl
 refine .rn [2,3,4,5,6] [] ?_
 refine .done ?_
 refine .seq ?_
 refine .seq ?_
 refine .rn ?_
 refine .condS rfl (fun c20 => ?_) (fun c20 => ?_)
 ·try simp at c20
  refine .seq ?_
  refine .rn ?_
  refine .ret ?_
  refine ⟨_, _, zz4,zz4, ?_⟩
  have e1 : kinT may s = [] := by unfold kinT; rw [if_neg c20]
  rw [e1]
  exact soft_tup (AltL.cons .sl0v (AltL.cons (.same _ rfl) AltL.nil))
 ·try simp at c20
  have h24 := (checkS_ok (chE_ok c20).1).1
  refine .skip ?_
  refine .seq ?_
  refine .rn ?_
  refine .seq ?_
  refine .seq ?_
  refine .regionL [0,1,2,3] rfl zz0 ?_
  refine .rn [0] [1,2,3] ?_
  refine .step rfl rfl (.pure rfl rfl rfl Tryz.call99 (by decide) (p99' s (by omega)) (by first | rfl | simp [*]) ?_)
  rintro _ rfl
  refine .rn [2,3] [] ?_
  refine .done ?_
  refine .block ?_
  refine .loopS (fun k : Nat => ([(1, .func f [] []),(2, .ptr 0 0),(6, .vec ((chL s).map encC)),(8, .grow 1 (kinP may s k).length true),(23, ints (idsS s)),(24, .int .i64 (idsS s).length),(25, .int .i64 k)], ⟨2,[(1, .grow 2 ((kinP may s k).map encK)),(0, .box [.vec (s.map encW)])]⟩)) (fun k => k ≤ (idsS s).length) (fun k => (idsS s).length - k) 0 (by simp) (.mk [] [] zz14 zz15 rfl rfl rfl) ?_
  rintro k hk
  simp only at hk ⊢
  refine .seq ?_
  refine .rn ?_
  refine .seq ?_
  refine .condS rfl (fun c26 => ?_) (fun c26 => ?_)
  ·try simp at c26
   have hk24 : k < 24 := by have := idsS_len s; omega
   have hw2 : IntKind.i64.wrap ((k : Int) + 1) = (k : Int) + 1 := wrap64 (by omega) (by omega)
   obtain ⟨j, hj, hje, hgb⟩ := getW_some (find_ids (List.getElem_mem c26))
   obtain ⟨hj2, hcj⟩ := chL_at c20 hj hgb
   have hE : encC (cI s (idsS s)[k],(choF s s[j]).2) = .agg [ints (cI s (idsS s)[k]), .int .i64 (choF s s[j]).2] := rfl
   have hpl := kinP_len may s k hk
   have hcl := cI_len s (idsS s)[k]
   have hS := kinP_succ may s k c26
   have hQ0 := kinQ_zero may s (idsS s)[k]
   have hkm : k * (s.length + 1) ≤ 24 * 25 := Nat.mul_le_mul (by omega) (by omega)
   refine .skip ?_
   refine .seq ?_
   refine .block ?_
   refine .seq ?_
   refine .rn ?_
   refine .seq ?_
   refine .regionL [0,1,2,3,4,5,6,7] rfl zz0 ?_
   refine .rn [0,1,2] [3,4,5,6,7] ?_
   refine .step rfl rfl (.pure rfl rfl rfl Tryz.call105 (by decide) (p105' s _ (by omega)) (by first | rfl | simp [*]) ?_)
   rintro _ rfl
   refine .rn [4,5,6,7] [] ?_
   refine .done ?_
   refine .seq ?_
   refine .rn ?_
   refine .block ?_
   refine .loopS (fun q : Nat => ([(1, .func f [] []),(2, .ptr 0 0),(6, .vec ((chL s).map encC)),(8, .grow 1 (kinP may s k ++ kinQ may s (idsS s)[k] q).length true),(10, .int .i64 (idsS s)[k]),(11, .ptr 2 0),(23, ints (idsS s)),(24, .int .i64 (idsS s).length),(25, .int .i64 k),(36, ints (cI s (idsS s)[k])),(37, .int .i64 (cI s (idsS s)[k]).length),(38, .int .i64 q)], ⟨3,[(2, .box [ints (cI s (idsS s)[k]), .int .i64 (choF s s[j]).2]),(1, .grow 2 ((kinP may s k ++ kinQ may s (idsS s)[k] q).map encK)),(0, .box [.vec (s.map encW)])]⟩)) (fun q => q ≤ (cI s (idsS s)[k]).length) (fun q => (cI s (idsS s)[k]).length - q) 0 (by simp) (.mk [] [] zz14 zz15 rfl rfl rfl) ?_
   rintro q hq
   simp only at hq ⊢
   have hql := kinQ_len may s (idsS s)[k] q
   refine .seq ?_
   refine .rn ?_
   refine .seq ?_
   refine .condS rfl (fun c39 => ?_) (fun c39 => ?_)
   ·try simp at c39
    have hw3 : IntKind.i64.wrap ((q : Int) + 1) = (q : Int) + 1 := wrap64 (by omega) (by omega)
    have hb : (kinP may s k).length + (kinQ may s (idsS s)[k] q).length ≤ 4294967295 := by omega
    have hone : allOne [PV.agg [PV.int .i64 (idsS s)[k], PV.int .i64 (cI s (idsS s)[k])[q]]] = true := rfl
    have hpp := hp (cI s (idsS s)[k]).length (by omega)
    have hEk : encK ((idsS s)[k],(cI s (idsS s)[k])[q]) = .agg [.int .i64 (idsS s)[k], .int .i64 (cI s (idsS s)[k])[q]] := rfl
    refine .skip ?_
    refine .seq ?_
    refine .block ?_
    refine .seq ?_
    refine .rn ?_
    refine .seq ?_
    refine .regionL [0,1,2,3,4] rfl zz0 ?_
    refine .rn [0,1,2,3] [4] ?_
    refine .step rfl rfl (.pure rfl rfl rfl hcf (by decide) (hpp) (by first | rfl | simp [*]) ?_)
    rintro _ rfl
    refine .done ?_
    refine .condS rfl (fun c46 => ?_) (fun c46 => ?_)
    ·try simp at c46
     have hQ : kinQ may s (idsS s)[k] (q + 1) = kinQ may s (idsS s)[k] q ++ [((idsS s)[k],(cI s (idsS s)[k])[q])] := by
      unfold kinQ; rw [if_pos c46, if_pos c46, List.take_succ_eq_append_getElem c39, List.map_append]; rfl
     refine .rn ?_
     refine .rn ?_
     have hL : (kinP may s k).length + ((kinQ may s (idsS s)[k] q).length + 1) = (kinP may s k).length + (kinQ may s (idsS s)[k] q).length + 1 := by omega
     refine ⟨q + 1, c39,zz5,(.mk [] [(1,4)] zz14 zz15 rfl rfl rfl)⟩
    ·try simp at c46
     have hQ : kinQ may s (idsS s)[k] (q + 1) = kinQ may s (idsS s)[k] q := by
      unfold kinQ; rw [if_neg (by simp [c46]), if_neg (by simp [c46])]
     refine .skip ?_
     refine .rn ?_
     refine ⟨q + 1, c39,zz5,(.mk [] [] zz14 zz15 rfl rfl rfl)⟩
   ·try simp at c39
    have : q = (cI s (idsS s)[k]).length := by omega
    subst this
    have hQ2 := kinQ_all may s (idsS s)[k]
    refine .exit ?_
    refine .rn ?_
    refine ⟨k + 1, c26,zz5,(.mk [] [] zz14 zz15 rfl rfl rfl)⟩
  ·try simp at c26
   have : k = (idsS s).length := by omega
   subst this
   refine .exit ?_
   refine .seq ?_
   refine .rn ?_
   refine .ret ?_
   refine ⟨_, _, zz4,zz4, ?_⟩
   have e1 : kinT may s = kinP may s (idsS s).length := by unfold kinT kinP; rw [if_pos c20, List.take_length]
   rw [e1, c20]
   show Soft _ _
   exact soft_rfl rfl
end Go.Am.Ds
end
section
namespace Go.Am.Ds
open Go Go.Am Go.Proofs
set_option maxRecDepth 100000
set_option maxHeartbeats 4000000
set_option linter.unusedSimpArgs false
set_option linter.unusedVariables false
attribute [local simp] vrun vwanted vyielded vop vopA vputAll VHeap.back hidI hidF backL bm Nat.testBit_eq_decide_div_mod_eq veval vevals vparts vO vbuiltin vlen vappend velems vcopy vmakeSlice vbuildSlice valloc vbox vmakeMap vload vpartT vpart vstore vfieldAddr vfield vindexAddr vindex vextract vslice vsliceZ vbounds vbnd zeroO vidx vlookup vmget vmapUpdate vdelete vclear vnilq vnilp vnils vbin vsc vsc1 vscs vscl abinOp aint ashift aunOp aconvert amaxs amax2 pvcV pvc pvcs tput tget vargs VHeap.get VHeap.alloc VHeap.put VHeap.drop VHeap.empty vlook vput vdrop psplice pfill preps chunk List.range List.range.loop vresults vresult vresultV frz frzL PV.isF PV.allF PV.scal PV.allS retP subT allFT PV.one PV.ids PV.idsL dropL beq_eq ble_dec blt_dec
theorem p124 (n : Nat) : VPure Tryz.prog 124 [.int .i64 n] fun r => r = .bool true := by
 refine .of_body Tryz.func124 rfl rfl ?_
 refine .seq ?_
 refine .rn ?_
 refine .seq ?_
 refine .rn ?_
 refine .ret ?_
 refine ⟨_, _, zz4,zz4, ?_⟩
 first | rfl | (simp [*]; done) | (simp_all; done)
theorem p43 (s : List Wit) (hl : s.length < 65536) : VPure Tryz.prog 43 [encS s] fun r => r = .tup [.vec ((kinT (fun _ => true) s).map encK), .int .i64 (chE s)] := by
 refine .of_body Tryz.func43 rfl rfl ?_
 refine .seq ?_
 refine .rn ?_
 refine .seq ?_
 refine .regionL [0,1,2,3,4,5] rfl zz0 ?_
 refine .rn [0] [1,2,3,4,5] ?_
 refine .step rfl rfl (.pure rfl rfl rfl Tryz.call122 (by decide) ((VPure.soft (p122 s (fun _ => true) 124 hl Tryz.call124 (fun n _ => p124 n)) rfl)) (by first | rfl | simp [*]) ?_)
 rintro _ rfl
 refine .rn [2,3,4,5] [] ?_
 refine .done ?_
 refine .ret ?_
 refine ⟨_, _, zz4,zz4, ?_⟩
 first | rfl | (simp [*]; done) | (simp_all; done)
end Go.Am.Ds
end
section
namespace Go.Am.Ds
open Go Go.Am Go.Proofs
theorem in_kin {s : List Wit} (h : chE s = 0) {w : Wit} (hw : w ∈ s) (b : Int) : (w.id, b) ∈ kinT (fun _ => true) s ↔ b ∈ (choF s w).1 := by
 obtain ⟨h0, _⟩ := chE_ok h
 have hc : cI s w.id = (choF s w).1 := by unfold cI; rw [getW_own (checkS_nodup h0) hw]
 unfold kinT
 rw [if_pos h, List.mem_flatMap]
 constructor
 ·rintro ⟨id, _, h1⟩
  unfold kinI at h1
  rw [if_pos rfl] at h1
  obtain ⟨b', h2, h3⟩ := List.mem_map.1 h1
  injection h3 with e1 e2
  subst e2; rw [e1, hc] at h2; exact h2
 ·intro h1
  refine ⟨w.id, idsS_mem.2 ⟨w, hw, rfl⟩, ?_⟩
  unfold kinI
  rw [if_pos rfl, hc]
  exact List.mem_map_of_mem h1
end Go.Am.Ds
end
section
namespace Go.Am.Ds
open Go Go.Am Go.Proofs
set_option maxRecDepth 100000
set_option maxHeartbeats 4000000
set_option linter.unusedSimpArgs false
set_option linter.unusedVariables false
attribute [local simp] vrun vwanted vyielded vop vopA vputAll VHeap.back hidI hidF backL bm Nat.testBit_eq_decide_div_mod_eq veval vevals vparts vO vbuiltin vlen vappend velems vcopy vmakeSlice vbuildSlice valloc vbox vmakeMap vload vpartT vpart vstore vfieldAddr vfield vindexAddr vindex vextract vslice vsliceZ vbounds vbnd zeroO vidx vlookup vmget vmapUpdate vdelete vclear vnilq vnilp vnils vbin vsc vsc1 vscs vscl abinOp aint ashift aunOp aconvert amaxs amax2 pvcV pvc pvcs tput tget vargs VHeap.get VHeap.alloc VHeap.put VHeap.drop VHeap.empty vlook vput vdrop psplice pfill preps chunk List.range List.range.loop vresults vresult vresultV frz frzL PV.isF PV.allF PV.scal PV.allS retP subT allFT PV.one PV.ids PV.idsL dropL beq_eq ble_dec blt_dec
theorem kinT_len (may : Nat → Bool) (s : List Wit) : (kinT may s).length ≤ s.length * (s.length + 1) := by
 unfold kinT
 split
 ·have := kinP_len may s (idsS s).length (Nat.le_refl _)
  unfold kinP at this
  rw [List.take_length, idsS_len] at this
  exact this
 ·exact Nat.zero_le _
end Go.Am.Ds
end
section
namespace Go.Am.Ds
open Go Go.Am Go.Proofs
theorem chL_at2 {s : List Wit} (h : chE s = 0) {k : Nat} (hk : k < s.length) : ∃ h2 : k < (chL s).length, (chL s)[k] = choF s s[k] := by
 refine ⟨by rw [chL_len h]; exact hk, ?_⟩
 have aux : ∀ (l : List (List Int × Int)) (e : l = s.map (choF s)) (hl : k < l.length), l[k] = choF s s[k] := by rintro _ rfl _; simp
 exact aux _ (chL_ok h) _
end Go.Am.Ds
end
section
namespace Go.Am.Ds
open Go Go.Am Go.Proofs
theorem wit_lohi {s : List Wit} (h : checkS s = 0) {w : Wit} (hw : w ∈ s) : w.lo ≤ w.hi := by
 have := (checkS_ok h).2 w hw
 unfold witE at this
 repeat' split at this
 all_goals first | omega | cases this
theorem why_hi {c p : Wit} (h : (whyP c p).1 = 0) : p.hi < c.lo := by
 unfold whyP at h
 split at h
 ·cases h
 ·split at h
  ·cases h
  ·omega
theorem getW_zero {s : List Wit} (h : checkS s = 0) : getW s 0 = none := by
 cases hg : getW s 0 with
 | none => rfl
 | some p =>
  obtain ⟨hp, h0⟩ := getW_mem hg
  have := checkS_pos h p hp
  omega
end Go.Am.Ds
end
section
namespace Go.Am.Ds
open Go Go.Am Go.Proofs
set_option maxRecDepth 100000
set_option maxHeartbeats 4000000
set_option linter.unusedSimpArgs false
set_option linter.unusedVariables false
attribute [local simp] vrun vwanted vyielded vop vopA vputAll VHeap.back hidI hidF backL bm Nat.testBit_eq_decide_div_mod_eq veval vevals vparts vO vbuiltin vlen vappend velems vcopy vmakeSlice vbuildSlice valloc vbox vmakeMap vload vpartT vpart vstore vfieldAddr vfield vindexAddr vindex vextract vslice vsliceZ vbounds vbnd zeroO vidx vlookup vmget vmapUpdate vdelete vclear vnilq vnilp vnils vbin vsc vsc1 vscs vscl abinOp aint ashift aunOp aconvert amaxs amax2 pvcV pvc pvcs tput tget vargs VHeap.get VHeap.alloc VHeap.put VHeap.drop VHeap.empty vlook vput vdrop psplice pfill preps chunk List.range List.range.loop vresults vresult vresultV frz frzL PV.isF PV.allF PV.scal PV.allS retP subT allFT PV.one PV.ids PV.idsL dropL beq_eq ble_dec blt_dec
attribute [local simp] zW tup2
theorem any_memD (l : List Int) (v : Int) : (l.any fun a => decide (v = a)) = decide (v ∈ l) := by rw [Bool.eq_iff_iff]; simp
theorem p144d (l : List Int) (v : Int) (hl : l.length < 4294967296) : VPure Tryz.prog 144 [ints l, .int .i64 v] fun r => r = .bool (decide (v ∈ l)) := by
 have := p144 l v hl
 rw [any_memD] at this; exact this
end Go.Am.Ds
end
section
namespace Go.Am.Ds
open Go Go.Am Go.Proofs
set_option maxRecDepth 100000
set_option maxHeartbeats 4000000
set_option linter.unusedSimpArgs false
set_option linter.unusedVariables false
attribute [local simp] vrun vwanted vyielded vop vopA vputAll VHeap.back hidI hidF backL bm Nat.testBit_eq_decide_div_mod_eq veval vevals vparts vO vbuiltin vlen vappend velems vcopy vmakeSlice vbuildSlice valloc vbox vmakeMap vload vpartT vpart vstore vfieldAddr vfield vindexAddr vindex vextract vslice vsliceZ vbounds vbnd zeroO vidx vlookup vmget vmapUpdate vdelete vclear vnilq vnilp vnils vbin vsc vsc1 vscs vscl abinOp aint ashift aunOp aconvert amaxs amax2 pvcV pvc pvcs tput tget vargs VHeap.get VHeap.alloc VHeap.put VHeap.drop VHeap.empty vlook vput vdrop psplice pfill preps chunk List.range List.range.loop vresults vresult vresultV frz frzL PV.isF PV.allF PV.scal PV.allS retP subT allFT PV.one PV.ids PV.idsL dropL beq_eq ble_dec blt_dec
attribute [local simp] zW tup2
theorem wrapU64 {n : Int} (h1 : 0 ≤ n) (h2 : n < 9223372036854775808) : IntKind.u64.wrap n = n := by
 simp [IntKind.wrap, IntKind.bits, IntKind.signed]; omega
theorem p217 (n : Int) : VPure Tryz.prog 217 [.int .i64 n] fun r => r = .bool false := by
 refine .of_body Tryz.func217 rfl rfl ?_
 refine .seq ?_
 refine .rn ?_
 refine .seq ?_
 refine .rn ?_
 refine .ret ?_
 refine ⟨_, _, zz4,zz4, ?_⟩
 first | rfl | (simp [*]; done) | (simp_all; done)
theorem p198 (a b : Int) : VPure Tryz.prog 198 [.int .i64 a, .int .i64 b] fun r => r = .bool (decide (a < b)) := by
 refine .of_body Tryz.func198 rfl rfl ?_
 refine .seq ?_
 refine .rn ?_
 refine .seq ?_
 refine .regionL [0,1,2,3,4,5,6,7,8,9,10,11,12] rfl zz0 ?_
 refine .rn [0] [1,2,3,4,5,6,7,8,9,10,11,12] ?_
 refine .step rfl rfl (.pure rfl rfl rfl Tryz.call217 (by decide) (p217 _) (by first | rfl | simp [*]) ?_)
 rintro _ rfl
 refine .rn [2] [3,4,5,6,7,8,9,10,11,12] ?_
 refine .split (t := 7) rfl (fun c7 => ?_) (fun c7 => ?_)
 ·try rw [c7]
  try simp at c7
 ·try rw [c7]
  try simp at c7
  refine .rn [3,4,5,6,7,8,9,10,11,12] [] ?_
  refine .done ?_
  refine .ret ?_
  refine ⟨_, _, zz4,zz4, ?_⟩
  first | rfl | (simp [*]; done) | (simp_all; done)
theorem p161 (l : List Int) (t : Int) (p : Nat) (hp : p < l.length) (ht : l[p] = t) (hs : l.Pairwise (· < ·)) (hl : l.length < 4294967296) : VPure Tryz.prog 161 [ints l, .int .i64 t] fun r => r = .tup [.int .i64 p, .bool true] := by
 have hlt : ∀ h : Nat, ∀ hh : h < l.length, (l[h] < t ↔ h < p) := fun h hh => by
  rw [List.pairwise_iff_getElem] at hs
  rcases Nat.lt_trichotomy h p with h1 | h1 | h1
  ·have := hs h p hh hp h1; exact ⟨fun _ => h1, fun _ => by omega⟩
  ·subst h1; omega
  ·have := hs p h hp hh h1; omega
 refine .of_body Tryz.func161 rfl rfl ?_
 refine .seq ?_
 refine .rn ?_
 refine .seq ?_
 refine .rn ?_
 refine .seq ?_
 refine .rn ?_
 refine .seq ?_
 refine .block ?_
 refine .loopS (fun st : Nat × Nat => ([(0, ints l),(1, .int .i64 t),(6, .int .i64 l.length),(7, .int .i64 st.1),(8, .int .i64 st.2)], VHeap.empty)) (fun st => st.1 ≤ p ∧ p ≤ st.2 ∧ st.2 ≤ l.length) (fun st => st.2 - st.1) (0, l.length) ⟨by simp, by simp; omega, by simp⟩ (.mk [] [] zz14 zz15 rfl rfl rfl) ?_
 rintro ⟨i, j⟩ ⟨h1, h2, h3⟩
 simp only at h1 h2 h3 ⊢
 refine .seq ?_
 refine .seq ?_
 refine .rn ?_
 refine .condS rfl (fun c15 => ?_) (fun c15 => ?_)
 ·try simp at c15
  have hij : i < j := by omega
  have hw1 : IntKind.i64.wrap ((i : Int) + (j : Int)) = (i : Int) + (j : Int) := wrap64 (by omega) (by omega)
  have hw2 : IntKind.u64.wrap ((i : Int) + (j : Int)) = (i : Int) + (j : Int) := wrapU64 (by omega) (by omega)
  have hbits : IntKind.u64.bits = 64 := rfl
  obtain ⟨m, hm, hm1, hm2⟩ : ∃ m : Nat, ((i : Int) + (j : Int)).fdiv 2 = (m : Int) ∧ i ≤ m ∧ m < j := ⟨(i + j) / 2, by rw [Int.fdiv_eq_ediv_of_nonneg _ (by omega)]; omega, by omega, by omega⟩
  have hh : m < l.length := by omega
  have hw3 : IntKind.i64.wrap (m : Int) = (m : Int) := wrap64 (by omega) (by omega)
  have hw4 : IntKind.i64.wrap ((m : Int) + 1) = (m : Int) + 1 := wrap64 (by omega) (by omega)
  have hcmp := hlt m hh
  refine .skip ?_
  refine .block ?_
  refine .seq ?_
  refine .rn ?_
  refine .seq ?_
  refine .regionL [0,1,2,3,4,5] rfl zz0 ?_
  refine .rn [0,1,2,3,4] [5] ?_
  refine .step rfl rfl (.pure rfl rfl rfl Tryz.call198 (by decide) (p198 _ _) (by first | rfl | simp [*]) ?_)
  rintro _ rfl
  refine .done ?_
  refine .condS rfl (fun c27 => ?_) (fun c27 => ?_)
  ·try simp at c27
   refine .rn ?_
   refine ⟨(m + 1, j), ⟨by simp only; omega, h2, h3⟩, by simp only; omega, (.mk [] [] zz14 zz15 rfl rfl rfl)⟩
  ·try simp at c27
   refine .rn ?_
   refine ⟨(i, m), ⟨h1, by simp only; omega, by simp only; omega⟩, by simp only; omega, (.mk [] [] zz14 zz15 rfl rfl rfl)⟩
 ·try simp at c15
  have hip : i = p := by omega
  subst hip
  refine .exit ?_
  refine .seq ?_
  refine .regionL [0,1,2,3,4,5,6,7,8,9,10,11,12,13,14,15,16,17,18,19,20,21,22,23,24] rfl zz0 ?_
  refine .rn [0,1,2,3,4] [5,6,7,8,9,10,11,12,13,14,15,16,17,18,19,20,21,22,23,24] ?_
  refine .split (t := 35) rfl (fun c35 => ?_) (fun c35 => ?_)
  ·try rw [c35]
   try simp at c35
   refine .rn [5,6,7,8,9,10,11] [12,13,14,15,16,17,18,19,20,21,22,23,24] ?_
   refine .split (t := 42) rfl (fun c42 => ?_) (fun c42 => ?_)
   ·try rw [c42]
    try simp at c42
    refine .rn [12,13,14,15,16,17,18,19,20,21,22,23,24] [] ?_
    refine .done ?_
    refine .ret ?_
    refine ⟨_, _, zz4,zz4, ?_⟩
    first | rfl | (simp [*]; done) | (simp_all; done)
   ·try rw [c42]
    try simp at c42
  ·try rw [c35]
   try simp at c35
end Go.Am.Ds
end
section
namespace Go.Am.Ds
open Go Go.Am Go.Proofs
set_option maxRecDepth 100000
set_option maxHeartbeats 4000000
set_option linter.unusedSimpArgs false
set_option linter.unusedVariables false
attribute [local simp] vrun vwanted vyielded vop vopA vputAll VHeap.back hidI hidF backL bm Nat.testBit_eq_decide_div_mod_eq veval vevals vparts vO vbuiltin vlen vappend velems vcopy vmakeSlice vbuildSlice valloc vbox vmakeMap vload vpartT vpart vstore vfieldAddr vfield vindexAddr vindex vextract vslice vsliceZ vbounds vbnd zeroO vidx vlookup vmget vmapUpdate vdelete vclear vnilq vnilp vnils vbin vsc vsc1 vscs vscl abinOp aint ashift aunOp aconvert amaxs amax2 pvcV pvc pvcs tput tget vargs VHeap.get VHeap.alloc VHeap.put VHeap.drop VHeap.empty vlook vput vdrop psplice pfill preps chunk List.range List.range.loop vresults vresult vresultV frz frzL PV.isF PV.allF PV.scal PV.allS retP subT allFT PV.one PV.ids PV.idsL dropL beq_eq ble_dec blt_dec
attribute [local simp] zW tup2
def kvM (l : List (Int × Int)) : List (Int × PV) := l.map fun x => (x.1, .int .u32 x.2)
def getM (l : List (Int × Int)) (n : Int) : Option Int := (l.find? fun x => decide (x.1 = n)).map (·.2)
def setM (l : List (Int × Int)) (n v : Int) : List (Int × Int) := match getM l n with
 | some _ => l.map fun x => if x.1 = n then (x.1, v) else x
 | none => l ++ [(n, v)]
theorem pfind_kvM (n : Int) : ∀ l : List (Int × Int), pfind .i64 n (kvs (kvM l)) = some ((getM l n).map (PV.int .u32))
 | [] => rfl
 | x :: r => by
  have ih := pfind_kvM n r
  unfold getM kvM kvs at ih ⊢
  simp only [List.map_cons, pfind, decide_true, cond_true]
  rw [ih, List.find?_cons]
  cases h : decide (x.1 = n) <;> simp
theorem map_qput_kvM (n v : Int) : ∀ l : List (Int × Int),(kvs (kvM l)).map (qput n (.int .u32 v)) = kvs (kvM (l.map fun x => if x.1 = n then (x.1, v) else x))
 | [] => rfl
 | x :: r => by
  have ih := map_qput_kvM n v r
  unfold kvM kvs at ih ⊢
  simp only [List.map_cons, qput] at ih ⊢
  rw [ih]
  by_cases h : x.1 = n <;> simp [h]
theorem pmset_kvM (n v : Int) (l : List (Int × Int)) : pmset .i64 n (.int .u32 v) (kvs (kvM l)) = some (kvs (kvM (setM l n v))) := by
 unfold pmset setM
 rw [pfind_kvM]
 cases h : getM l n with
 | none => simp [kvs, kvM]
 | some y => simp [map_qput_kvM]
theorem getM_none {l : List (Int × Int)} {n : Int} (h : getM l n = none) : n ∉ l.map (·.1) := by
 unfold getM at h
 rw [Option.map_eq_none_iff, List.find?_eq_none] at h
 intro h1
 obtain ⟨x, hx, rfl⟩ := List.mem_map.1 h1
 exact h x hx (by simp)
theorem setM_keys (l : List (Int × Int)) (n v : Int) : (setM l n v).map (·.1) = if (getM l n).isSome = true then l.map (·.1) else l.map (·.1) ++ [n] := by
 unfold setM
 cases h : getM l n with
 | none => simp
 | some y =>
  simp only [Option.isSome_some, if_true, List.map_map]
  apply List.map_congr_left
  intro x _
  simp only [Function.comp]
  split <;> rfl
theorem setM_nodup {l : List (Int × Int)} (h : (l.map (·.1)).Nodup) (n v : Int) : ((setM l n v).map (·.1)).Nodup := by
 rw [setM_keys]
 cases h1 : getM l n with
 | some y => simpa using h
 | none =>
  simp only [Option.isSome_none, Bool.false_eq_true, if_false]
  exact List.nodup_append.2 ⟨h, by simp, fun a ha b hb hab => by rw [List.mem_singleton] at hb; subst hab; subst hb; exact getM_none h1 ha⟩
theorem getM_mem {l : List (Int × Int)} {n : Int} : (getM l n).isSome = true ↔ n ∈ l.map (·.1) := by
 unfold getM
 rw [Option.isSome_map, List.find?_isSome]
 simp
theorem setM_mem {l : List (Int × Int)} {n v m : Int} : m ∈ (setM l n v).map (·.1) ↔ m ∈ l.map (·.1) ∨ m = n := by
 rw [setM_keys]
 split
 ·rename_i h
  rw [getM_mem] at h
  exact ⟨.inl, fun h2 => h2.elim id fun h3 => h3 ▸ h⟩
 ·simp
def posI (s : List Wit) (id : Int) : Nat := (idsS s).idxOf id
def orV (a b : Int) : Int := IntKind.u32.wrap ((BitVec.ofInt 32 a ||| BitVec.ofInt 32 b).toNat : Int)
def bitV (k : Nat) : Int := IntKind.u32.wrap (2 ^ min k 32)
def orU (a : Int) (k : Nat) : Int := orV a (bitV k)
@[local simp ↓ high] theorem aint_or32 (a b : Int) : aint .or .u32 a b = some (.int .u32 (orV a b)) := rfl
@[local simp ↓ high] theorem ashl32 (k : Nat) : ashift .shl .u32 1 (k : Int) = some (.int .u32 (bitV k)) := by
 unfold ashift bitV
 have h : ¬ ((k : Int) < 0) := by omega
 rw [decide_eq_false h, cond_false, Int.toNat_natCast, Int.one_mul]; rfl
def putM (k : Nat) (es : List (Int × Int)) (n : Int) : List (Int × Int) := setM es n (orU ((getM es n).getD 0) k)
def heldF (s : List Wit) (es : List (Int × Int)) (w : Wit) : List (Int × Int) := w.slips.foldl (putM (posI s w.id)) es
def heldM (s : List Wit) : List (Int × Int) := s.foldl (heldF s) []
theorem pos_get {s : List Wit} {w : Wit} (hw : w ∈ s) : ∃ h : posI s w.id < (idsS s).length, (idsS s)[posI s w.id] = w.id := by
 have h1 : posI s w.id < (idsS s).length := List.idxOf_lt_length_iff.2 (idsS_mem.2 ⟨w, hw, rfl⟩)
 exact ⟨h1, List.getElem_idxOf h1⟩
theorem p94 (s : List Wit) (h : checkS s = 0) : VPure Tryz.prog 94 [encS s] fun r => r = .vmap (kvs (kvM (heldM s))) := by
 have hl24 := (checkS_ok h).1
 have hidl := idsS_len s
 have hso := idsS_sorted (checkS_nodup h)
 refine .of_body Tryz.func94 rfl rfl ?_
 refine .seq ?_
 refine .rn ?_
 refine .seq ?_
 refine .regionL [0,1,2,3,4] rfl zz0 ?_
 refine .rn [0,1] [2,3,4] ?_
 refine .step rfl rfl (.pure rfl rfl rfl Tryz.call99 (by decide) (p99' s (by omega)) (by first | rfl | simp [*]) ?_)
 rintro _ rfl
 refine .rn [3,4] [] ?_
 refine .done ?_
 refine .seq ?_
 refine .seq ?_
 refine .rn ?_
 refine .block ?_
 refine .loopS (fun st : Nat × List (Int × Int) => ([(3, .mapv 1),(4, ints (idsS s)),(15, .vec (s.map encW)),(16, .int .i64 s.length),(17, .int .i64 st.1)], ⟨2,[(1, .map (kvs (kvM st.2))),(0, .box [.vec (s.map encW)])]⟩)) (fun st => st.1 ≤ s.length ∧ (s.drop st.1).foldl (heldF s) st.2 = heldM s) (fun st => s.length - st.1) (0,[]) ⟨by simp, by simp [heldM]⟩ (.mk [] [] zz14 zz15 rfl rfl rfl) ?_
 rintro ⟨i, es⟩ ⟨hi, hr⟩
 simp only at hi hr ⊢
 refine .seq ?_
 refine .rn ?_
 refine .seq ?_
 refine .condS rfl (fun c18 => ?_) (fun c18 => ?_)
 ·try simp at c18
  have hw2 : IntKind.i64.wrap ((i : Int) + 1) = (i : Int) + 1 := wrap64 (by omega) (by omega)
  have hE : encW s[i] = .agg [.int .i64 s[i].id, .int .i64 s[i].known, ints s[i].slips, ints s[i].mended, ints s[i].models, .int .i64 s[i].lo, .int .i64 s[i].hi] := rfl
  rw [foldl_drop (heldF s) s i c18] at hr
  obtain ⟨hp1, hp2⟩ := pos_get (List.getElem_mem c18)
  have hsl := ((checkS_lens h) s[i] (List.getElem_mem c18)).1
  obtain ⟨p, hp⟩ : ∃ p, posI s s[i].id = p := ⟨_, rfl⟩
  have hp24 : p < 24 := by omega
  refine .skip ?_
  refine .seq ?_
  refine .block ?_
  refine .seq ?_
  refine .rn ?_
  refine .seq ?_
  refine .regionL [0,1,2,3,4,5,6,7,8] rfl zz0 ?_
  refine .rn [0,1,2] [3,4,5,6,7,8] ?_
  refine .step rfl rfl (.pure rfl rfl rfl Tryz.call161 (by decide) ((by have h := p161 (idsS s) s[i].id (posI s s[i].id) hp1 hp2 hso (by omega); rw [hp] at h; exact h)) (by first | rfl | simp [*]) ?_)
  rintro _ rfl
  refine .rn [4,5,6,7,8] [] ?_
  refine .done ?_
  refine .seq ?_
  refine .rn ?_
  refine .block ?_
  refine .loopS (fun st : Nat × List (Int × Int) => ([(3, .mapv 1),(4, ints (idsS s)),(7, .int .i64 p),(15, .vec (s.map encW)),(16, .int .i64 s.length),(17, .int .i64 i),(29, ints s[i].slips),(30, .int .i64 s[i].slips.length),(31, .int .i64 st.1)], ⟨2,[(1, .map (kvs (kvM st.2))),(0, .box [.vec (s.map encW)])]⟩)) (fun st => st.1 ≤ s[i].slips.length ∧ (s[i].slips.drop st.1).foldl (putM p) st.2 = s[i].slips.foldl (putM p) es) (fun st => s[i].slips.length - st.1) (0, es) ⟨by simp, by simp⟩ (.mk [] [] zz14 zz15 rfl rfl rfl) ?_
  rintro ⟨j, es2⟩ ⟨hj, hs⟩
  simp only at hj hs ⊢
  refine .seq ?_
  refine .rn ?_
  refine .seq ?_
  refine .condS rfl (fun c32 => ?_) (fun c32 => ?_)
  ·try simp at c32
   have hw3 : IntKind.i64.wrap ((j : Int) + 1) = (j : Int) + 1 := wrap64 (by omega) (by omega)
   rw [foldl_drop (putM p) s[i].slips j c32] at hs
   have hpf := pfind_kvM s[i].slips[j] es2
   have hpm := fun v => pmset_kvM s[i].slips[j] v es2
   rcases hgm : getM es2 s[i].slips[j] with _ | v0 <;> rw [hgm] at hpf <;> simp only [Option.map] at hpf
   ·skip
    refine .skip ?_
    refine .seq ?_
    refine .block ?_
    refine .seq ?_
    refine .rn ?_
    refine .drawn (ms := [0,0,3,0,8,31,63]) (W := [6]) (items := [.op 0, .op 1, .op 2, .op 3, .op 4, .op 5, .op 6]) rfl zz0 zz0 zz0 ?_
    refine .rx ?_
    refine .rx ?_
    refine .rx ?_
    refine .rx ?_
    refine .rx ?_
    refine .rx ?_
    refine .wr rfl rfl (by decide) (.vop zz1 (by decide) ?_)
    refine .done ?_
    refine .rn ?_
    have hpu : putM p es2 s[i].slips[j] = setM es2 s[i].slips[j] (orV 0 (bitV p)) := by unfold putM; rw [hgm]; rfl
    refine ⟨(j + 1, putM p es2 s[i].slips[j]), ⟨zz5, hs⟩, zz5,(.mk [] [] zz14 zz15 rfl rfl rfl)⟩
   ·skip
    refine .skip ?_
    refine .seq ?_
    refine .block ?_
    refine .seq ?_
    refine .rn ?_
    refine .drawn (ms := [0,0,3,0,8,31,63]) (W := [6]) (items := [.op 0, .op 1, .op 2, .op 3, .op 4, .op 5, .op 6]) rfl zz0 zz0 zz0 ?_
    refine .rx ?_
    refine .rx ?_
    refine .rx ?_
    refine .rx ?_
    refine .rx ?_
    refine .rx ?_
    refine .wr rfl rfl (by decide) (.vop zz1 (by decide) ?_)
    refine .done ?_
    refine .rn ?_
    have hpu : putM p es2 s[i].slips[j] = setM es2 s[i].slips[j] (orV v0 (bitV p)) := by unfold putM; rw [hgm]; rfl
    refine ⟨(j + 1, putM p es2 s[i].slips[j]), ⟨zz5, hs⟩, zz5,(.mk [] [] zz14 zz15 rfl rfl rfl)⟩
  ·try simp at c32
   have hj2 : j = s[i].slips.length := by omega
   refine .exit ?_
   refine .rn ?_
   refine ⟨(i + 1, es2), ⟨zz5, ?_⟩, zz5,(.mk [] [] zz14 zz15 rfl rfl rfl)⟩
   rw [← hr, heldF, hp, ← hs, hj2, List.drop_length]; rfl
 ·try simp at c18
  have hi2 : i = s.length := by omega
  refine .exit ?_
  refine .seq ?_
  refine .rn ?_
  refine .ret ?_
  refine ⟨_, _, zz4,zz4, ?_⟩
  rw [← hr, hi2, List.drop_length]; rfl
end Go.Am.Ds
end
section
namespace Go.Am.Ds
open Go Go.Am Go.Proofs
theorem nodup_sub : ∀ {l m : List Int}, l.Nodup → (∀ x ∈ l, x ∈ m) → l.length ≤ m.length
 | [], _, _, _ => Nat.zero_le _
 | a :: r, m, hn, h => by
  rw [List.nodup_cons] at hn
  have ha := h a List.mem_cons_self
  have ih := nodup_sub (l := r) (m := m.erase a) hn.2 fun x hx => (List.mem_erase_of_ne (by rintro rfl; exact hn.1 hx)).2 (h x (List.mem_cons_of_mem _ hx))
  rw [List.length_erase_of_mem ha] at ih
  have := List.length_pos_iff.2 (List.ne_nil_of_mem ha)
  rw [List.length_cons]; omega
theorem foldM_mem (k : Nat) : ∀ (l : List Int) (es : List (Int × Int)) (n : Int), n ∈ (l.foldl (putM k) es).map (·.1) ↔ n ∈ es.map (·.1) ∨ n ∈ l
 | [], es, n => by simp
 | a :: r, es, n => by
  rw [List.foldl_cons, foldM_mem k r, putM, setM_mem, List.mem_cons]
  constructor
  ·rintro ((h | h) | h)
   ·exact .inl h
   ·exact .inr (.inl h)
   ·exact .inr (.inr h)
  ·rintro (h | h | h)
   ·exact .inl (.inl h)
   ·exact .inl (.inr h)
   ·exact .inr h
theorem foldM_nodup (k : Nat) : ∀ (l : List Int) (es : List (Int × Int)),(es.map (·.1)).Nodup → ((l.foldl (putM k) es).map (·.1)).Nodup
 | [], _, h => h
 | a :: r, es, h => by rw [List.foldl_cons]; exact foldM_nodup k r _ (setM_nodup h _ _)
theorem heldM_mem {s : List Wit} {n : Int} : n ∈ (heldM s).map (·.1) ↔ ∃ w ∈ s, n ∈ w.slips := by
 have : ∀ (l : List Wit) (es : List (Int × Int)), n ∈ (l.foldl (heldF s) es).map (·.1) ↔ n ∈ es.map (·.1) ∨ ∃ w ∈ l, n ∈ w.slips := by
  intro l
  induction l with
  | nil => intro es; simp
  | cons a r ih =>
   intro es
   rw [List.foldl_cons, ih, heldF, foldM_mem]
   constructor
   ·rintro ((h | h) | ⟨w, h1, h2⟩)
    ·exact .inl h
    ·exact .inr ⟨a, List.mem_cons_self, h⟩
    ·exact .inr ⟨w, List.mem_cons_of_mem _ h1, h2⟩
   ·rintro (h | ⟨w, h1, h2⟩)
    ·exact .inl (.inl h)
    ·rcases List.mem_cons.1 h1 with rfl | h1
     ·exact .inl (.inr h2)
     ·exact .inr ⟨w, h1, h2⟩
 unfold heldM
 rw [this]; simp
theorem heldM_nodup (s : List Wit) : ((heldM s).map (·.1)).Nodup := by
 have : ∀ (l : List Wit) (es : List (Int × Int)),(es.map (·.1)).Nodup → ((l.foldl (heldF s) es).map (·.1)).Nodup := by
  intro l
  induction l with
  | nil => intro es h; exact h
  | cons a r ih => intro es h; exact ih _ (foldM_nodup _ _ _ h)
 exact this s [] (by simp)
theorem heldM_len {s : List Wit} (h : checkS s = 0) : (heldM s).length ≤ 24 * 30 := by
 obtain ⟨h1, h2⟩ := checkS_ok h
 have e1 : ((heldM s).map (·.1)).length ≤ (s.flatMap Wit.slips).length := nodup_sub (heldM_nodup s) fun x hx => by
  obtain ⟨w, hw, hx⟩ := heldM_mem.1 hx
  exact List.mem_flatMap.2 ⟨w, hw, hx⟩
 have e2 : ∀ l : List Wit, (∀ w ∈ l, w.slips.length ≤ 30) → (l.flatMap Wit.slips).length ≤ l.length * 30 := by
  intro l
  induction l with
  | nil => intro _; simp
  | cons a r ih =>
   intro h3
   have := ih fun w hw => h3 w (List.mem_cons_of_mem _ hw)
   have := h3 a List.mem_cons_self
   rw [List.flatMap_cons, List.length_append, List.length_cons]; omega
 have e3 := e2 s fun w hw => (witE_len (h2 w hw)).1
 have e4 : s.length * 30 ≤ 24 * 30 := Nat.mul_le_mul_right 30 h1
 rw [List.length_map] at e1; omega
def slipsL (s : List Wit) : List Int := ((heldM s).map (·.1)).mergeSort fun x y => decide (x ≤ y)
def slipsR (s : List Wit) : List Int := if checkS s = 0 then slipsL s else []
theorem slipsL_len (s : List Wit) : (slipsL s).length = (heldM s).length := by simp [slipsL]
theorem slipsL_mem {s : List Wit} {n : Int} : n ∈ slipsL s ↔ ∃ w ∈ s, n ∈ w.slips := by
 unfold slipsL; rw [List.mem_mergeSort, heldM_mem]
theorem kvM_keys (l : List (Int × Int)) : (kvM l).map (·.1) = l.map (·.1) := by unfold kvM; rw [List.map_map]; rfl
def oldS (s : List Wit) (id : Int) : List Int := match getW s id with
 | some p => p.slips
 | none => []
def oldF (s : List Wit) (id : Int) (k : Nat) : List Int := (s.take k).foldl (fun o w => if w.id = id then w.slips else o) []
theorem oldF_succ (s : List Wit) (id : Int) (k : Nat) (h : k < s.length) : oldF s id (k + 1) = if s[k].id = id then s[k].slips else oldF s id k := by
 unfold oldF; rw [List.take_succ_eq_append_getElem h, List.foldl_append]; rfl
theorem oldF_all {s : List Wit} (h : (s.map Wit.id).Nodup) (id : Int) : oldF s id s.length = oldS s id := by
 have h1 : ∀ (l : List Wit) (o : List Int),(∀ w ∈ l, w.id ≠ id) → l.foldl (fun o w => if w.id = id then w.slips else o) o = o := by
  intro l
  induction l with
  | nil => intro o _; rfl
  | cons a r ih =>
   intro o h2
   rw [List.foldl_cons, if_neg (h2 a List.mem_cons_self)]
   exact ih o fun w hw => h2 w (List.mem_cons_of_mem _ hw)
 have : ∀ (l : List Wit),(l.map Wit.id).Nodup → ∀ o, l.foldl (fun o w => if w.id = id then w.slips else o) o = match getW l id with | some p => p.slips | none => o := by
  intro l
  induction l with
  | nil => intro _ o; rfl
  | cons a r ih =>
   intro hn o
   rw [List.map_cons, List.nodup_cons] at hn
   rw [List.foldl_cons]
   unfold getW
   rw [List.find?_cons]
   by_cases h2 : a.id = id
   ·rw [if_pos h2, decide_eq_true h2]
    exact h1 r _ fun w hw h3 => hn.1 (by rw [h2, ← h3]; exact List.mem_map_of_mem hw)
   ·rw [if_neg h2, decide_eq_false h2]
    exact ih hn.2 o
 unfold oldF
 rw [List.take_length, this s h]
 rfl
def freL (s : List Wit) (l : List Int) (id : Int) : List Int := l.filter fun n => !decide (n ∈ oldS s id)
theorem freL_fr {s : List Wit} (h : checkS s = 0) (c : Wit) {b : Int} (hb : b = 0 ∨ ∃ p, getW s b = some p) : freL s c.slips b = frS s c b := by
 unfold freL frS oldS
 rcases hb with rfl | ⟨p, hp⟩
 ·rw [if_pos rfl, getW_zero h]
  exact List.filter_eq_self.2 fun x _ => by simp
 ·have h0 : b ≠ 0 := fun h0 => by rw [h0, getW_zero h] at hp; cases hp
  rw [if_neg h0, hp, atI, hp, ariS_eq]; rfl
theorem min_hi : ∀ {l : List Wit}, l ≠ [] → ∃ w ∈ l, ∀ v ∈ l, w.hi ≤ v.hi
 | [a], _ => ⟨a, List.mem_cons_self, fun v hv => by rw [List.mem_singleton] at hv; subst hv; exact Int.le_refl _⟩
 | a :: b :: r, _ => by
  obtain ⟨w, hw, h1⟩ := min_hi (l := b :: r) (by simp)
  by_cases h2 : a.hi ≤ w.hi
  ·refine ⟨a, List.mem_cons_self, fun v hv => ?_⟩
   rcases List.mem_cons.1 hv with rfl | hv
   ·exact Int.le_refl _
   ·have := h1 v hv; omega
  ·refine ⟨w, List.mem_cons_of_mem _ hw, fun v hv => ?_⟩
   rcases List.mem_cons.1 hv with rfl | hv
   ·omega
   ·exact h1 v hv
theorem arises {s : List Wit} (h : checkS s = 0) {n : Int} (hn : ∃ w ∈ s, n ∈ w.slips) : ∃ w ∈ s, n ∈ w.slips ∧ ∀ y ∈ parS s w, n ∈ frS s w y.1 := by
 obtain ⟨w0, hw0, hx0⟩ := hn
 have hne : (s.filter fun w => decide (n ∈ w.slips)) ≠ [] := List.ne_nil_of_mem (List.mem_filter.2 ⟨hw0, by simpa using hx0⟩)
 obtain ⟨w, hw, hmin⟩ := min_hi hne
 obtain ⟨hws, hwx⟩ := List.mem_filter.1 hw
 rw [decide_eq_true_eq] at hwx
 refine ⟨w, hws, hwx, fun y hy => ?_⟩
 rcases parS_mem.1 hy with ⟨rfl, _⟩ | ⟨p, _, h2, h3, _⟩
 ·unfold frS; rw [if_pos rfl]; exact hwx
 ·have h0 : y.1 ≠ 0 := fun h0 => by rw [h0, getW_zero h] at h2; cases h2
  unfold frS
  rw [if_neg h0, atI, h2, ariS_eq]
  refine List.mem_filter.2 ⟨hwx, ?_⟩
  simp only [Option.getD_some, Bool.not_eq_true', decide_eq_false_iff_not]
  intro hp
  have h4 := hmin p (List.mem_filter.2 ⟨(getW_mem h2).1, by simpa using hp⟩)
  have h5 := why_hi h3
  have h6 := wit_lohi h hws
  omega
theorem sum_len {α : Type} (f : α → List Int) : ∀ l : List α, ((l.flatMap f).length : Int) = (l.map fun x => ((f x).length : Int)).sum
 | [] => rfl
 | a :: r => by rw [List.flatMap_cons, List.length_append, List.map_cons, List.sum_cons, ← sum_len f r]; push_cast; rfl
def ariP (s : List Wit) (l : List Int) (k : Nat) : Int := (((s.zip l).take k).map fun x => ((freL s x.1.slips x.2).length : Int)).sum
theorem ariP_succ (s : List Wit) (l : List Int) (k : Nat) (h : k < s.length) (h2 : k < l.length) : ariP s l (k + 1) = ariP s l k + ((freL s s[k].slips l[k]).length : Int) := by
 unfold ariP
 rw [List.take_succ_eq_append_getElem (by simp; omega)]
 simp
end Go.Am.Ds
end
section
namespace Go.Am.Ds
open Go Go.Am Go.Proofs
set_option maxRecDepth 100000
set_option maxHeartbeats 4000000
set_option linter.unusedSimpArgs false
set_option linter.unusedVariables false
attribute [local simp] vrun vwanted vyielded vop vopA vputAll VHeap.back hidI hidF backL bm Nat.testBit_eq_decide_div_mod_eq veval vevals vparts vO vbuiltin vlen vappend velems vcopy vmakeSlice vbuildSlice valloc vbox vmakeMap vload vpartT vpart vstore vfieldAddr vfield vindexAddr vindex vextract vslice vsliceZ vbounds vbnd zeroO vidx vlookup vmget vmapUpdate vdelete vclear vnilq vnilp vnils vbin vsc vsc1 vscs vscl abinOp aint ashift aunOp aconvert amaxs amax2 pvcV pvc pvcs tput tget vargs VHeap.get VHeap.alloc VHeap.put VHeap.drop VHeap.empty vlook vput vdrop psplice pfill preps chunk List.range List.range.loop vresults vresult vresultV frz frzL PV.isF PV.allF PV.scal PV.allS retP subT allFT PV.one PV.ids PV.idsL dropL beq_eq ble_dec blt_dec
attribute [local simp] zW tup2
theorem p47a (s : List Wit) (hl : s.length < 4294967296) : VPure Tryz.prog 47 [encS s] fun r => Soft r (.tup [ints (slipsR s), .int .i64 (checkS s)]) := by
 refine .of_body Tryz.func47 rfl rfl ?_
 refine .seq ?_
 refine .rn ?_
 refine .seq ?_
 refine .seq ?_
 refine .regionL [0,1,2] rfl zz0 ?_
 refine .rn [0] [1,2] ?_
 refine .step rfl rfl (.pure rfl rfl rfl Tryz.call35 (by decide) (p35 s hl) (by first | rfl | simp [*]) ?_)
 rintro _ rfl
 refine .rn [2] [] ?_
 refine .done ?_
 refine .seq ?_
 refine .rn ?_
 refine .condS rfl (fun c8 => ?_) (fun c8 => ?_)
 ·try simp at c8
  refine .seq ?_
  refine .rn ?_
  refine .ret ?_
  refine ⟨_, _, zz4,zz4, ?_⟩
  rw [show slipsR s = [] by unfold slipsR; rw [if_neg c8]]
  exact soft_tup (AltL.cons .sl0v (AltL.cons (.same _ rfl) AltL.nil))
 ·try simp at c8
  have hlen := heldM_len c8
  have h125 : VPure Tryz.prog 125 [.vmap (kvs (kvM (heldM s)))] fun r => r = ints (slipsL s) := by
   have h := p125 (kvM (heldM s)) (by rw [kvM_keys]; exact heldM_nodup s) (by simp only [kvM, List.length_map]; omega)
   rw [kvM_keys] at h; exact h
  refine .skip ?_
  refine .seq ?_
  refine .regionL [0,1,2,3,4] rfl zz0 ?_
  refine .rn [0] [1,2,3,4] ?_
  refine .step rfl rfl (.pure rfl rfl rfl Tryz.call94 (by decide) (p94 s c8) (by first | rfl | simp [*]) ?_)
  rintro _ rfl
  refine .step rfl rfl (.pure rfl rfl rfl Tryz.call125 (by decide) (h125) (by first | rfl | simp [*]) ?_)
  rintro _ rfl
  refine .rn [3,4] [] ?_
  refine .done ?_
  refine .ret ?_
  refine ⟨_, _, zz4,zz4, ?_⟩
  rw [show slipsR s = slipsL s by unfold slipsR; rw [if_pos c8], c8]
  exact soft_rfl rfl
theorem p47 (s : List Wit) (hl : s.length < 4294967296) : VPure Tryz.prog 47 [encS s] fun r => r = .tup [ints (slipsR s), .int .i64 (checkS s)] := VPure.soft (p47a s hl) rfl
theorem p68 (s : List Wit) (l : List Int) (id : Int) (h : checkS s = 0) (hlL : l.length < 4294967296) : VPure Tryz.prog 68 [encS s, ints l, .int .i64 id] fun r => r = ints (freL s l id) := by
 have hl24 := (checkS_ok h).1
 have hold : (oldS s id).length < 4611686018427387904 := by
  unfold oldS
  cases hg : getW s id with
  | none => simp
  | some p => have := (checkS_lens h p (getW_mem hg).1).1; simp only; omega
 refine .of_body Tryz.func68 rfl rfl ?_
 refine .seq ?_
 refine .rn ?_
 refine .seq ?_
 refine .rn ?_
 refine .seq ?_
 refine .seq ?_
 refine .rn ?_
 refine .block ?_
 refine .loopS (fun k : Nat => ([(1, ints l),(2, .int .i64 id),(3, .ptr 0 0),(7, ints (oldF s id k)),(8, .int .i64 k)], ⟨1,[(0, .box [.vec (s.map encW)])]⟩)) (fun k => k ≤ s.length) (fun k => s.length - k) 0 (by simp) (.mk [] [] zz14 zz15 rfl rfl rfl) ?_
 rintro k hk
 simp only at hk ⊢
 refine .seq ?_
 refine .seq ?_
 refine .rn ?_
 refine .condS rfl (fun c15 => ?_) (fun c15 => ?_)
 ·try simp at c15
  have hw2 : IntKind.i64.wrap ((k : Int) + 1) = (k : Int) + 1 := wrap64 (by omega) (by omega)
  have hE : encW s[k] = .agg [.int .i64 s[k].id, .int .i64 s[k].known, ints s[k].slips, ints s[k].mended, ints s[k].models, .int .i64 s[k].lo, .int .i64 s[k].hi] := rfl
  have hS := oldF_succ s id k c15
  refine .skip ?_
  refine .seq ?_
  refine .block ?_
  refine .seq ?_
  refine .rn ?_
  refine .condS rfl (fun c25 => ?_) (fun c25 => ?_)
  ·try simp at c25
   rw [if_pos c25] at hS
   refine .rn ?_
   refine .rn ?_
   refine ⟨k + 1, c15,zz5,(.mk [] [] zz14 zz15 rfl rfl rfl)⟩
  ·try simp at c25
   rw [if_neg c25] at hS
   refine .skip ?_
   refine .rn ?_
   refine ⟨k + 1, c15,zz5,(.mk [] [] zz14 zz15 rfl rfl rfl)⟩
 ·try simp at c15
  have hk2 : k = s.length := by omega
  subst hk2
  have hall := oldF_all (checkS_nodup h) id
  refine .exit ?_
  refine .seq ?_
  refine .rn ?_
  refine .seq ?_
  refine .seq ?_
  refine .rn ?_
  refine .block ?_
  refine .loopS (fun i : Nat => ([(1, ints l),(7, ints (oldS s id)),(9, .grow 1 ((l.take i).filter fun n => !decide (n ∈ oldS s id)).length true),(10, .int .i64 i)], ⟨2,[(1, .grow 1 (((l.take i).filter fun n => !decide (n ∈ oldS s id)).map (.int .i64)))]⟩)) (fun i => i ≤ l.length) (fun i => l.length - i) 0 (by simp) (.mk [] [] zz14 zz15 rfl rfl rfl) ?_
  rintro i hi
  simp only at hi ⊢
  refine .seq ?_
  refine .seq ?_
  refine .rn ?_
  refine .condS rfl (fun c35 => ?_) (fun c35 => ?_)
  ·try simp at c35
   have hw2 : IntKind.i64.wrap ((i : Int) + 1) = (i : Int) + 1 := wrap64 (by omega) (by omega)
   have hT := take_succ_filt (fun n => !decide (n ∈ oldS s id)) l i c35
   have hle : ((l.take i).filter fun n => !decide (n ∈ oldS s id)).length ≤ i := Nat.le_trans (List.length_filter_le _ _) (by simp; omega)
   have hb : ((l.take i).filter fun n => !decide (n ∈ oldS s id)).length ≤ 4294967295 := by omega
   have hone : allOne [PV.int IntKind.i64 l[i]] = true := rfl
   refine .skip ?_
   refine .seq ?_
   refine .block ?_
   refine .seq ?_
   refine .regionL [0,1,2,3,4,5,6] rfl zz0 ?_
   refine .rn [0,1,2,3,4] [5,6] ?_
   refine .step rfl rfl (.pure rfl rfl rfl Tryz.call46 (by decide) (p46 (oldS s id) l[i] hold) (by first | rfl | simp [*]) ?_)
   rintro _ rfl
   refine .rn [6] [] ?_
   refine .done ?_
   refine .condS rfl (fun c44 => ?_) (fun c44 => ?_)
   ·try simp at c44
    rw [if_pos (by simp [c44])] at hT
    refine .rn ?_
    refine .rn ?_
    refine ⟨i + 1, c35,zz5,(.mk [] [(1,3)] zz14 zz15 rfl rfl rfl)⟩
   ·try simp at c44
    rw [if_neg (by simp [c44])] at hT
    refine .skip ?_
    refine .rn ?_
    refine ⟨i + 1, c35,zz5,(.mk [] [] zz14 zz15 rfl rfl rfl)⟩
  ·try simp at c35
   have hi2 : i = l.length := by omega
   subst hi2
   refine .exit ?_
   refine .seq ?_
   refine .rn ?_
   refine .ret ?_
   refine ⟨_, _, zz4,zz4, ?_⟩
   unfold freL; rfl
end Go.Am.Ds
end
section
namespace Go.Am.Ds
open Go Go.Am Go.Proofs
set_option maxRecDepth 100000
set_option maxHeartbeats 4000000
set_option linter.unusedSimpArgs false
set_option linter.unusedVariables false
attribute [local simp] vrun vwanted vyielded vop vopA vputAll VHeap.back hidI hidF backL bm Nat.testBit_eq_decide_div_mod_eq veval vevals vparts vO vbuiltin vlen vappend velems vcopy vmakeSlice vbuildSlice valloc vbox vmakeMap vload vpartT vpart vstore vfieldAddr vfield vindexAddr vindex vextract vslice vsliceZ vbounds vbnd zeroO vidx vlookup vmget vmapUpdate vdelete vclear vnilq vnilp vnils vbin vsc vsc1 vscs vscl abinOp aint ashift aunOp aconvert amaxs amax2 pvcV pvc pvcs tput tget vargs VHeap.get VHeap.alloc VHeap.put VHeap.drop VHeap.empty vlook vput vdrop psplice pfill preps chunk List.range List.range.loop vresults vresult vresultV frz frzL PV.isF PV.allF PV.scal PV.allS retP subT allFT PV.one PV.ids PV.idsL dropL beq_eq ble_dec blt_dec
attribute [local simp] zW tup2
def tiP (s : List Wit) (slip : Int) (w : Wit) (q : Nat) : Nat := ((choF s w).1.take q).countP fun p => decide (slip ∈ frS s w p)
def tiW (s : List Wit) (slip : Int) (w : Wit) : Nat := (choF s w).1.countP fun p => decide (slip ∈ frS s w p)
def surB (s : List Wit) (slip id : Int) : Bool := match getW s id with
 | some w => decide (tiW s slip w = (choF s w).1.length)
 | none => false
def mayI (s : List Wit) (slip id : Int) : Bool := match getW s id with
 | some w => decide (0 < tiW s slip w)
 | none => false
def surL (s : List Wit) (slip : Int) : List Int := (idsS s).filter (surB s slip)
def mayL (s : List Wit) (slip : Int) : List Int := (idsS s).filter (mayI s slip)
theorem tiP_succ (s : List Wit) (slip : Int) (w : Wit) (q : Nat) (h : q < (choF s w).1.length) : tiP s slip w (q + 1) = tiP s slip w q + if slip ∈ frS s w (choF s w).1[q] then 1 else 0 := by
 unfold tiP
 rw [List.take_succ_eq_append_getElem h, List.countP_append]
 congr 1
 simp [List.countP_cons]
theorem tiP_le (s : List Wit) (slip : Int) (w : Wit) (q : Nat) : tiP s slip w q ≤ q := by
 unfold tiP
 exact Nat.le_trans List.countP_le_length (by simp; omega)
theorem tiP_all (s : List Wit) (slip : Int) (w : Wit) : tiP s slip w (choF s w).1.length = tiW s slip w := by unfold tiP tiW; rw [List.take_length]
theorem cho_fr {s : List Wit} (h : checkS s = 0) {w : Wit} {p : Int} (hp : p ∈ (choF s w).1) : (getW s p = none ∧ frS s w p = w.slips) ∨ ∃ pw, getW s p = some pw ∧ frS s w p = ariS w pw := by
 rcases parS_mem.1 (choF_mem hp) with ⟨h1, _⟩ | ⟨pw, _, h2, _⟩
 ·injection h1 with h1 _
  subst h1
  exact .inl ⟨getW_zero h, by unfold frS; rw [if_pos rfl]⟩
 ·simp only at h2
  have h0 : p ≠ 0 := fun h0 => by rw [h0, getW_zero h] at h2; cases h2
  exact .inr ⟨pw, h2, by unfold frS; rw [if_neg h0, atI, h2]; rfl⟩
theorem p127 (l : List (Int × Int)) (n : Int) : VPure Tryz.prog 127 [.vmap (kvs (kvM l)), .int .i64 n] fun r => r = .bool (decide (n ∈ l.map (·.1))) := by
 have hp := pfind_kvM n l
 have hm : decide (n ∈ l.map (·.1)) = (getM l n).isSome := by rw [Bool.eq_iff_iff, getM_mem, decide_eq_true_eq]
 rw [hm]
 generalize getM l n = g at hp ⊢
 refine .of_body Tryz.func127 rfl rfl ?_
 rcases g with _ | v
 ·
  refine .seq ?_
  refine .rn ?_
  refine .seq ?_
  refine .rn ?_
  refine .seq ?_
  refine .rn ?_
  refine .ret ?_
  refine ⟨_, _, zz4,zz4, ?_⟩
  first | rfl | (simp [*]; done) | (simp_all; done)
 ·
  refine .seq ?_
  refine .rn ?_
  refine .seq ?_
  refine .rn ?_
  refine .seq ?_
  refine .rn ?_
  refine .ret ?_
  refine ⟨_, _, zz4,zz4, ?_⟩
  first | rfl | (simp [*]; done) | (simp_all; done)
theorem p140 (s : List Wit) (slip : Int) (hch : chE s = 0) : VPure Tryz.prog 140 [encS s, .vec ((chL s).map encC), .int .i64 slip] fun r => Soft r (.tup [ints (surL s slip), ints (mayL s slip)]) := by
 have h0 := (chE_ok hch).1
 have hl24 := (checkS_ok h0).1
 refine .of_body Tryz.func140 rfl rfl ?_
 refine .seq ?_
 refine .rn ?_
 refine .seq ?_
 refine .rn ?_
 refine .seq ?_
 refine .seq ?_
 refine .regionL [0,1,2,3] rfl zz0 ?_
 refine .rn [0] [1,2,3] ?_
 refine .step rfl rfl (.pure rfl rfl rfl Tryz.call99 (by decide) (p99' s (by omega)) (by first | rfl | simp [*]) ?_)
 rintro _ rfl
 refine .rn [2,3] [] ?_
 refine .done ?_
 refine .block ?_
 refine .loopS (fun k : Nat => ([(1, .vec ((chL s).map encC)),(2, .int .i64 slip),(3, .ptr 0 0),(8, .grow 1 ((idsS s).take k |>.filter (surB s slip)).length true),(9, .grow 2 ((idsS s).take k |>.filter (mayI s slip)).length true),(17, ints (idsS s)),(18, .int .i64 (idsS s).length),(19, .int .i64 k)], ⟨3,[(2, .grow 1 (((idsS s).take k |>.filter (mayI s slip)).map (.int .i64))),(1, .grow 1 (((idsS s).take k |>.filter (surB s slip)).map (.int .i64))),(0, .box [.vec (s.map encW)])]⟩)) (fun k => k ≤ (idsS s).length) (fun k => (idsS s).length - k) 0 (by simp) (.mk [] [] zz14 zz15 rfl rfl rfl) ?_
 rintro k hk
 simp only at hk ⊢
 refine .seq ?_
 refine .rn ?_
 refine .seq ?_
 refine .condS rfl (fun c20 => ?_) (fun c20 => ?_)
 ·try simp at c20
  have hk24 : k < 24 := by have := idsS_len s; omega
  have hw2 : IntKind.i64.wrap ((k : Int) + 1) = (k : Int) + 1 := wrap64 (by omega) (by omega)
  obtain ⟨j, hj, hje, hgb⟩ := getW_some (find_ids (List.getElem_mem c20))
  obtain ⟨hj2, hcj⟩ := chL_at2 hch hj
  have hE : encC (choF s s[j]) = .agg [ints (choF s s[j]).1, .int .i64 (choF s s[j]).2] := rfl
  have hcl : (choF s s[j]).1.length ≤ 25 := by rw [← chP_all]; have := chP_len s s[j] (idsS s).length; have := idsS_len s; omega
  have hle1 : ((idsS s).take k |>.filter (surB s slip)).length ≤ k := Nat.le_trans (List.length_filter_le _ _) (by simp; omega)
  have hle2 : ((idsS s).take k |>.filter (mayI s slip)).length ≤ k := Nat.le_trans (List.length_filter_le _ _) (by simp; omega)
  have hb1 : ((idsS s).take k |>.filter (surB s slip)).length ≤ 4294967295 := by omega
  have hb2 : ((idsS s).take k |>.filter (mayI s slip)).length ≤ 4294967295 := by omega
  have hone : allOne [PV.int IntKind.i64 (idsS s)[k]] = true := rfl
  have hT1 := take_succ_filt (surB s slip) (idsS s) k c20
  have hT2 := take_succ_filt (mayI s slip) (idsS s) k c20
  have hEj : encW s[j] = .agg [.int .i64 s[j].id, .int .i64 s[j].known, ints s[j].slips, ints s[j].mended, ints s[j].models, .int .i64 s[j].lo, .int .i64 s[j].hi] := rfl
  obtain ⟨hw1, _, _⟩ := checkS_lens h0 s[j] (List.getElem_mem hj)
  refine .skip ?_
  refine .seq ?_
  refine .block ?_
  refine .seq ?_
  refine .rn ?_
  refine .seq ?_
  refine .regionL [0,1,2,3] rfl zz0 ?_
  refine .rn [0,1] [2,3] ?_
  refine .step rfl rfl (.pure rfl rfl rfl Tryz.call105 (by decide) ((by have h := p105' s (idsS s)[k] (by omega); rw [hje] at h; exact h)) (by first | rfl | simp [*]) ?_)
  rintro _ rfl
  refine .rn [3] [] ?_
  refine .done ?_
  refine .seq ?_
  refine .rn ?_
  refine .seq ?_
  refine .seq ?_
  refine .rn ?_
  refine .block ?_
  refine .loopS (fun q : Nat => ([(1, .vec ((chL s).map encC)),(2, .int .i64 slip),(3, .ptr 0 0),(8, .grow 1 ((idsS s).take k |>.filter (surB s slip)).length true),(9, .grow 2 ((idsS s).take k |>.filter (mayI s slip)).length true),(11, .int .i64 (idsS s)[k]),(12, .int .i64 j),(13, .int .i64 (tiP s slip s[j] q)),(17, ints (idsS s)),(18, .int .i64 (idsS s).length),(19, .int .i64 k),(30, ints (choF s s[j]).1),(31, .int .i64 (choF s s[j]).1.length),(32, .int .i64 q)], ⟨3,[(2, .grow 1 (((idsS s).take k |>.filter (mayI s slip)).map (.int .i64))),(1, .grow 1 (((idsS s).take k |>.filter (surB s slip)).map (.int .i64))),(0, .box [.vec (s.map encW)])]⟩)) (fun q => q ≤ (choF s s[j]).1.length) (fun q => (choF s s[j]).1.length - q) 0 (by simp [tiP]) (.mk [] [] zz14 zz15 rfl rfl rfl) ?_
  rintro q hq
  simp only at hq ⊢
  have htl := tiP_le s slip s[j] q
  refine .seq ?_
  refine .rn ?_
  refine .seq ?_
  refine .condS rfl (fun c33 => ?_) (fun c33 => ?_)
  ·try simp at c33
   have hw3 : IntKind.i64.wrap ((q : Int) + 1) = (q : Int) + 1 := wrap64 (by omega) (by omega)
   have hw4 : IntKind.i64.wrap ((tiP s slip s[j] q : Int) + 1) = (tiP s slip s[j] q : Int) + 1 := wrap64 (by omega) (by omega)
   have hS := tiP_succ s slip s[j] q c33
   have hcf := cho_fr h0 (List.getElem_mem c33)
   rcases hcf with ⟨hg, hfr⟩ | ⟨pw, hg, hfr⟩
   ·skip
    refine .skip ?_
    refine .seq ?_
    refine .block ?_
    refine .seq ?_
    refine .rn ?_
    refine .seq ?_
    refine .drawn (ms := [0,1,0,7,15,0,0,96,255,0,1023]) (W := [7,8,10]) (items := [.op 0, .op 1, .op 2, .op 3, .op 4, .op 5, .op 6, .op 9, .op 7, .ck 4, .ck 1, .op 8, .op 10]) rfl zz0 zz0 zz0 ?_
    refine .rx ?_
    refine .rx ?_
    refine .rx ?_
    refine .rx ?_
    refine .rx ?_
    refine .rx ?_
    refine .rx ?_
    refine .rx ?_
    refine .wr rfl rfl (by decide) (.pure rfl rfl rfl Tryz.call173 (by decide) ((by have h := p173 s (choF s s[j]).1[q] (by omega); rw [parR_none hg] at h; exact h)) (by first | rfl | simp [*]) ?_)
    rintro _ rfl
    refine .ck rfl zz0 ?_
    refine .ck rfl zz0 ?_
    refine .wr rfl rfl (by decide) (.pure rfl rfl rfl Tryz.call109 (by decide) (p109a s[j]) (by first | rfl | simp [*]) ?_)
    rintro _ rfl
    refine .wr rfl rfl (by decide) (.pure rfl rfl rfl Tryz.call144 (by decide) (p144d s[j].slips slip (by omega)) (by first | rfl | simp [*]) ?_)
    rintro _ rfl
    refine .done ?_
    refine .condS rfl (fun c46 => ?_) (fun c46 => ?_)
    ·try simp at c46
     rw [hfr, if_pos c46] at hS
     refine .rn ?_
     refine .rn ?_
     refine ⟨q + 1, c33,zz5,(.mk [] [] zz14 zz15 rfl rfl rfl)⟩
    ·try simp at c46
     rw [hfr, if_neg c46] at hS
     refine .skip ?_
     refine .rn ?_
     refine ⟨q + 1, c33,zz5,(.mk [] [] zz14 zz15 rfl rfl rfl)⟩
   ·skip
    refine .skip ?_
    refine .seq ?_
    refine .block ?_
    refine .seq ?_
    refine .rn ?_
    refine .seq ?_
    refine .drawn (ms := [0,1,0,7,15,0,0,96,255,0,1023]) (W := [7,8,10]) (items := [.op 0, .op 1, .op 2, .op 3, .op 4, .op 5, .op 6, .op 9, .op 7, .ck 4, .ck 1, .op 8, .op 10]) rfl zz0 zz0 zz0 ?_
    refine .rx ?_
    refine .rx ?_
    refine .rx ?_
    refine .rx ?_
    refine .rx ?_
    refine .rx ?_
    refine .rx ?_
    refine .rx ?_
    refine .wr rfl rfl (by decide) (.pure rfl rfl rfl Tryz.call173 (by decide) ((by have h := p173 s (choF s s[j]).1[q] (by omega); rw [parR_some hg] at h; exact h)) (by first | rfl | simp [*]) ?_)
    rintro _ rfl
    refine .ck rfl zz0 ?_
    refine .ck rfl zz0 ?_
    refine .wr rfl rfl (by decide) (.pure rfl rfl rfl Tryz.call109 (by decide) (p109 s[j] pw hw1 (checkS_lens h0 pw (getW_mem hg).1).1) (by first | rfl | simp [*]) ?_)
    rintro _ rfl
    refine .wr rfl rfl (by decide) (.pure rfl rfl rfl Tryz.call144 (by decide) (p144d (ariS s[j] pw) slip (by have := ariS_len s[j] pw; omega)) (by first | rfl | simp [*]) ?_)
    rintro _ rfl
    refine .done ?_
    refine .condS rfl (fun c46 => ?_) (fun c46 => ?_)
    ·try simp at c46
     rw [hfr, if_pos c46] at hS
     refine .rn ?_
     refine .rn ?_
     refine ⟨q + 1, c33,zz5,(.mk [] [] zz14 zz15 rfl rfl rfl)⟩
    ·try simp at c46
     rw [hfr, if_neg c46] at hS
     refine .skip ?_
     refine .rn ?_
     refine ⟨q + 1, c33,zz5,(.mk [] [] zz14 zz15 rfl rfl rfl)⟩
  ·try simp at c33
   have hq2 : q = (choF s s[j]).1.length := by omega
   subst hq2
   have hall := tiP_all s slip s[j]
   refine .exit ?_
   refine .seq ?_
   refine .seq ?_
   refine .rn ?_
   refine .condS rfl (fun c51 => ?_) (fun c51 => ?_)
   ·try simp at c51
    rw [if_pos (by unfold mayI; rw [hgb]; simp only [decide_eq_true_eq]; omega)] at hT2
    refine .rn ?_
    refine .seq ?_
    refine .rn ?_
    refine .condS rfl (fun c63 => ?_) (fun c63 => ?_)
    ·try simp at c63
     rw [if_pos (by unfold surB; rw [hgb]; simp only [decide_eq_true_eq]; omega)] at hT1
     refine .rn ?_
     refine .rn ?_
     refine ⟨k + 1, c20,zz5,(.mk [] [(1,6),(2,4)] zz14 zz15 rfl rfl rfl)⟩
    ·try simp at c63
     rw [if_neg (by unfold surB; rw [hgb]; simp only [decide_eq_true_eq]; omega)] at hT1
     refine .skip ?_
     refine .rn ?_
     refine ⟨k + 1, c20,zz5,(.mk [] [(2,4)] zz14 zz15 rfl rfl rfl)⟩
   ·try simp at c51
    rw [if_neg (by unfold mayI; rw [hgb]; simp only [decide_eq_true_eq]; omega)] at hT2
    refine .skip ?_
    refine .seq ?_
    refine .rn ?_
    refine .condS rfl (fun c63 => ?_) (fun c63 => ?_)
    ·try simp at c63
     rw [if_pos (by unfold surB; rw [hgb]; simp only [decide_eq_true_eq]; omega)] at hT1
     refine .rn ?_
     refine .rn ?_
     refine ⟨k + 1, c20,zz5,(.mk [] [(1,4)] zz14 zz15 rfl rfl rfl)⟩
    ·try simp at c63
     rw [if_neg (by unfold surB; rw [hgb]; simp only [decide_eq_true_eq]; omega)] at hT1
     refine .skip ?_
     refine .rn ?_
     refine ⟨k + 1, c20,zz5,(.mk [] [] zz14 zz15 rfl rfl rfl)⟩
 ·try simp at c20
  have hk2 : k = (idsS s).length := by omega
  subst hk2
  refine .exit ?_
  refine .seq ?_
  refine .rn ?_
  refine .ret ?_
  refine ⟨_, _, zz4,zz4, ?_⟩
  exact soft_rfl rfl
theorem p140' (s : List Wit) (slip : Int) (hch : chE s = 0) : VPure Tryz.prog 140 [encS s, .vec ((chL s).map encC), .int .i64 slip] fun r => r = .tup [ints (surL s slip), ints (mayL s slip)] := VPure.soft (p140 s slip hch) rfl
theorem p67 (s : List Wit) (slip : Int) (hch : chE s = 0) (hsl : ∃ w ∈ s, slip ∈ w.slips) : VPure Tryz.prog 67 [encS s, .int .i64 slip] fun r => r = .tup [ints (surL s slip), ints (mayL s slip), .int .i64 0] := by
 have h0 := (chE_ok hch).1
 have hl24 := (checkS_ok h0).1
 have hin : slip ∈ (heldM s).map (·.1) := heldM_mem.2 hsl
 have q35 := p35 s (by omega)
 rw [h0] at q35
 have q127 := p127 (heldM s) slip
 rw [decide_eq_true hin] at q127
 have q108 := p108' s (by omega)
 rw [hch] at q108
 refine .of_body Tryz.func67 rfl rfl ?_
 refine .seq ?_
 refine .rn ?_
 refine .seq ?_
 refine .seq ?_
 refine .regionL [0,1,2] rfl zz0 ?_
 refine .rn [0] [1,2] ?_
 refine .step rfl rfl (.pure rfl rfl rfl Tryz.call35 (by decide) (q35) (by first | rfl | simp [*]) ?_)
 rintro _ rfl
 refine .rn [2] [] ?_
 refine .done ?_
 refine .seq ?_
 refine .rn ?_
 refine .condS rfl (fun c15 => ?_) (fun c15 => ?_)
 ·try simp at c15
 ·try simp at c15
  refine .skip ?_
  refine .seq ?_
  refine .seq ?_
  refine .regionL [0,1,2,3,4] rfl zz0 ?_
  refine .rn [0] [1,2,3,4] ?_
  refine .step rfl rfl (.pure rfl rfl rfl Tryz.call94 (by decide) (p94 s h0) (by first | rfl | simp [*]) ?_)
  rintro _ rfl
  refine .rn [2] [3,4] ?_
  refine .step rfl rfl (.pure rfl rfl rfl Tryz.call127 (by decide) (q127) (by first | rfl | simp [*]) ?_)
  rintro _ rfl
  refine .rn [4] [] ?_
  refine .done ?_
  refine .condS rfl (fun c21 => ?_) (fun c21 => ?_)
  ·try simp at c21
  ·try simp at c21
   refine .skip ?_
   refine .seq ?_
   refine .regionL [0,1,2,3,4,5,6] rfl zz0 ?_
   refine .rn [0] [1,2,3,4,5,6] ?_
   refine .step rfl rfl (.pure rfl rfl rfl Tryz.call108 (by decide) (q108) (by first | rfl | simp [*]) ?_)
   rintro _ rfl
   refine .rn [2,3,4,5,6] [] ?_
   refine .done ?_
   refine .seq ?_
   refine .seq ?_
   refine .rn ?_
   refine .condS rfl (fun c28 => ?_) (fun c28 => ?_)
   ·try simp at c28
   ·try simp at c28
    refine .skip ?_
    refine .seq ?_
    refine .regionL [0,1,2,3,4,5,6,7,8] rfl zz0 ?_
    refine .rn [0,1,2] [3,4,5,6,7,8] ?_
    refine .step rfl rfl (.pure rfl rfl rfl Tryz.call140 (by decide) (p140' s slip hch) (by first | rfl | simp [*]) ?_)
    rintro _ rfl
    refine .rn [4,5,6,7,8] [] ?_
    refine .done ?_
    refine .seq ?_
    refine .rn ?_
    refine .ret ?_
    refine ⟨_, _, zz4,zz4, ?_⟩
    first | rfl | (simp [*]; done) | (simp_all; done)
def twL (s : List Wit) : List Int := (slipsL s).filter fun n => decide (2 ≤ (surL s n).length)
theorem p66 (s : List Wit) (hch : chE s = 0) : VPure Tryz.prog 66 [encS s] fun r => Soft r (.tup [ints (twL s), .int .i64 0]) := by
 have h0 := (chE_ok hch).1
 have hl24 := (checkS_ok h0).1
 have hlen := heldM_len h0
 have hsl := slipsL_len s
 have q108 := p108' s (by omega)
 rw [hch] at q108
 have h125 : VPure Tryz.prog 125 [.vmap (kvs (kvM (heldM s)))] fun r => r = ints (slipsL s) := by
  have h := p125 (kvM (heldM s)) (by rw [kvM_keys]; exact heldM_nodup s) (by simp only [kvM, List.length_map]; omega)
  rw [kvM_keys] at h; exact h
 have hL : (slipsL s).length ≤ 720 := by omega
 clear hsl
 refine .of_body Tryz.func66 rfl rfl ?_
 refine .seq ?_
 refine .rn ?_
 refine .seq ?_
 refine .regionL [0,1,2,3,4,5,6] rfl zz0 ?_
 refine .rn [0] [1,2,3,4,5,6] ?_
 refine .step rfl rfl (.pure rfl rfl rfl Tryz.call108 (by decide) (q108) (by first | rfl | simp [*]) ?_)
 rintro _ rfl
 refine .rn [2,3,4,5,6] [] ?_
 refine .done ?_
 refine .seq ?_
 refine .seq ?_
 refine .rn ?_
 refine .condS rfl (fun c17 => ?_) (fun c17 => ?_)
 ·try simp at c17
 ·try simp at c17
  refine .skip ?_
  refine .seq ?_
  refine .rn ?_
  refine .seq ?_
  refine .seq ?_
  refine .regionL [0,1,2,3,4] rfl zz0 ?_
  refine .rn [0] [1,2,3,4] ?_
  refine .step rfl rfl (.pure rfl rfl rfl Tryz.call94 (by decide) (p94 s h0) (by first | rfl | simp [*]) ?_)
  rintro _ rfl
  refine .step rfl rfl (.pure rfl rfl rfl Tryz.call125 (by decide) (h125) (by first | rfl | simp [*]) ?_)
  rintro _ rfl
  refine .rn [3,4] [] ?_
  refine .done ?_
  refine .block ?_
  refine .loopS (fun k : Nat => ([(1, .ptr 0 0),(4, .vec ((chL s).map encC)),(6, .grow 1 ((slipsL s).take k |>.filter fun n => decide (2 ≤ (surL s n).length)).length true),(21, ints (slipsL s)),(22, .int .i64 (slipsL s).length),(23, .int .i64 k)], ⟨2,[(1, .grow 1 (((slipsL s).take k |>.filter fun n => decide (2 ≤ (surL s n).length)).map (.int .i64))),(0, .box [.vec (s.map encW)])]⟩)) (fun k => k ≤ (slipsL s).length) (fun k => (slipsL s).length - k) 0 (by simp) (.mk [] [] zz14 zz15 rfl rfl rfl) ?_
  rintro k hk
  simp only at hk ⊢
  refine .seq ?_
  refine .rn ?_
  refine .seq ?_
  refine .condS rfl (fun c24 => ?_) (fun c24 => ?_)
  ·try simp at c24
   have hw2 : IntKind.i64.wrap ((k : Int) + 1) = (k : Int) + 1 := wrap64 (by omega) (by omega)
   have hle : ((slipsL s).take k |>.filter fun n => decide (2 ≤ (surL s n).length)).length ≤ k := Nat.le_trans (List.length_filter_le _ _) (by simp; omega)
   have hb : ((slipsL s).take k |>.filter fun n => decide (2 ≤ (surL s n).length)).length ≤ 4294967295 := by omega
   have hone : allOne [PV.int IntKind.i64 (slipsL s)[k]] = true := rfl
   have hT := take_succ_filt (fun n => decide (2 ≤ (surL s n).length)) (slipsL s) k c24
   refine .skip ?_
   refine .seq ?_
   refine .block ?_
   refine .seq ?_
   refine .rn ?_
   refine .seq ?_
   refine .regionL [0,1,2,3,4,5,6,7,8] rfl zz0 ?_
   refine .rn [0,1,2] [3,4,5,6,7,8] ?_
   refine .step rfl rfl (.pure rfl rfl rfl Tryz.call140 (by decide) (p140' s (slipsL s)[k] hch) (by first | rfl | simp [*]) ?_)
   rintro _ rfl
   refine .rn [4,5,6,7,8] [] ?_
   refine .done ?_
   refine .seq ?_
   refine .rn ?_
   refine .condS rfl (fun c36 => ?_) (fun c36 => ?_)
   ·try simp at c36
    rw [if_pos (by simp; omega)] at hT
    refine .rn ?_
    refine .rn ?_
    refine ⟨k + 1, c24,zz5,(.mk [] [(1,3)] zz14 zz15 rfl rfl rfl)⟩
   ·try simp at c36
    rw [if_neg (by simp; omega)] at hT
    refine .skip ?_
    refine .rn ?_
    refine ⟨k + 1, c24,zz5,(.mk [] [] zz14 zz15 rfl rfl rfl)⟩
  ·try simp at c24
   have hk2 : k = (slipsL s).length := by omega
   subst hk2
   refine .exit ?_
   refine .seq ?_
   refine .rn ?_
   refine .ret ?_
   refine ⟨_, _, zz4,zz4, ?_⟩
   exact soft_rfl rfl
theorem p66' (s : List Wit) (hch : chE s = 0) : VPure Tryz.prog 66 [encS s] fun r => r = .tup [ints (twL s), .int .i64 0] := VPure.soft (p66 s hch) rfl
end Go.Am.Ds
end
section
namespace Go.Am.Ds
open Go Go.Am Go.Proofs
structure ChOK (s : List Wit) (l : List Int) : Prop where
  len : l.length = s.length
  mem : ∀ i, ∀ hi : i < s.length, ∀ h2 : i < l.length, l[i] ∈ (choF s s[i]).1
theorem ch_best {s : List Wit} (h : chE s = 0) : ChOK s (bestP s) := by
 have hb : bestP s = s.map fun c => (choF s c).1.headD 0 := by unfold bestP; rw [chL_ok h, List.map_map]; rfl
 refine ⟨by rw [hb, List.length_map], fun i hi h2 => ?_⟩
 have aux : ∀ (l : List Int) (e : l = s.map fun c => (choF s c).1.headD 0) (hl : i < l.length), l[i] ∈ (choF s s[i]).1 := by
  rintro _ rfl hl
  rw [List.getElem_map]
  exact head_mem ((chE_ok h).2 _ (List.getElem_mem hi))
 exact aux _ hb h2
theorem cho_ok {s : List Wit} (h : checkS s = 0) {w : Wit} {p : Int} (hp : p ∈ (choF s w).1) : freL s w.slips p = frS s w p := by
 rcases cho_fr h hp with ⟨h1, _⟩ | ⟨pw, h1, _⟩
 ·rcases parS_mem.1 (choF_mem hp) with ⟨h2, _⟩ | ⟨q, _, h2, _⟩
  ·injection h2 with h2 _; exact freL_fr h w (.inl h2)
  ·simp only at h2; rw [h1] at h2; cases h2
 ·exact freL_fr h w (.inr ⟨pw, h1⟩)
theorem ch_ari {s : List Wit} (h : chE s = 0) {l : List Int} (hc : ChOK s l) : ∀ k, k ≤ s.length → ariP s l k = bestS s k
 | 0, _ => rfl
 | k + 1, hk => by
  obtain ⟨h0, _⟩ := chE_ok h
  have h1 : k < s.length := by omega
  have h2 : k < l.length := by rw [hc.len]; exact h1
  obtain ⟨h3, h4⟩ := chL_at2 h h1
  have hm := hc.mem k h1 h2
  have := parS_fr h0 (choF_mem hm)
  simp only at this
  rw [ariP_succ s l k h1 h2, bestS_succ s k h3, h4, ch_ari h hc k (by omega), cho_ok h0 hm, ← this]
theorem ch_des {s : List Wit} (h : chE s = 0) {l : List Int} (hc : ChOK s l) : ∀ k, k ≤ s.length → desP s l k = bestS s k ∧ ((desL s l).take k).all Option.isSome = true
 | 0, _ => ⟨rfl, rfl⟩
 | k + 1, hk => by
  obtain ⟨h0, _⟩ := chE_ok h
  have h1 : k < s.length := by omega
  have h2 : k < l.length := by rw [hc.len]; exact h1
  obtain ⟨h3, h4⟩ := chL_at2 h h1
  have hm := stepD_par h0 (choF_mem (hc.mem k h1 h2))
  obtain ⟨h5, h6⟩ := ch_des h hc k (by omega)
  rw [desP_succ s l k h1 h2, bestS_succ s k h3, h4, h5, desA_succ s l k h1 h2, h6, hm]
  exact ⟨rfl, rfl⟩
theorem ch_cb {s : List Wit} (h : chE s = 0) {l : List Int} (hc : ChOK s l) : cbR s l (bestS s (chL s).length) = 0 := by
 obtain ⟨h0, _⟩ := chE_ok h
 have hcl := chL_len h
 obtain ⟨h1, h2⟩ := ch_des h hc s.length (Nat.le_refl _)
 have h3 : (desL s l).all Option.isSome = true := by
  rw [List.take_of_length_le (by simp [desL]; omega)] at h2; exact h2
 have hd : desR s l = (bestS s (chL s).length, true) := by unfold desR; rw [if_pos ⟨hc.len, h3⟩, h1, hcl]
 unfold cbR
 rw [if_pos h0, hd, if_pos ⟨rfl, h, rfl, rfl⟩]
def tmB (s : List Wit) (n : Int) (x : Wit × Int) : Bool := decide (n ∈ freL s x.1.slips x.2)
def tmN (s : List Wit) (l : List Int) (n : Int) (k : Nat) : Nat := ((s.zip l).take k).countP (tmB s n)
theorem tmN_succ (s : List Wit) (l : List Int) (n : Int) (k : Nat) (h : k < s.length) (h2 : k < l.length) : tmN s l n (k + 1) = tmN s l n k + if n ∈ freL s s[k].slips l[k] then 1 else 0 := by
 unfold tmN
 rw [List.take_succ_eq_append_getElem (by simp; omega), List.countP_append]
 congr 1
 simp [List.countP_cons, tmB]
theorem tmN_le (s : List Wit) (l : List Int) (n : Int) (k : Nat) : tmN s l n k ≤ k := by
 unfold tmN
 exact Nat.le_trans List.countP_le_length (by simp; omega)
theorem tmN_all {s : List Wit} {l : List Int} (he : l.length = s.length) (n : Int) : tmN s l n s.length = (s.zip l).countP (tmB s n) := by
 unfold tmN; rw [List.take_of_length_le (by simp; omega)]
theorem tiW_pos {s : List Wit} {n : Int} {w : Wit} {p : Int} (hp : p ∈ (choF s w).1) (h : n ∈ frS s w p) : 0 < tiW s n w := by
 unfold tiW; exact List.countP_pos_iff.2 ⟨p, hp, by simpa using h⟩
theorem tiW_full {s : List Wit} {n : Int} {w : Wit} (h : tiW s n w = (choF s w).1.length) {p : Int} (hp : p ∈ (choF s w).1) : n ∈ frS s w p := by
 unfold tiW at h
 have := List.countP_eq_length.1 h p hp
 simpa using this
theorem ch_may {s : List Wit} (h : chE s = 0) {l : List Int} (hc : ChOK s l) {k : Nat} (hk : k < s.length) (h2 : k < l.length) (n : Int) : (n ∈ freL s s[k].slips l[k] → s[k].id ∈ mayL s n) ∧ (s[k].id ∈ surL s n → n ∈ freL s s[k].slips l[k]) := by
 obtain ⟨h0, _⟩ := chE_ok h
 have hm := hc.mem k hk h2
 have hg := getW_own (checkS_nodup h0) (List.getElem_mem hk)
 rw [cho_ok h0 hm]
 constructor
 ·intro h3
  refine List.mem_filter.2 ⟨idsS_mem.2 ⟨_, List.getElem_mem hk, rfl⟩, ?_⟩
  unfold mayI; rw [hg]
  exact decide_eq_true (tiW_pos hm h3)
 ·intro h3
  have h4 := (List.mem_filter.1 h3).2
  unfold surB at h4; rw [hg] at h4
  exact tiW_full (of_decide_eq_true h4) hm
theorem tm_pos {s : List Wit} (h : chE s = 0) {l : List Int} (hc : ChOK s l) {n : Int} (hn : n ∈ slipsL s) : 0 < tmN s l n s.length := by
 obtain ⟨h0, _⟩ := chE_ok h
 obtain ⟨w, hw, _, h2⟩ := arises h0 (slipsL_mem.1 hn)
 obtain ⟨i, hi, rfl⟩ := List.getElem_of_mem hw
 have h3 : i < l.length := by rw [hc.len]; exact hi
 have hm := hc.mem i hi h3
 rw [tmN_all hc.len]
 refine List.countP_pos_iff.2 ⟨(s[i], l[i]), ?_, ?_⟩
 ·have : (s.zip l)[i]'(by simp; omega) = (s[i], l[i]) := by rw [List.getElem_zip]
  rw [← this]; exact List.getElem_mem _
 ·unfold tmB; rw [cho_ok h0 hm]; exact decide_eq_true (h2 _ (choF_mem hm))
theorem sur_tm {s : List Wit} (h : chE s = 0) {l : List Int} (hc : ChOK s l) (n : Int) : (surL s n).length ≤ tmN s l n s.length := by
 obtain ⟨h0, _⟩ := chE_ok h
 have hp : (idsS s).Perm (s.map Wit.id) := List.mergeSort_perm _ _
 have e1 : (surL s n).length = s.countP fun w => surB s n w.id := by
  unfold surL
  rw [(hp.filter (surB s n)).length_eq, List.filter_map, List.length_map, List.countP_eq_length_filter]; rfl
 have e2 : s = (s.zip l).map Prod.fst := (List.map_fst_zip (by rw [hc.len]; exact Nat.le_refl _)).symm
 have e3 : ∀ q : Wit → Bool, s.countP q = (s.zip l).countP fun x => q x.1 := fun q => by
  conv => lhs; rw [e2]
  rw [List.countP_map]; rfl
 rw [e1, e3 fun w => surB s n w.id, tmN_all hc.len]
 refine List.countP_mono_left fun x hx h1 => ?_
 obtain ⟨i, hi, rfl⟩ := List.getElem_of_mem hx
 have h2 : i < s.length ∧ i < l.length := by simp at hi; omega
 rw [List.getElem_zip] at h1 ⊢
 simp only at h1
 unfold tmB
 exact decide_eq_true ((ch_may h hc h2.1 h2.2 n).2 (List.mem_filter.2 ⟨idsS_mem.2 ⟨_, List.getElem_mem h2.1, rfl⟩, h1⟩))
theorem count_flat (f : Wit × Int → List Int) (n : Int) : ∀ l : List (Wit × Int),(l.countP fun x => decide (n ∈ f x)) ≤ (l.flatMap f).count n
 | [] => by simp
 | a :: r => by
  have ih := count_flat f n r
  rw [List.flatMap_cons, List.count_append, List.countP_cons]
  by_cases h : n ∈ f a
  ·have := List.count_pos_iff.2 h
   simp [h]; omega
  ·simp [h]; omega
theorem tw_nil {s : List Wit} (h : chE s = 0) (he : bestS s (chL s).length = ((slipsL s).length : Int)) : twL s = [] := by
 obtain ⟨h0, _⟩ := chE_ok h
 have hc := ch_best h
 cases ht : twL s with
 | nil => rfl
 | cons n r =>
  exfalso
  have hn : n ∈ twL s := by rw [ht]; exact List.mem_cons_self
  obtain ⟨h1, h2⟩ := List.mem_filter.1 hn
  rw [decide_eq_true_eq] at h2
  have h3 := sur_tm h hc n
  rw [tmN_all hc.len] at h3
  have h4 := count_flat (fun x => freL s x.1.slips x.2) n (s.zip (bestP s))
  have h5 : 2 ≤ ((s.zip (bestP s)).flatMap fun x => freL s x.1.slips x.2).count n := by
   unfold tmB at h3; omega
  have h6 := sum_len (fun x : Wit × Int => freL s x.1.slips x.2) (s.zip (bestP s))
  have h7 : ((s.zip (bestP s)).map fun x => ((freL s x.1.slips x.2).length : Int)).sum = bestS s (chL s).length := by
   have := ch_ari h hc s.length (Nat.le_refl _)
   unfold ariP at this
   rw [List.take_of_length_le (by simp; omega)] at this
   rw [this, chL_len h]
  have h8 : (slipsL s).length ≤ (((s.zip (bestP s)).flatMap fun x => freL s x.1.slips x.2).erase n).length := by
   refine nodup_sub ((List.mergeSort_perm _ _).nodup_iff.2 (heldM_nodup s)) fun x hx => ?_
   by_cases hxn : x = n
   ·subst hxn
    refine List.count_pos_iff.1 ?_
    rw [List.count_erase_self]; omega
   ·refine (List.mem_erase_of_ne hxn).2 ?_
    have := tm_pos h hc hx
    rw [tmN_all hc.len] at this
    obtain ⟨y, hy, h9⟩ := List.countP_pos_iff.1 this
    exact List.mem_flatMap.2 ⟨y, hy, of_decide_eq_true h9⟩
  have h9 : n ∈ (s.zip (bestP s)).flatMap fun x => freL s x.1.slips x.2 := List.count_pos_iff.1 (by omega)
  rw [List.length_erase_of_mem h9] at h8
  have := List.length_pos_iff.2 (List.ne_nil_of_mem h9)
  omega
def canF (s : List Wit) (id : Int) (k : Nat) : List Int := (((kinT (fun _ => true) s).take k).filter fun x => decide (x.1 = id)).map (·.2)
theorem canF_succ (s : List Wit) (id : Int) (k : Nat) (h : k < (kinT (fun _ => true) s).length) : canF s id (k + 1) = if (kinT (fun _ => true) s)[k].1 = id then canF s id k ++ [(kinT (fun _ => true) s)[k].2] else canF s id k := by
 unfold canF
 rw [List.take_succ_eq_append_getElem h, List.filter_append, List.map_append]
 by_cases h1 : (kinT (fun _ => true) s)[k].1 = id <;> simp [h1]
theorem canF_le (s : List Wit) (id : Int) (k : Nat) : (canF s id k).length ≤ k := by
 unfold canF
 rw [List.length_map]
 exact Nat.le_trans (List.length_filter_le _ _) (by simp; omega)
def canL (s : List Wit) (id : Int) : List Int := canF s id (kinT (fun _ => true) s).length
theorem canL_mem {s : List Wit} (h : chE s = 0) {w : Wit} (hw : w ∈ s) (b : Int) : b ∈ canL s w.id ↔ b ∈ (choF s w).1 := by
 rw [← in_kin h hw]
 unfold canL canF
 rw [List.take_length, List.mem_map]
 constructor
 ·rintro ⟨x, hx, rfl⟩
  obtain ⟨h1, h2⟩ := List.mem_filter.1 hx
  rw [decide_eq_true_eq] at h2
  rw [← h2]; exact h1
 ·intro h1
  exact ⟨(w.id, b), List.mem_filter.2 ⟨h1, by simp⟩, rfl⟩
theorem canL_ne {s : List Wit} (h : chE s = 0) {w : Wit} (hw : w ∈ s) : canL s w.id ≠ [] := by
 have h1 := (chE_ok h).2 w hw
 intro h2
 have := (canL_mem h hw _).2 (head_mem h1)
 rw [h2] at this; cases this
def ChK (s : List Wit) (l : List Int) (k : Nat) : Prop := l.length = k ∧ ∀ i, ∀ hi : i < s.length, ∀ h2 : i < l.length, l[i] ∈ (choF s s[i]).1
theorem chK_zero (s : List Wit) : ChK s [] 0 := ⟨rfl, fun i _ h2 => by cases h2⟩
theorem chK_succ {s : List Wit} {l : List Int} {k : Nat} (h : ChK s l k) (hk : k < s.length) {b : Int} (hb : b ∈ (choF s s[k]).1) : ChK s (l ++ [b]) (k + 1) := by
 refine ⟨by rw [List.length_append, h.1]; rfl, fun i hi h2 => ?_⟩
 by_cases h3 : i < l.length
 ·rw [List.getElem_append_left h3]; exact h.2 i hi h3
 ·have h4 : i = k := by simp at h2; have := h.1; omega
  subst h4
  rw [List.getElem_append_right (by have := h.1; omega)]
  simpa [h.1] using hb
theorem chK_ok {s : List Wit} {l : List Int} (h : ChK s l s.length) : ChOK s l := ⟨h.1, h.2⟩
end Go.Am.Ds
end
section
namespace Go.Am.Ds
open Go Go.Am Go.Proofs
set_option maxRecDepth 100000
set_option maxHeartbeats 4000000
set_option linter.unusedSimpArgs false
set_option linter.unusedVariables false
attribute [local simp] vrun vwanted vyielded vop vopA vputAll VHeap.back hidI hidF backL bm Nat.testBit_eq_decide_div_mod_eq veval vevals vparts vO vbuiltin vlen vappend velems vcopy vmakeSlice vbuildSlice valloc vbox vmakeMap vload vpartT vpart vstore vfieldAddr vfield vindexAddr vindex vextract vslice vsliceZ vbounds vbnd zeroO vidx vlookup vmget vmapUpdate vdelete vclear vnilq vnilp vnils vbin vsc vsc1 vscs vscl abinOp aint ashift aunOp aconvert amaxs amax2 pvcV pvc pvcs tput tget vargs VHeap.get VHeap.alloc VHeap.put VHeap.drop VHeap.empty vlook vput vdrop psplice pfill preps chunk List.range List.range.loop vresults vresult vresultV frz frzL PV.isF PV.allF PV.scal PV.allS retP subT allFT PV.one PV.ids PV.idsL dropL beq_eq ble_dec blt_dec
attribute [local simp] zW tup2
set_option maxHeartbeats 40000000
theorem p12 (s : List Wit) (ch : List Int) (hc8 : ∀ x ∈ ch, 0 ≤ x ∧ x ≤ 255) (hl : s.length < 4611686018427387904) (hlc : ch.length < 4611686018427387904) (sanB : Bool) (hsan : VPure Tryz.prog 22 [] fun r => r = .bool sanB) (hsb : sanB = true) : VPure Tryz.prog 12 [encS s, .vec (ch.map (.int .u8))] fun r => r = .bool true := by
 refine .of_body Tryz.func12 rfl rfl ?_
 refine .seq ?_
 refine .rn ?_
 refine .seq ?_
 refine .seq ?_
 refine .regionL [0,1,2,3,4,5,6,7] rfl zz0 ?_
 refine .rn [0] [1,2,3,4,5,6,7] ?_
 refine .step rfl rfl (.pure rfl rfl rfl Tryz.call21 (by decide) (p21 s hl) (by first | rfl | simp [*]) ?_)
 rintro _ rfl
 refine .rn [2,3] [4,5,6,7] ?_
 refine .split (t := 28) rfl (fun c28 => ?_) (fun c28 => ?_)
 ·first | cases c28 | try rw [c28]
  try simp at c28
  refine .rn [4,5,6,7] [] ?_
  refine .done ?_
  refine .condT rfl ?_
  refine .seq ?_
  refine .regionL [0,1] rfl zz0 ?_
  refine .step rfl rfl (.pure rfl rfl rfl Tryz.call22 (by decide) (hsan) (by first | rfl | simp [*]) ?_)
  rintro _ rfl
  refine .rn [1] [] ?_
  refine .done ?_
  refine .ret ?_
  refine ⟨_, _, zz4,zz4, ?_⟩
  first | rfl | (simp [*]; done) | (simp_all; done)
 ·first | cases c28 | try rw [c28]
  try simp at c28
  have hl2 := smallS_len c28
  refine .rn [4,5,6,7] [] ?_
  refine .done ?_
  refine .condS rfl (fun c32 => ?_) (fun c32 => ?_)
  ·try simp at c32
   refine .seq ?_
   refine .regionL [0,1] rfl zz0 ?_
   refine .step rfl rfl (.pure rfl rfl rfl Tryz.call22 (by decide) (hsan) (by first | rfl | simp [*]) ?_)
   rintro _ rfl
   refine .rn [1] [] ?_
   refine .done ?_
   refine .ret ?_
   refine ⟨_, _, zz4,zz4, ?_⟩
   first | rfl | (simp [*]; done) | (simp_all; done)
  ·try simp at c32
   refine .skip ?_
   refine .seq ?_
   refine .regionL [0,1,2,3,4,5,6] rfl zz0 ?_
   refine .rn [0] [1,2,3,4,5,6] ?_
   refine .step rfl rfl (.pure rfl rfl rfl Tryz.call43 (by decide) (p43 s (by omega)) (by first | rfl | simp [*]) ?_)
   rintro _ rfl
   refine .rn [2,3,4,5,6] [] ?_
   refine .done ?_
   refine .seq ?_
   refine .seq ?_
   refine .rn ?_
   refine .condS rfl (fun c40 => ?_) (fun c40 => ?_)
   ·try simp at c40
    refine .seq ?_
    refine .regionL [0,1] rfl zz0 ?_
    refine .step rfl rfl (.pure rfl rfl rfl Tryz.call22 (by decide) (hsan) (by first | rfl | simp [*]) ?_)
    rintro _ rfl
    refine .rn [1] [] ?_
    refine .done ?_
    refine .ret ?_
    refine ⟨_, _, zz4,zz4, ?_⟩
    first | rfl | (simp [*]; done) | (simp_all; done)
   ·try simp at c40
    have h0 := (chE_ok c40).1
    have hm := kinT_len (fun _ => true) s
    have hm2 : s.length * (s.length + 1) ≤ 12 * 13 := Nat.mul_le_mul (by omega) (by omega)
    refine .skip ?_
    refine .seq ?_
    refine .rn ?_
    refine .seq ?_
    refine .seq ?_
    refine .rn ?_
    refine .block ?_
    refine .loopS (fun st : Nat × List Int => ([(1, .vec (ch.map (.int .u8))),(2, .ptr 0 0),(5, .vec ((kinT (fun _ => true) s).map encK)),(7, .grow 1 st.2.length true),(8, .int .i64 st.1)], ⟨2,[(1, .grow 1 (st.2.map (.int .i64))),(0, .box [.vec (s.map encW)])]⟩)) (fun st => st.1 ≤ s.length ∧ ChK s st.2 st.1) (fun st => s.length - st.1) (0,[]) ⟨by simp, chK_zero s⟩ (.mk [] [] zz14 zz15 rfl rfl rfl) ?_
    rintro ⟨k, l⟩ ⟨hk, hck⟩
    simp only at hk hck ⊢
    have hll : l.length = k := hck.1
    refine .seq ?_
    refine .seq ?_
    refine .rn ?_
    refine .condS rfl (fun c46 => ?_) (fun c46 => ?_)
    ·try simp at c46
     have hw2 : IntKind.i64.wrap ((k : Int) + 1) = (k : Int) + 1 := wrap64 (by omega) (by omega)
     have hEk : encW s[k] = .agg [.int .i64 s[k].id, .int .i64 s[k].known, ints s[k].slips, ints s[k].mended, ints s[k].models, .int .i64 s[k].lo, .int .i64 s[k].hi] := rfl
     have hbl : l.length ≤ 4294967295 := by omega
     have hkb : k ≤ 4294967295 := by omega
     refine .skip ?_
     refine .seq ?_
     refine .block ?_
     refine .seq ?_
     refine .rn ?_
     refine .seq ?_
     refine .seq ?_
     refine .rn ?_
     refine .block ?_
     refine .loopS (fun q : Nat => ([(1, .vec (ch.map (.int .u8))),(2, .ptr 0 0),(5, .vec ((kinT (fun _ => true) s).map encK)),(7, .grow 1 l.length true),(8, .int .i64 k),(9, .grow 2 (canF s s[k].id q).length true),(10, .int .i64 q)], ⟨3,[(2, .grow 1 ((canF s s[k].id q).map (.int .i64))),(1, .grow 1 (l.map (.int .i64))),(0, .box [.vec (s.map encW)])]⟩)) (fun q => q ≤ (kinT (fun _ => true) s).length) (fun q => (kinT (fun _ => true) s).length - q) 0 (by simp [canF]) (.mk [] [] zz14 zz15 rfl rfl rfl) ?_
     rintro q hq
     simp only at hq ⊢
     have hcl := canF_le s s[k].id q
     refine .seq ?_
     refine .seq ?_
     refine .rn ?_
     refine .condS rfl (fun c52 => ?_) (fun c52 => ?_)
     ·try simp at c52
      have hw3 : IntKind.i64.wrap ((q : Int) + 1) = (q : Int) + 1 := wrap64 (by omega) (by omega)
      have hE : encK (kinT (fun _ => true) s)[q] = .agg [.int .i64 (kinT (fun _ => true) s)[q].1, .int .i64 (kinT (fun _ => true) s)[q].2] := rfl
      have hS := canF_succ s s[k].id q c52
      have hb : (canF s s[k].id q).length ≤ 4294967295 := by omega
      have hone : allOne [PV.int IntKind.i64 (kinT (fun _ => true) s)[q].2] = true := rfl
      refine .skip ?_
      refine .seq ?_
      refine .block ?_
      refine .seq ?_
      refine .drawn (ms := [0,0,3,7,15,0,32,0,224,480,992,2047]) (W := []) (items := [.op 0, .op 1, .op 2, .op 3, .op 4, .op 5, .op 6, .op 7, .op 8, .op 9, .op 10, .op 11]) rfl zz0 zz0 zz0 ?_
      refine .rx ?_
      refine .rx ?_
      refine .rx ?_
      refine .rx ?_
      refine .rx ?_
      refine .rx ?_
      refine .rx ?_
      refine .rx ?_
      refine .rx ?_
      refine .rx ?_
      refine .rx ?_
      refine .rx ?_
      refine .done ?_
      refine .condS rfl (fun c66 => ?_) (fun c66 => ?_)
      ·try simp at c66
       rw [if_pos c66] at hS
       refine .rn ?_
       refine .rn ?_
       refine ⟨q + 1, c52,zz5,(.mk [] [(2,4)] zz14 zz15 rfl rfl rfl)⟩
      ·try simp at c66
       rw [if_neg c66] at hS
       refine .skip ?_
       refine .rn ?_
       refine ⟨q + 1, c52,zz5,(.mk [] [] zz14 zz15 rfl rfl rfl)⟩
     ·try simp at c52
      have hq2 : q = (kinT (fun _ => true) s).length := by omega
      obtain ⟨cn, hcn⟩ : ∃ x, canF s s[k].id q = x := ⟨_, rfl⟩
      have hcm : ∀ b, b ∈ cn ↔ b ∈ (choF s s[k]).1 := fun b => by rw [← hcn, hq2]; exact canL_mem c40 (List.getElem_mem c46) b
      have hcne : cn ≠ [] := by rw [← hcn, hq2]; exact canL_ne c40 (List.getElem_mem c46)
      have hcp : 0 < cn.length := List.length_pos_iff.2 hcne
      rw [hcn] at hcl ⊢
      clear hcn
      have hcz : ¬ ((cn.length : Int) = 0) := by omega
      refine .rec (vts2 := [(1, .vec (ch.map (.int .u8))),(2, .ptr 0 0),(5, .vec ((kinT (fun _ => true) s).map encK)),(7, .grow 1 l.length true),(8, .int .i64 k),(9, ints cn)]) (vh2 := ⟨3,[(1, .grow 1 (l.map (.int .i64))),(0, .box [.vec (s.map encW)])]⟩) (.mk [2] [] zz14 zz15 rfl rfl rfl) ?_
      refine .exit ?_
      refine .seq ?_
      refine .seq ?_
      refine .rn ?_
      refine .condS rfl (fun c77 => ?_) (fun c77 => ?_)
      ·try simp at c77
       exact absurd c77 hcne
      ·try simp at c77
       refine .skip ?_
       refine .seq ?_
       refine .rn ?_
       refine .seq ?_
       refine .seq ?_
       refine .rn ?_
       refine .condS rfl (fun c81 => ?_) (fun c81 => ?_)
       ·try simp at c81
        have hx := hc8 ch[k] (List.getElem_mem c81)
        have hwx : IntKind.i64.wrap ch[k] = ch[k] := wrap64 (by omega) (by omega)
        obtain ⟨m, hmn, hmx⟩ : ∃ m : Nat, m < cn.length ∧ ch[k].tmod (cn.length : Int) = (m : Int) := by
         have h1 := Int.tmod_nonneg (cn.length : Int) hx.1
         have h2 := Int.tmod_lt_of_pos ch[k] (show (0 : Int) < (cn.length : Int) by omega)
         exact ⟨(ch[k].tmod cn.length).toNat, by omega, by omega⟩
        have hone : allOne [PV.int IntKind.i64 cn[m]] = true := rfl
        refine .rn ?_
        refine .rn ?_
        refine .rn ?_
        refine ⟨(k + 1, l ++ [cn[m]]), ⟨c46, chK_succ hck c46 ((hcm _).1 (List.getElem_mem hmn))⟩, zz5,(.mk [] [(1,4)] zz14 zz15 rfl rfl rfl)⟩
       ·try simp at c81
        have hone : allOne [PV.int IntKind.i64 cn[0]] = true := rfl
        refine .skip ?_
        refine .rn ?_
        refine .rn ?_
        refine ⟨(k + 1, l ++ [cn[0]]), ⟨c46, chK_succ hck c46 ((hcm _).1 (List.getElem_mem hcp))⟩, zz5,(.mk [] [(1,4)] zz14 zz15 rfl rfl rfl)⟩
    ·try simp at c46
     have hk2 : k = s.length := by omega
     subst hk2
     have hC := chK_ok hck
     refine .rec (vts2 := [(2, .ptr 0 0),(7, ints l)]) (vh2 := ⟨2,[(0, .box [.vec (s.map encW)])]⟩) (.mk [1] [] zz14 zz15 rfl rfl rfl) ?_
     have q55 := p55 s (by omega)
     have q47 := p47 s (by omega)
     have q66 := p66' s c40
     have q56 := p56 s l (bestS s (chL s).length) (by omega) (by omega)
     rw [ch_cb c40 hC] at q56
     rw [c40] at q55
     rw [show slipsR s = slipsL s by unfold slipsR; rw [if_pos h0], h0] at q47
     have qtw := tw_nil c40
     have qsl : ∀ n, n ∈ slipsL s → 0 < tmN s l n s.length ∧ (n ∈ twL s ↔ 2 ≤ (surL s n).length) ∧ (2 ≤ (surL s n).length → 2 ≤ tmN s l n s.length) := fun n hn => ⟨tm_pos c40 hC hn, by unfold twL; rw [List.mem_filter, decide_eq_true_eq]; exact ⟨fun h => h.2, fun h => ⟨hn, h⟩⟩, fun h => Nat.le_trans h (sur_tm c40 hC n)⟩
     have q67 := fun n (hn : n ∈ slipsL s) => p67 s n c40 (slipsL_mem.1 hn)
     have hsll : (slipsL s).length ≤ 720 := by rw [slipsL_len]; exact heldM_len h0
     have htwl : (twL s).length ≤ 720 := Nat.le_trans (List.length_filter_le _ _) hsll
     obtain ⟨bn, hbn⟩ : ∃ x, bestS s (chL s).length = x := ⟨_, rfl⟩
     obtain ⟨sl, hsl⟩ : ∃ x, slipsL s = x := ⟨_, rfl⟩
     obtain ⟨tw, htw⟩ : ∃ x, twL s = x := ⟨_, rfl⟩
     rw [hbn] at q55 q56 qtw
     rw [hsl] at q47 qtw hsll
     rw [htw] at q66 qtw htwl
     simp only [hsl, htw] at qsl q67
     clear hbn hsl htw
     refine .exit ?_
     refine .seq ?_
     refine .regionL [0,1,2,3,4,5,6] rfl zz0 ?_
     refine .rn [0] [1,2,3,4,5,6] ?_
     refine .step rfl rfl (.pure rfl rfl rfl Tryz.call55 (by decide) (q55) (by first | rfl | simp [*]) ?_)
     rintro _ rfl
     refine .rn [2,3,4,5,6] [] ?_
     refine .done ?_
     refine .seq ?_
     refine .regionL [0,1,2,3,4,5,6] rfl zz0 ?_
     refine .rn [0] [1,2,3,4,5,6] ?_
     refine .step rfl rfl (.pure rfl rfl rfl Tryz.call47 (by decide) (q47) (by first | rfl | simp [*]) ?_)
     rintro _ rfl
     refine .rn [2,3,4,5,6] [] ?_
     refine .done ?_
     refine .seq ?_
     refine .regionL [0,1,2,3,4,5,6] rfl zz0 ?_
     refine .rn [0] [1,2,3,4,5,6] ?_
     refine .step rfl rfl (.pure rfl rfl rfl Tryz.call66 (by decide) (q66) (by first | rfl | simp [*]) ?_)
     rintro _ rfl
     refine .rn [2,3,4,5,6] [] ?_
     refine .done ?_
     refine .seq ?_
     refine .seq ?_
     refine .regionL [0,1,2,3,4,5,6,7,8,9,10,11,12,13,14,15,16,17,18,19,20,21,22,23,24,25,26,27,28] rfl zz0 ?_
     refine .rn [0,1,2] [3,4,5,6,7,8,9,10,11,12,13,14,15,16,17,18,19,20,21,22,23,24,25,26,27,28] ?_
     refine .split (t := 114) rfl (fun c114 => ?_) (fun c114 => ?_)
     ·first | cases c114 | try rw [c114]
      try simp at c114
     ·first | cases c114 | try rw [c114]
      try simp at c114
      refine .rn [3,4,5,6] [7,8,9,10,11,12,13,14,15,16,17,18,19,20,21,22,23,24,25,26,27,28] ?_
      refine .split (t := 118) rfl (fun c118 => ?_) (fun c118 => ?_)
      ·first | cases c118 | try rw [c118]
       try simp at c118
      ·first | cases c118 | try rw [c118]
       try simp at c118
       refine .rn [7,8,9,10] [11,12,13,14,15,16,17,18,19,20,21,22,23,24,25,26,27,28] ?_
       refine .split (t := 122) rfl (fun c122 => ?_) (fun c122 => ?_)
       ·first | cases c122 | try rw [c122]
        try simp at c122
       ·first | cases c122 | try rw [c122]
        try simp at c122
        refine .rn [11,12,13,14] [15,16,17,18,19,20,21,22,23,24,25,26,27,28] ?_
        refine .step rfl rfl (.pure rfl rfl rfl Tryz.call56 (by decide) (q56) (by first | rfl | simp [*]) ?_)
        rintro _ rfl
        refine .rn [16,17,18] [19,20,21,22,23,24,25,26,27,28] ?_
        refine .split (t := 130) rfl (fun c130 => ?_) (fun c130 => ?_)
        ·first | cases c130 | try rw [c130]
         try simp at c130
        ·first | cases c130 | try rw [c130]
         try simp at c130
         refine .rn [19,20,21,22,23] [24,25,26,27,28] ?_
         refine .split (t := 135) rfl (fun c135 => ?_) (fun c135 => ?_)
         ·first | cases c135 | try rw [c135]
          try simp at c135
          have htn := qtw c135
          subst htn
          refine .rn [24,25,26,27,28] [] ?_
          refine .done ?_
          refine .condS rfl (fun c140 => ?_) (fun c140 => ?_)
          ·try simp at c140
          ·try simp at c140
           refine .skip ?_
           refine .seq ?_
           refine .seq ?_
           refine .rn ?_
           refine .block ?_
           refine .loopS (fun i : Nat => ([(2, .ptr 0 0),(7, ints l),(14, ints sl),(16, ints ([] : List Int)),(18, .int .i64 i)], ⟨2,[(0, .box [.vec (s.map encW)])]⟩)) (fun i => i ≤ sl.length) (fun i => sl.length - i) 0 (by simp) (.mk [] [] zz14 zz15 rfl rfl rfl) ?_
           rintro i hi
           simp only at hi ⊢
           refine .seq ?_
           refine .seq ?_
           refine .rn ?_
           refine .condS rfl (fun c144 => ?_) (fun c144 => ?_)
           ·try simp at c144
            have hw2 : IntKind.i64.wrap ((i : Int) + 1) = (i : Int) + 1 := wrap64 (by omega) (by omega)
            obtain ⟨t1, t2, t3⟩ := qsl sl[i] (List.getElem_mem c144)
            have hsu : (surL s sl[i]).length ≤ 24 := Nat.le_trans (List.length_filter_le _ _) (by rw [idsS_len]; omega)
            have hma : (mayL s sl[i]).length ≤ 24 := Nat.le_trans (List.length_filter_le _ _) (by rw [idsS_len]; omega)
            refine .skip ?_
            refine .seq ?_
            refine .block ?_
            refine .seq ?_
            refine .drawn (ms := [0,0,0,6,14,31,63,127,127,127,255,1535,4095]) (W := [5]) (items := [.op 0, .op 1, .op 2, .op 3, .op 4, .op 5, .op 6, .op 7, .op 8, .op 9, .op 10, .op 11, .op 12]) rfl zz0 zz0 zz0 ?_
            refine .rx ?_
            refine .rx ?_
            refine .rx ?_
            refine .rx ?_
            refine .rx ?_
            refine .wr rfl rfl (by decide) (.pure rfl rfl rfl Tryz.call67 (by decide) (q67 sl[i] (List.getElem_mem c144)) (by first | rfl | simp [*]) ?_)
            rintro _ rfl
            refine .rx ?_
            refine .rx ?_
            refine .rx ?_
            refine .rx ?_
            refine .rx ?_
            refine .rx ?_
            refine .rx ?_
            refine .done ?_
            refine .seq ?_
            refine .seq ?_
            refine .rn ?_
            refine .condS rfl (fun c158 => ?_) (fun c158 => ?_)
            ·try simp at c158
            ·try simp at c158
             refine .skip ?_
             refine .seq ?_
             refine .rn ?_
             refine .seq ?_
             refine .seq ?_
             refine .rn ?_
             refine .block ?_
             refine .loopS (fun k : Nat => ([(2, .ptr 0 0),(7, ints l),(14, ints sl),(16, ints ([] : List Int)),(18, .int .i64 i),(19, ints (surL s sl[i])),(20, ints (mayL s sl[i])),(22, .int .i64 (tmN s l sl[i] k)),(23, .int .i64 k)], ⟨2,[(0, .box [.vec (s.map encW)])]⟩)) (fun k => k ≤ s.length) (fun k => s.length - k) 0 (by simp [tmN]) (.mk [] [] zz14 zz15 rfl rfl rfl) ?_
             rintro k hk3
             simp only at hk3 ⊢
             have htl := tmN_le s l sl[i] k
             refine .seq ?_
             refine .seq ?_
             refine .rn ?_
             refine .condS rfl (fun c163 => ?_) (fun c163 => ?_)
             ·try simp at c163
              have hw3 : IntKind.i64.wrap ((k : Int) + 1) = (k : Int) + 1 := wrap64 (by omega) (by omega)
              have hw4 : IntKind.i64.wrap ((tmN s l sl[i] k : Int) + 1) = (tmN s l sl[i] k : Int) + 1 := wrap64 (by omega) (by omega)
              have hkl : k < l.length := by rw [hC.len]; exact c163
              have hEk : encW s[k] = .agg [.int .i64 s[k].id, .int .i64 s[k].known, ints s[k].slips, ints s[k].mended, ints s[k].models, .int .i64 s[k].lo, .int .i64 s[k].hi] := rfl
              have hS := tmN_succ s l sl[i] k c163 hkl
              obtain ⟨m1, m2⟩ := ch_may c40 hC c163 hkl sl[i]
              have hsk := (witE_len ((checkS_ok h0).2 s[k] (List.getElem_mem c163))).1
              have hfl : (freL s s[k].slips l[k]).length ≤ s[k].slips.length := List.length_filter_le _ _
              refine .skip ?_
              refine .seq ?_
              refine .block ?_
              refine .seq ?_
              refine .drawn (ms := [0,0,2,0,14,30,62,0,0,384,896,2047,0,0,12288,28672,65535,131071]) (W := [11,16]) (items := [.op 0, .op 1, .op 2, .op 3, .op 4, .op 5, .op 6, .op 7, .op 8, .op 9, .op 10, .op 12, .op 13, .op 14, .op 15, .op 11, .ck 15, .op 16, .op 17]) rfl zz0 zz0 zz0 ?_
              refine .rx ?_
              refine .rx ?_
              refine .rx ?_
              refine .rx ?_
              refine .rx ?_
              refine .rx ?_
              refine .rx ?_
              refine .rx ?_
              refine .rx ?_
              refine .rx ?_
              refine .rx ?_
              refine .rx ?_
              refine .rx ?_
              refine .rx ?_
              refine .rx ?_
              refine .wr rfl rfl (by decide) (.pure rfl rfl rfl Tryz.call68 (by decide) (p68 s s[k].slips l[k] h0 (by omega)) (by first | rfl | simp [*]) ?_)
              rintro _ rfl
              refine .ck rfl zz0 ?_
              refine .wr rfl rfl (by decide) (.pure rfl rfl rfl Tryz.call46 (by decide) (p46 (freL s s[k].slips l[k]) sl[i] (by omega)) (by first | rfl | simp [*]) ?_)
              rintro _ rfl
              refine .rx ?_
              refine .done ?_
              refine .seq ?_
              refine .seq ?_
              refine .rn ?_
              refine .condS rfl (fun c183 => ?_) (fun c183 => ?_)
              ·try simp at c183
               have hmy := m1 c183
               rw [if_pos c183] at hS
               refine .rn ?_
               refine .seq ?_
               refine .regionL [0,1,2,3,4,5,6,7,8,9,10,11,12,13,14,15,16,17,18,19,20,21,22,23,24,25] rfl zz0 ?_
               refine .rn [0,1] [2,3,4,5,6,7,8,9,10,11,12,13,14,15,16,17,18,19,20,21,22,23,24,25] ?_
               refine .split (t := 187) rfl (fun c187 => ?_) (fun c187 => ?_)
               ·first | cases c187 | try rw [c187]
                try simp at c187
                refine .rn [2,3,4,5,6,7,8] [9,10,11,12,13,14,15,16,17,18,19,20,21,22,23,24,25] ?_
                refine .step rfl rfl (.pure rfl rfl rfl Tryz.call46 (by decide) (p46 (mayL s sl[i]) s[k].id (by omega)) (by first | rfl | simp [*]) ?_)
                rintro _ rfl
                refine .rn [10,11,12] [13,14,15,16,17,18,19,20,21,22,23,24,25] ?_
                refine .split (t := 198) rfl (fun c198 => ?_) (fun c198 => ?_)
                ·first | cases c198 | try rw [c198]
                 try simp at c198
                ·first | cases c198 | try rw [c198]
                 try simp at c198
                 refine .rn [13,14,15] [16,17,18,19,20,21,22,23,24,25] ?_
                 refine .split (t := 201) rfl (fun c201 => ?_) (fun c201 => ?_)
                 ·first | cases c201 | try rw [c201]
                  try simp at c201
                 ·first | cases c201 | try rw [c201]
                  try simp at c201
                  refine .rn [16,17,18,19,20,21,22,23,24,25] [] ?_
                  refine .done ?_
                  refine .condF rfl ?_
                  refine .skip ?_
                  refine .rn ?_
                  refine ⟨k + 1, c163,zz5,(.mk [] [] zz14 zz15 rfl rfl rfl)⟩
               ·first | cases c187 | try rw [c187]
                try simp at c187
              ·try simp at c183
               have hsn : s[k].id ∉ surL s sl[i] := fun h => c183 (m2 h)
               rw [if_neg c183] at hS
               refine .skip ?_
               refine .seq ?_
               refine .regionL [0,1,2,3,4,5,6,7,8,9,10,11,12,13,14,15,16,17,18,19,20,21,22,23,24,25] rfl zz0 ?_
               refine .rn [0,1] [2,3,4,5,6,7,8,9,10,11,12,13,14,15,16,17,18,19,20,21,22,23,24,25] ?_
               refine .split (t := 187) rfl (fun c187 => ?_) (fun c187 => ?_)
               ·first | cases c187 | try rw [c187]
                try simp at c187
               ·first | cases c187 | try rw [c187]
                try simp at c187
                refine .rn [2,3,4,5,6,7,8,9,10,11,12,13,14,15] [16,17,18,19,20,21,22,23,24,25] ?_
                refine .split (t := 201) rfl (fun c201 => ?_) (fun c201 => ?_)
                ·first | cases c201 | try rw [c201]
                 try simp at c201
                 refine .rn [16,17,18,19,20,21,22] [23,24,25] ?_
                 refine .step rfl rfl (.pure rfl rfl rfl Tryz.call46 (by decide) (p46 (surL s sl[i]) s[k].id (by omega)) (by first | rfl | simp [*]) ?_)
                 rintro _ rfl
                 refine .rn [24,25] [] ?_
                 refine .done ?_
                 refine .condS rfl (fun c211 => ?_) (fun c211 => ?_)
                 ·try simp at c211
                 ·try simp at c211
                  refine .skip ?_
                  refine .rn ?_
                  refine ⟨k + 1, c163,zz5,(.mk [] [] zz14 zz15 rfl rfl rfl)⟩
                ·first | cases c201 | try rw [c201]
                 try simp at c201
             ·try simp at c163
              have hk4 : k = s.length := by omega
              subst hk4
              refine .exit ?_
              refine .seq ?_
              refine .regionL [0,1,2,3,4,5,6,7,8,9,10,11,12,13,14,15,16,17,18,19,20,21,22,23,24,25] rfl zz0 ?_
              refine .rn [0,1,2] [3,4,5,6,7,8,9,10,11,12,13,14,15,16,17,18,19,20,21,22,23,24,25] ?_
              refine .split (t := 214) rfl (fun c214 => ?_) (fun c214 => ?_)
              ·first | cases c214 | try rw [c214]
               try simp at c214
               exfalso; omega
              ·first | cases c214 | try rw [c214]
               try simp at c214
               refine .rn [3,4,5,6,7] [8,9,10,11,12,13,14,15,16,17,18,19,20,21,22,23,24,25] ?_
               refine .step rfl rfl (.pure rfl rfl rfl Tryz.call46 (by decide) (p46 ([] : List Int) sl[i] (by simp)) (by first | rfl | simp [*]) ?_)
               rintro _ rfl
               refine .rn [9,10,11,12,13,14] [15,16,17,18,19,20,21,22,23,24,25] ?_
               refine .split (t := 226) rfl (fun c226 => ?_) (fun c226 => ?_)
               ·first | cases c226 | try rw [c226]
                try simp at c226
                exact (c226 (by omega)).elim
               ·first | cases c226 | try rw [c226]
                try simp at c226
                refine .rn [15,16,17,18,19] [20,21,22,23,24,25] ?_
                refine .step rfl rfl (.pure rfl rfl rfl Tryz.call46 (by decide) (p46 ([] : List Int) sl[i] (by simp)) (by first | rfl | simp [*]) ?_)
                rintro _ rfl
                refine .rn [21] [22,23,24,25] ?_
                refine .split (t := 233) rfl (fun c233 => ?_) (fun c233 => ?_)
                ·first | cases c233 | try rw [c233]
                 try simp at c233
                 refine .rn [22,23,24,25] [] ?_
                 refine .done ?_
                 refine .condS rfl (fun c237 => ?_) (fun c237 => ?_)
                 ·try simp at c237
                  exfalso; have := t3 (by omega); omega
                 ·try simp at c237
                  refine .skip ?_
                  refine .rn ?_
                  refine ⟨i + 1, c144,zz5,(.mk [] [] zz14 zz15 rfl rfl rfl)⟩
                ·first | cases c233 | try rw [c233]
                 try simp at c233
                 refine .rn [22,23,24,25] [] ?_
                 refine .done ?_
                 refine .condF rfl ?_
                 refine .skip ?_
                 refine .rn ?_
                 refine ⟨i + 1, c144,zz5,(.mk [] [] zz14 zz15 rfl rfl rfl)⟩
           ·try simp at c144
            refine .exit ?_
            refine .seq ?_
            refine .regionL [0,1] rfl zz0 ?_
            refine .step rfl rfl (.pure rfl rfl rfl Tryz.call22 (by decide) (hsan) (by first | rfl | simp [*]) ?_)
            rintro _ rfl
            refine .rn [1] [] ?_
            refine .done ?_
            refine .ret ?_
            refine ⟨_, _, zz4,zz4, ?_⟩
            first | rfl | (simp [*]; done) | (simp_all; done)
         ·first | cases c135 | try rw [c135]
          try simp at c135
          refine .rn [24,25,26,27,28] [] ?_
          refine .done ?_
          refine .condF rfl ?_
          refine .skip ?_
          refine .seq ?_
          refine .seq ?_
          refine .rn ?_
          refine .block ?_
          refine .loopS (fun i : Nat => ([(2, .ptr 0 0),(7, ints l),(14, ints sl),(16, ints tw),(18, .int .i64 i)], ⟨2,[(0, .box [.vec (s.map encW)])]⟩)) (fun i => i ≤ sl.length) (fun i => sl.length - i) 0 (by simp) (.mk [] [] zz14 zz15 rfl rfl rfl) ?_
          rintro i hi
          simp only at hi ⊢
          refine .seq ?_
          refine .seq ?_
          refine .rn ?_
          refine .condS rfl (fun c144 => ?_) (fun c144 => ?_)
          ·try simp at c144
           have hw2 : IntKind.i64.wrap ((i : Int) + 1) = (i : Int) + 1 := wrap64 (by omega) (by omega)
           obtain ⟨t1, t2, t3⟩ := qsl sl[i] (List.getElem_mem c144)
           have hsu : (surL s sl[i]).length ≤ 24 := Nat.le_trans (List.length_filter_le _ _) (by rw [idsS_len]; omega)
           have hma : (mayL s sl[i]).length ≤ 24 := Nat.le_trans (List.length_filter_le _ _) (by rw [idsS_len]; omega)
           refine .skip ?_
           refine .seq ?_
           refine .block ?_
           refine .seq ?_
           refine .drawn (ms := [0,0,0,6,14,31,63,127,127,127,255,1535,4095]) (W := [5]) (items := [.op 0, .op 1, .op 2, .op 3, .op 4, .op 5, .op 6, .op 7, .op 8, .op 9, .op 10, .op 11, .op 12]) rfl zz0 zz0 zz0 ?_
           refine .rx ?_
           refine .rx ?_
           refine .rx ?_
           refine .rx ?_
           refine .rx ?_
           refine .wr rfl rfl (by decide) (.pure rfl rfl rfl Tryz.call67 (by decide) (q67 sl[i] (List.getElem_mem c144)) (by first | rfl | simp [*]) ?_)
           rintro _ rfl
           refine .rx ?_
           refine .rx ?_
           refine .rx ?_
           refine .rx ?_
           refine .rx ?_
           refine .rx ?_
           refine .rx ?_
           refine .done ?_
           refine .seq ?_
           refine .seq ?_
           refine .rn ?_
           refine .condS rfl (fun c158 => ?_) (fun c158 => ?_)
           ·try simp at c158
           ·try simp at c158
            refine .skip ?_
            refine .seq ?_
            refine .rn ?_
            refine .seq ?_
            refine .seq ?_
            refine .rn ?_
            refine .block ?_
            refine .loopS (fun k : Nat => ([(2, .ptr 0 0),(7, ints l),(14, ints sl),(16, ints tw),(18, .int .i64 i),(19, ints (surL s sl[i])),(20, ints (mayL s sl[i])),(22, .int .i64 (tmN s l sl[i] k)),(23, .int .i64 k)], ⟨2,[(0, .box [.vec (s.map encW)])]⟩)) (fun k => k ≤ s.length) (fun k => s.length - k) 0 (by simp [tmN]) (.mk [] [] zz14 zz15 rfl rfl rfl) ?_
            rintro k hk3
            simp only at hk3 ⊢
            have htl := tmN_le s l sl[i] k
            refine .seq ?_
            refine .seq ?_
            refine .rn ?_
            refine .condS rfl (fun c163 => ?_) (fun c163 => ?_)
            ·try simp at c163
             have hw3 : IntKind.i64.wrap ((k : Int) + 1) = (k : Int) + 1 := wrap64 (by omega) (by omega)
             have hw4 : IntKind.i64.wrap ((tmN s l sl[i] k : Int) + 1) = (tmN s l sl[i] k : Int) + 1 := wrap64 (by omega) (by omega)
             have hkl : k < l.length := by rw [hC.len]; exact c163
             have hEk : encW s[k] = .agg [.int .i64 s[k].id, .int .i64 s[k].known, ints s[k].slips, ints s[k].mended, ints s[k].models, .int .i64 s[k].lo, .int .i64 s[k].hi] := rfl
             have hS := tmN_succ s l sl[i] k c163 hkl
             obtain ⟨m1, m2⟩ := ch_may c40 hC c163 hkl sl[i]
             have hsk := (witE_len ((checkS_ok h0).2 s[k] (List.getElem_mem c163))).1
             have hfl : (freL s s[k].slips l[k]).length ≤ s[k].slips.length := List.length_filter_le _ _
             refine .skip ?_
             refine .seq ?_
             refine .block ?_
             refine .seq ?_
             refine .drawn (ms := [0,0,2,0,14,30,62,0,0,384,896,2047,0,0,12288,28672,65535,131071]) (W := [11,16]) (items := [.op 0, .op 1, .op 2, .op 3, .op 4, .op 5, .op 6, .op 7, .op 8, .op 9, .op 10, .op 12, .op 13, .op 14, .op 15, .op 11, .ck 15, .op 16, .op 17]) rfl zz0 zz0 zz0 ?_
             refine .rx ?_
             refine .rx ?_
             refine .rx ?_
             refine .rx ?_
             refine .rx ?_
             refine .rx ?_
             refine .rx ?_
             refine .rx ?_
             refine .rx ?_
             refine .rx ?_
             refine .rx ?_
             refine .rx ?_
             refine .rx ?_
             refine .rx ?_
             refine .rx ?_
             refine .wr rfl rfl (by decide) (.pure rfl rfl rfl Tryz.call68 (by decide) (p68 s s[k].slips l[k] h0 (by omega)) (by first | rfl | simp [*]) ?_)
             rintro _ rfl
             refine .ck rfl zz0 ?_
             refine .wr rfl rfl (by decide) (.pure rfl rfl rfl Tryz.call46 (by decide) (p46 (freL s s[k].slips l[k]) sl[i] (by omega)) (by first | rfl | simp [*]) ?_)
             rintro _ rfl
             refine .rx ?_
             refine .done ?_
             refine .seq ?_
             refine .seq ?_
             refine .rn ?_
             refine .condS rfl (fun c183 => ?_) (fun c183 => ?_)
             ·try simp at c183
              have hmy := m1 c183
              rw [if_pos c183] at hS
              refine .rn ?_
              refine .seq ?_
              refine .regionL [0,1,2,3,4,5,6,7,8,9,10,11,12,13,14,15,16,17,18,19,20,21,22,23,24,25] rfl zz0 ?_
              refine .rn [0,1] [2,3,4,5,6,7,8,9,10,11,12,13,14,15,16,17,18,19,20,21,22,23,24,25] ?_
              refine .split (t := 187) rfl (fun c187 => ?_) (fun c187 => ?_)
              ·first | cases c187 | try rw [c187]
               try simp at c187
               refine .rn [2,3,4,5,6,7,8] [9,10,11,12,13,14,15,16,17,18,19,20,21,22,23,24,25] ?_
               refine .step rfl rfl (.pure rfl rfl rfl Tryz.call46 (by decide) (p46 (mayL s sl[i]) s[k].id (by omega)) (by first | rfl | simp [*]) ?_)
               rintro _ rfl
               refine .rn [10,11,12] [13,14,15,16,17,18,19,20,21,22,23,24,25] ?_
               refine .split (t := 198) rfl (fun c198 => ?_) (fun c198 => ?_)
               ·first | cases c198 | try rw [c198]
                try simp at c198
               ·first | cases c198 | try rw [c198]
                try simp at c198
                refine .rn [13,14,15] [16,17,18,19,20,21,22,23,24,25] ?_
                refine .split (t := 201) rfl (fun c201 => ?_) (fun c201 => ?_)
                ·first | cases c201 | try rw [c201]
                 try simp at c201
                ·first | cases c201 | try rw [c201]
                 try simp at c201
                 refine .rn [16,17,18,19,20,21,22,23,24,25] [] ?_
                 refine .done ?_
                 refine .condF rfl ?_
                 refine .skip ?_
                 refine .rn ?_
                 refine ⟨k + 1, c163,zz5,(.mk [] [] zz14 zz15 rfl rfl rfl)⟩
              ·first | cases c187 | try rw [c187]
               try simp at c187
             ·try simp at c183
              have hsn : s[k].id ∉ surL s sl[i] := fun h => c183 (m2 h)
              rw [if_neg c183] at hS
              refine .skip ?_
              refine .seq ?_
              refine .regionL [0,1,2,3,4,5,6,7,8,9,10,11,12,13,14,15,16,17,18,19,20,21,22,23,24,25] rfl zz0 ?_
              refine .rn [0,1] [2,3,4,5,6,7,8,9,10,11,12,13,14,15,16,17,18,19,20,21,22,23,24,25] ?_
              refine .split (t := 187) rfl (fun c187 => ?_) (fun c187 => ?_)
              ·first | cases c187 | try rw [c187]
               try simp at c187
              ·first | cases c187 | try rw [c187]
               try simp at c187
               refine .rn [2,3,4,5,6,7,8,9,10,11,12,13,14,15] [16,17,18,19,20,21,22,23,24,25] ?_
               refine .split (t := 201) rfl (fun c201 => ?_) (fun c201 => ?_)
               ·first | cases c201 | try rw [c201]
                try simp at c201
                refine .rn [16,17,18,19,20,21,22] [23,24,25] ?_
                refine .step rfl rfl (.pure rfl rfl rfl Tryz.call46 (by decide) (p46 (surL s sl[i]) s[k].id (by omega)) (by first | rfl | simp [*]) ?_)
                rintro _ rfl
                refine .rn [24,25] [] ?_
                refine .done ?_
                refine .condS rfl (fun c211 => ?_) (fun c211 => ?_)
                ·try simp at c211
                ·try simp at c211
                 refine .skip ?_
                 refine .rn ?_
                 refine ⟨k + 1, c163,zz5,(.mk [] [] zz14 zz15 rfl rfl rfl)⟩
               ·first | cases c201 | try rw [c201]
                try simp at c201
            ·try simp at c163
             have hk4 : k = s.length := by omega
             subst hk4
             refine .exit ?_
             refine .seq ?_
             refine .regionL [0,1,2,3,4,5,6,7,8,9,10,11,12,13,14,15,16,17,18,19,20,21,22,23,24,25] rfl zz0 ?_
             refine .rn [0,1,2] [3,4,5,6,7,8,9,10,11,12,13,14,15,16,17,18,19,20,21,22,23,24,25] ?_
             refine .split (t := 214) rfl (fun c214 => ?_) (fun c214 => ?_)
             ·first | cases c214 | try rw [c214]
              try simp at c214
              exfalso; omega
             ·first | cases c214 | try rw [c214]
              try simp at c214
              refine .rn [3,4,5,6,7] [8,9,10,11,12,13,14,15,16,17,18,19,20,21,22,23,24,25] ?_
              refine .step rfl rfl (.pure rfl rfl rfl Tryz.call46 (by decide) (p46 tw sl[i] (by omega)) (by first | rfl | simp [*]) ?_)
              rintro _ rfl
              refine .rn [9,10,11,12,13,14] [15,16,17,18,19,20,21,22,23,24,25] ?_
              refine .split (t := 226) rfl (fun c226 => ?_) (fun c226 => ?_)
              ·first | cases c226 | try rw [c226]
               try simp at c226
               exact (c226 (by omega)).elim
              ·first | cases c226 | try rw [c226]
               try simp at c226
               refine .rn [15,16,17,18,19] [20,21,22,23,24,25] ?_
               refine .step rfl rfl (.pure rfl rfl rfl Tryz.call46 (by decide) (p46 tw sl[i] (by omega)) (by first | rfl | simp [*]) ?_)
               rintro _ rfl
               refine .rn [21] [22,23,24,25] ?_
               refine .split (t := 233) rfl (fun c233 => ?_) (fun c233 => ?_)
               ·first | cases c233 | try rw [c233]
                try simp at c233
                refine .rn [22,23,24,25] [] ?_
                refine .done ?_
                refine .condS rfl (fun c237 => ?_) (fun c237 => ?_)
                ·try simp at c237
                 exfalso; have := t3 (by omega); omega
                ·try simp at c237
                 refine .skip ?_
                 refine .rn ?_
                 refine ⟨i + 1, c144,zz5,(.mk [] [] zz14 zz15 rfl rfl rfl)⟩
               ·first | cases c233 | try rw [c233]
                try simp at c233
                refine .rn [22,23,24,25] [] ?_
                refine .done ?_
                refine .condF rfl ?_
                refine .skip ?_
                refine .rn ?_
                refine ⟨i + 1, c144,zz5,(.mk [] [] zz14 zz15 rfl rfl rfl)⟩
          ·try simp at c144
           refine .exit ?_
           refine .seq ?_
           refine .regionL [0,1] rfl zz0 ?_
           refine .step rfl rfl (.pure rfl rfl rfl Tryz.call22 (by decide) (hsan) (by first | rfl | simp [*]) ?_)
           rintro _ rfl
           refine .rn [1] [] ?_
           refine .done ?_
           refine .ret ?_
           refine ⟨_, _, zz4,zz4, ?_⟩
           first | rfl | (simp [*]; done) | (simp_all; done)
end Go.Am.Ds
end
