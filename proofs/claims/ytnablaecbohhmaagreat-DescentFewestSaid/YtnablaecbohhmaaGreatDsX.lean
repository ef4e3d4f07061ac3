/-
 What is used in the proof of a statement (part DsX); no condition.
-/
import Derived.Test.YtnablaecbohhmaaGreatDsT
import Derived.Test.YtnablaecbohhmaaGreatVm2
import Derived.Test.YtnablaecbohhmaaGreatDsC
import Derived.Test.YtnablaecbohhmaaGreatDsG
import Derived.Test.YtnablaecbohhmaaGreatDsF
import Derived.Test.YtnablaecbohhmaaGreatDsS
set_option linter.all false
namespace Go.Am
open Go Go.Proofs
section
variable {P : Program} {N b : Nat} {vts : VTs} {vh : VHeap}
theorem VScr.rx {ops : Array Oper} {W todo : List Nat} {K : VTs → VHeap → Prop} {m : Nat} {r : List SItem} {o : Oper} {v : PV} (k : VScr P N b ops W K r (bif selfFree o then m :: todoF ops todo o.dst else todoF ops todo o.dst) (tput vts o.dst v) vh) (ho : ops[m]? = some o := by rfl) (hw : vwanted ops o vts = some true := by rfl) (hW : W.contains m = false := by decide) (hr : isR o.op = true := by rfl) (hd : dstOK N o.dst = true := by decide) (hv : vop P vts vh o.op = some (v, vh) := by simp [*] <;> first | exact ⟨rfl, rfl⟩ | exact rfl) : VScr P N b ops W K (.op m :: r) todo vts vh := .rd ho hw hW hr hd hv k
end
end Go.Am
section
namespace Go.Am.Ds
open Go Go.Am Go.Proofs
set_option maxHeartbeats 4000000
set_option linter.unusedSimpArgs false
set_option linter.unusedVariables false
attribute [local simp] vrun vwanted vyielded vop veval vevals vparts vO vbuiltin vlen vappend velems vcopy vmakeSlice vbuildSlice valloc vbox vmakeMap vload vpartT vpart vstore vfieldAddr vfield vindexAddr vindex vextract vslice vsliceZ vbounds vbnd zeroO vidx vlookup vmget vmapUpdate vdelete vnilq vnilp vnils vbin vsc vsc1 vscs vscl abinOp aint ashift aunOp aconvert amaxs amax2 pvcV pvc pvcs tput tget vargs VHeap.get VHeap.alloc VHeap.put VHeap.drop VHeap.empty vlook vput vdrop psplice pfill preps chunk List.range List.range.loop vresults vresult vresultV frz frzL PV.isF PV.allF PV.scal PV.allS retP subT allFT PV.one PV.ids PV.idsL dropL beq_eq ble_dec blt_dec
theorem p38 (l : List Int) : VPure Tryz.prog 38 [ints l] fun r => r = .bool (decide (l.length ≤ 60)) := by
 refine .of_body Tryz.func38 rfl rfl ?_
 refine .seq ?_
 refine .rn ?_
 refine .seq ?_
 refine .rn ?_
 refine .ret ?_
 refine ⟨_, _, zz4,zz4, ?_⟩
 simp; omega
end Go.Am.Ds
end
section
namespace Go.Am.Ds
open Go Go.Am Go.Proofs
set_option maxHeartbeats 4000000
set_option linter.unusedSimpArgs false
set_option linter.unusedVariables false
attribute [local simp] vrun vwanted vyielded vop veval vevals vparts vO vbuiltin vlen vappend velems vcopy vmakeSlice vbuildSlice valloc vbox vmakeMap vload vpartT vpart vstore vfieldAddr vfield vindexAddr vindex vextract vslice vsliceZ vbounds vbnd zeroO vidx vlookup vmget vmapUpdate vdelete vnilq vnilp vnils vbin vsc vsc1 vscs vscl abinOp aint ashift aunOp aconvert amaxs amax2 pvcV pvc pvcs tput tget vargs VHeap.get VHeap.alloc VHeap.put VHeap.drop VHeap.empty vlook vput vdrop psplice pfill preps chunk List.range List.range.loop vresults vresult vresultV frz frzL PV.isF PV.allF PV.scal PV.allS retP subT allFT PV.one PV.ids PV.idsL dropL beq_eq ble_dec blt_dec
attribute [local simp] zW tup2
def atI (s : List Wit) (id : Int) (d : Wit) : Wit := (getW s id).getD d
end Go.Am.Ds
end
section
namespace Go.Am.Ds
open Go Go.Am Go.Proofs
set_option maxHeartbeats 4000000
set_option linter.unusedSimpArgs false
set_option linter.unusedVariables false
attribute [local simp] vrun vwanted vyielded vop veval vevals vparts vO vbuiltin vlen vappend velems vcopy vmakeSlice vbuildSlice valloc vbox vmakeMap vload vpartT vpart vstore vfieldAddr vfield vindexAddr vindex vextract vslice vsliceZ vbounds vbnd zeroO vidx vlookup vmget vmapUpdate vdelete vnilq vnilp vnils vbin vsc vsc1 vscs vscl abinOp aint ashift aunOp aconvert amaxs amax2 pvcV pvc pvcs tput tget vargs VHeap.get VHeap.alloc VHeap.put VHeap.drop VHeap.empty vlook vput vdrop psplice pfill preps chunk List.range List.range.loop vresults vresult vresultV frz frzL PV.isF PV.allF PV.scal PV.allS retP subT allFT PV.one PV.ids PV.idsL dropL beq_eq ble_dec blt_dec
attribute [local simp] zW tup2
theorem ariS_eq (c p : Wit) : ariS c p = c.slips.filter fun n => !decide (n ∈ p.slips) := by
 unfold ariS
 congr 1
 funext n
 simp [mem_setK]
theorem take_succ_filt (p : Int → Bool) (l : List Int) (i : Nat) (h : i < l.length) : (l.take (i + 1)).filter p = if p l[i] then (l.take i).filter p ++ [l[i]] else (l.take i).filter p := take_succ_filter p l i h
end Go.Am.Ds
end
section
namespace Go.Am.Ds
open Go Go.Am Go.Proofs
set_option maxHeartbeats 4000000
set_option linter.unusedSimpArgs false
set_option linter.unusedVariables false
attribute [local simp] vrun vwanted vyielded vop veval vevals vparts vO vbuiltin vlen vappend velems vcopy vmakeSlice vbuildSlice valloc vbox vmakeMap vload vpartT vpart vstore vfieldAddr vfield vindexAddr vindex vextract vslice vsliceZ vbounds vbnd zeroO vidx vlookup vmget vmapUpdate vdelete vnilq vnilp vnils vbin vsc vsc1 vscs vscl abinOp aint ashift aunOp aconvert amaxs amax2 pvcV pvc pvcs tput tget vargs VHeap.get VHeap.alloc VHeap.put VHeap.drop VHeap.empty vlook vput vdrop psplice pfill preps chunk List.range List.range.loop vresults vresult vresultV frz frzL PV.isF PV.allF PV.scal PV.allS retP subT allFT PV.one PV.ids PV.idsL dropL beq_eq ble_dec blt_dec
attribute [local simp] zW tup2
def frS (s : List Wit) (c : Wit) (b : Int) : List Int := if b = 0 then c.slips else ariS c (atI s b c)
end Go.Am.Ds
end
section
namespace Go.Am.Ds
open Go Go.Am Go.Proofs
set_option maxHeartbeats 4000000
set_option linter.unusedSimpArgs false
set_option linter.unusedVariables false
attribute [local simp] vrun vwanted vyielded vop veval vevals vparts vO vbuiltin vlen vappend velems vcopy vmakeSlice vbuildSlice valloc vbox vmakeMap vload vpartT vpart vstore vfieldAddr vfield vindexAddr vindex vextract vslice vsliceZ vbounds vbnd zeroO vidx vlookup vmget vmapUpdate vdelete vnilq vnilp vnils vbin vsc vsc1 vscs vscl abinOp aint ashift aunOp aconvert amaxs amax2 pvcV pvc pvcs tput tget vargs VHeap.get VHeap.alloc VHeap.put VHeap.drop VHeap.empty vlook vput vdrop psplice pfill preps chunk List.range List.range.loop vresults vresult vresultV frz frzL PV.isF PV.allF PV.scal PV.allS retP subT allFT PV.one PV.ids PV.idsL dropL beq_eq ble_dec blt_dec
attribute [local simp] zW tup2
theorem p108' (s : List Wit) (hl : s.length < 4294967296) : VPure Tryz.prog 108 [encS s] fun r => r = .tup [.vec ((chL s).map encC), .int .i64 (chE s)] := VPure.soft (p108 s hl) rfl
end Go.Am.Ds
end
section
namespace Go.Am.Ds
open Go Go.Am Go.Proofs

theorem checkL_nodup : ∀ {l : List Wit} {seen : List Int}, checkL l seen = 0 → (l.map Wit.id).Nodup ∧ ∀ w ∈ l, w.id ∉ seen
 | [], _, _ => ⟨.nil, fun w hw => by cases hw⟩
 | a :: r, seen, h => by
  simp only [checkL] at h
  split at h
  ·split at h
   ·simp at h
   ·rename_i hn
    obtain ⟨h1, h2⟩ := checkL_nodup h
    refine ⟨?_, fun w hw => ?_⟩
    ·rw [List.map_cons, List.nodup_cons]
     refine ⟨fun hm => ?_, h1⟩
     obtain ⟨w, hw, he⟩ := List.mem_map.1 hm
     exact h2 w hw ((mem_insU _ _ _).2 (.inr he))
    ·rcases List.mem_cons.1 hw with rfl | hw
     ·exact hn
     ·exact fun hs => h2 w hw ((mem_insU _ _ _).2 (.inl hs))
  ·rename_i h0; exact absurd h h0
theorem checkS_nodup {s : List Wit} (h : checkS s = 0) : (s.map Wit.id).Nodup := by
 unfold checkS at h
 split at h
 ·simp at h
 ·exact (checkL_nodup h).1
theorem checkS_pos {s : List Wit} (h : checkS s = 0) : ∀ w ∈ s, 0 < w.id := fun w hw => by
 have := (checkS_ok h).2 w hw
 unfold witE at this
 split at this
 ·cases this
 ·omega

theorem idsS_sorted {s : List Wit} (h : (s.map Wit.id).Nodup) : (idsS s).Pairwise (· < ·) := by
 unfold idsS
 have h1 := List.pairwise_mergeSort (le := fun x y : Int => decide (x ≤ y)) (fun a b c h1 h2 => by simp only [decide_eq_true_eq] at *; omega) (fun a b => by simp only [Bool.or_eq_true, decide_eq_true_eq]; omega) (s.map Wit.id)
 have h2 : ((s.map Wit.id).mergeSort fun x y => decide (x ≤ y)).Nodup := (List.mergeSort_perm _ _).nodup_iff.2 h
 have h3 := h1.and h2
 exact h3.imp fun ⟨h4, h5⟩ => by
  simp only [decide_eq_true_eq] at h4
  rcases Int.lt_or_eq_of_le h4 with h6 | h6
  ·exact h6
  ·exact absurd h6 h5
theorem stepP_some {s : List Wit} {c : Wit} {id : Int} {y : Int × Int} : stepP s c id = some y ↔ ∃ p, getW s id = some p ∧ (whyP c p).1 = 0 ∧ y = (id, ((ariS c p).length : Int)) := by
 unfold stepP
 cases hg : getW s id with
 | none => simp
 | some p =>
  simp only
  by_cases h : (whyP c p).1 = 0
  ·rw [if_pos h]
   constructor
   ·intro h2; injection h2 with h2; exact ⟨p, rfl, h, h2.symm⟩
   ·rintro ⟨q, h2, _, h3⟩; injection h2 with h2; subst h2; rw [h3]
  ·rw [if_neg h]
   constructor
   ·intro h2; cases h2
   ·rintro ⟨q, h2, h3, _⟩; injection h2 with h2; subst h2; exact absurd h3 h
theorem parS_mem {s : List Wit} {c : Wit} {y : Int × Int} : y ∈ parS s c ↔ (y = (0,(c.slips.length : Int)) ∧ lastS c 0 = 0) ∨ ∃ p, y.1 ∈ idsS s ∧ getW s y.1 = some p ∧ (whyP c p).1 = 0 ∧ y.2 = ((ariS c p).length : Int) := by
 unfold parS
 rw [List.mem_append, List.mem_filterMap]
 have h0 : y ∈ headP c ↔ y = (0,(c.slips.length : Int)) ∧ lastS c 0 = 0 := by
  unfold headP
  split
  ·rename_i h; simp [h]
  ·rename_i h; simp [h]
 rw [h0]
 constructor
 ·rintro (h | ⟨id, h1, h2⟩)
  ·exact .inl h
  ·obtain ⟨p, h3, h4, h5⟩ := stepP_some.1 h2
   subst h5
   exact .inr ⟨p, h1, h3, h4, rfl⟩
 ·rintro (h | ⟨p, h1, h2, h3, h4⟩)
  ·exact .inl h
  ·exact .inr ⟨y.1, h1, stepP_some.2 ⟨p, h2, h3, Prod.ext rfl h4⟩⟩
theorem fold_spec : ∀ (l : List (Int × Int)) (d : List (Int × Int)) (x : List Int × Int),(d = [] ∧ x.1 = [] ∨ x.1 ≠ [] ∧ (∀ y ∈ d, x.2 ≤ y.2) ∧ ∃ y ∈ d, y.2 = x.2) →
  (d ++ l = [] ∧ (l.foldl stepC x).1 = [] ∨ (l.foldl stepC x).1 ≠ [] ∧ (∀ y ∈ d ++ l, (l.foldl stepC x).2 ≤ y.2) ∧ ∃ y ∈ d ++ l, y.2 = (l.foldl stepC x).2)
 | [], d, x, h => by simpa using h
 | y :: r, d, x, h => by
  have ih := fold_spec r (d ++ [y]) (stepC x y) (.inr (by
   unfold stepC
   split
   ·rename_i h1
    rcases h with ⟨_, h2⟩ | ⟨h2, h3, z, h4, h5⟩
    ·exact absurd h2 h1.1
    ·refine ⟨h2, fun w hw => ?_, z, List.mem_append_left _ h4, h5⟩
     rcases List.mem_append.1 hw with hw | hw
     ·exact h3 w hw
     ·rw [List.mem_singleton] at hw; rw [hw]; omega
   ·rename_i h1
    split
    ·rename_i h2
     refine ⟨by simp, fun w hw => ?_, y, by simp, rfl⟩
     rcases List.mem_append.1 hw with hw | hw
     ·rcases h with ⟨h3, _⟩ | ⟨h3, h4, _⟩
      ·rw [h3] at hw; cases hw
      ·rcases h2 with h2 | h2
       ·exact absurd h2 h3
       ·have := h4 w hw; simp only; omega
     ·rw [List.mem_singleton] at hw; rw [hw]; exact Int.le_refl _
    ·rename_i h2
     have h3 : x.1 ≠ [] := fun h4 => h2 (.inl h4)
     have h4 : ¬ y.2 < x.2 := fun h4 => h2 (.inr h4)
     have h5 : ¬ x.2 < y.2 := fun h5 => h1 ⟨h3, h5⟩
     rcases h with ⟨_, h6⟩ | ⟨_, h7, z, h8, h9⟩
     ·exact absurd h6 h3
     ·refine ⟨by simp, fun w hw => ?_, z, List.mem_append_left _ h8, h9⟩
      rcases List.mem_append.1 hw with hw | hw
      ·exact h7 w hw
      ·rw [List.mem_singleton] at hw; rw [hw]; simp only; omega))
  rw [List.append_assoc, List.singleton_append] at ih
  rw [List.foldl_cons]
  exact ih
theorem choF_spec (s : List Wit) (c : Wit) : (parS s c = [] ∧ (choF s c).1 = []) ∨ ((choF s c).1 ≠ [] ∧ (∀ y ∈ parS s c, (choF s c).2 ≤ y.2) ∧ ∃ y ∈ parS s c, y.2 = (choF s c).2) := by
 have := fold_spec (parS s c) [] ([],0) (.inl ⟨rfl, rfl⟩)
 simpa [choF] using this
theorem parS_fr {s : List Wit} (h : checkS s = 0) {c : Wit} {y : Int × Int} (hy : y ∈ parS s c) : y.2 = ((frS s c y.1).length : Int) := by
 rcases parS_mem.1 hy with ⟨rfl, _⟩ | ⟨p, h1, h2, _, h4⟩
 ·simp [frS]
 ·obtain ⟨hp, hpi⟩ := getW_mem h2
  have h0 : y.1 ≠ 0 := by have := checkS_pos h p hp; omega
  rw [h4, frS, if_neg h0, atI, h2]; rfl
end Go.Am.Ds
end
section
namespace Go.Am.Ds
open Go Go.Am Go.Proofs
set_option maxRecDepth 100000
set_option maxHeartbeats 4000000
set_option linter.unusedSimpArgs false
set_option linter.unusedVariables false
attribute [local simp] vrun vwanted vyielded vop vopA vputAll VHeap.back hidI hidF backL bm Nat.testBit_eq_decide_div_mod_eq veval vevals vparts vO vbuiltin vlen vappend velems vcopy vmakeSlice vbuildSlice valloc vbox vmakeMap vload vpartT vpart vstore vfieldAddr vfield vindexAddr vindex vextract vslice vsliceZ vbounds vbnd zeroO vidx vlookup vmget vmapUpdate vdelete vclear vnilq vnilp vnils vbin vsc vsc1 vscs vscl abinOp aint ashift aunOp aconvert amaxs amax2 pvcV pvc pvcs tput tget vargs VHeap.get VHeap.alloc VHeap.put VHeap.drop VHeap.empty vlook vput vdrop psplice pfill preps chunk List.range List.range.loop vresults vresult vresultV frz frzL PV.isF PV.allF PV.scal PV.allS retP subT allFT PV.one PV.ids PV.idsL dropL beq_eq ble_dec blt_dec
def longT (w : Wit) : Bool := decide (8 < w.slips.length) || decide (30 < w.mended.length) || decide (24 < w.models.length)
def smallS (s : List Wit) : Bool := !(s.any longT) && decide (s.length ≤ 12)
def parR (s : List Wit) (id : Int) : PV := match getW s id with
 | some p => .vp (encW p).cells
 | none => .ptr0
theorem parR_none {s : List Wit} {id : Int} (h : getW s id = none) : parR s id = .ptr0 := by unfold parR; rw [h]
theorem parR_some {s : List Wit} {id : Int} {p : Wit} (h : getW s id = some p) : parR s id = .vp (encW p).cells := by unfold parR; rw [h]
def stepD (s : List Wit) (c : Wit) (id : Int) : Option Int := match getW s id with
 | none => if id = 0 ∧ lastS c 0 = 0 then some (c.slips.length : Int) else none
 | some p => if (whyP c p).1 = 0 then some ((ariS c p).length : Int) else none
def desL (s : List Wit) (l : List Int) : List (Option Int) := (s.zip l).map fun x => stepD s x.1 x.2
def desP (s : List Wit) (l : List Int) (k : Nat) : Int := (((desL s l).take k).map (·.getD 0)).sum
def desR (s : List Wit) (l : List Int) : Int × Bool := if l.length = s.length ∧ (desL s l).all Option.isSome = true then (desP s l s.length, true) else (0, false)
theorem desL_get (s : List Wit) (l : List Int) (k : Nat) (h : k < s.length) (h2 : k < l.length) : ∃ h3 : k < (desL s l).length, (desL s l)[k] = stepD s s[k] l[k] := by
 refine ⟨by simp [desL]; omega, by simp [desL]⟩
theorem desP_succ (s : List Wit) (l : List Int) (k : Nat) (h : k < s.length) (h2 : k < l.length) : desP s l (k + 1) = desP s l k + (stepD s s[k] l[k]).getD 0 := by
 obtain ⟨h3, h4⟩ := desL_get s l k h h2
 unfold desP
 rw [List.take_succ_eq_append_getElem h3, h4]; simp
theorem desA_succ (s : List Wit) (l : List Int) (k : Nat) (h : k < s.length) (h2 : k < l.length) : ((desL s l).take (k + 1)).all Option.isSome = (((desL s l).take k).all Option.isSome && (stepD s s[k] l[k]).isSome) := by
 obtain ⟨h3, h4⟩ := desL_get s l k h h2
 rw [take_succ_all _ _ _ h3, h4]
theorem ariS_len (c p : Wit) : (ariS c p).length ≤ c.slips.length := by unfold ariS; exact List.length_filter_le _ _
theorem stepD_bd (s : List Wit) (c : Wit) (id : Int) : 0 ≤ (stepD s c id).getD 0 ∧ (stepD s c id).getD 0 ≤ (c.slips.length : Int) := by
 unfold stepD
 cases getW s id with
 | none => simp only; split <;> simp
 | some p =>
  simp only; have := ariS_len c p
  split <;> simp <;> omega
theorem desP_bd (s : List Wit) (l : List Int) (hli : ∀ w ∈ s, w.slips.length < 4294967296 ∧ w.mended.length < 4294967296 ∧ w.models.length < 4294967296) (he : l.length = s.length) : ∀ k, k ≤ s.length → 0 ≤ desP s l k ∧ desP s l k ≤ (k : Int) * 4294967296
 | 0, _ => by simp [desP]
 | k + 1, h => by
  have h1 := desP_bd s l hli he k (by omega)
  rw [desP_succ s l k (by omega) (by omega)]
  have h2 := stepD_bd s s[k] l[k]
  have h3 := (hli s[k] (List.getElem_mem (by omega))).1
  constructor
  ·omega
  ·push_cast; omega
theorem desR_none {s : List Wit} {l : List Int} {k : Nat} (h : k < s.length) (h2 : k < l.length) (hN : stepD s s[k] l[k] = none) : desR s l = (0, false) := by
 obtain ⟨h3, h4⟩ := desL_get s l k h h2
 unfold desR
 rw [if_neg]
 rintro ⟨_, ha⟩
 have := List.all_eq_true.1 ha _ (List.getElem_mem h3)
 rw [h4, hN] at this; cases this
theorem p21 (s : List Wit) (hl : s.length < 4611686018427387904) : VPure Tryz.prog 21 [encS s] fun r => r = .bool (smallS s) := by
 refine .of_body Tryz.func21 rfl rfl ?_
 refine .seq ?_
 refine .rn ?_
 refine .seq ?_
 refine .seq ?_
 refine .rn ?_
 refine .block ?_
 refine .loopS (fun i : Nat => ([(1, .ptr 0 0),(3, .int .i64 i)], ⟨1,[(0, .box [.vec (s.map encW)])]⟩)) (fun i => i ≤ s.length ∧ (s.take i).any longT = false) (fun i => s.length - i) 0 (by simp) (.mk [] [] zz14 zz15 rfl rfl rfl) ?_
 rintro i ⟨hi, hr⟩
 simp only at hi hr ⊢
 refine .seq ?_
 refine .seq ?_
 refine .rn ?_
 refine .condS rfl (fun c8 => ?_) (fun c8 => ?_)
 ·try simp at c8
  have hw2 : IntKind.i64.wrap ((i : Int) + 1) = (i : Int) + 1 := wrap64 (by omega) (by omega)
  have hA := take_succ_any longT s i c8
  rw [hr] at hA
  refine .skip ?_
  refine .seq ?_
  refine .block ?_
  refine .seq ?_
  refine .regionL [0,1,2,3,4,5,6,7,8,9,10,11,12,13,14,15,16,17,18,19,20,21,22,23,24,25,26,27] rfl zz0 ?_
  refine .rn [0,1,2,3,4,5,6,7,8] [9,10,11,12,13,14,15,16,17,18,19,20,21,22,23,24,25,26,27] ?_
  refine .split (t := 19) rfl (fun c19 => ?_) (fun c19 => ?_)
  ·try rw [c19]
   try simp at c19
   refine .rn [9,10,11,12,13,14,15,16,17,18,19,20,21,22,23,24,25,26,27] [] ?_
   refine .done ?_
   refine .condT rfl ?_
   refine .seq ?_
   refine .rn ?_
   refine .ret ?_
   refine ⟨_, _, zz4,zz4, ?_⟩
   have h : longT s[i] = true := by unfold longT; simp; omega
   unfold smallS; rw [any_get longT s i c8 h]; rfl
  ·try rw [c19]
   try simp at c19
   refine .rn [9,10,11,12,13,14,15,16,17,18] [19,20,21,22,23,24,25,26,27] ?_
   refine .split (t := 29) rfl (fun c29 => ?_) (fun c29 => ?_)
   ·try rw [c29]
    try simp at c29
    refine .rn [19,20,21,22,23,24,25,26,27] [] ?_
    refine .done ?_
    refine .condT rfl ?_
    refine .seq ?_
    refine .rn ?_
    refine .ret ?_
    refine ⟨_, _, zz4,zz4, ?_⟩
    have h : longT s[i] = true := by unfold longT; simp; omega
    unfold smallS; rw [any_get longT s i c8 h]; rfl
   ·try rw [c29]
    try simp at c29
    refine .rn [19,20,21,22,23,24,25,26,27] [] ?_
    refine .done ?_
    refine .condS rfl (fun c38 => ?_) (fun c38 => ?_)
    ·try simp at c38
     refine .seq ?_
     refine .rn ?_
     refine .ret ?_
     refine ⟨_, _, zz4,zz4, ?_⟩
     have h : longT s[i] = true := by unfold longT; simp; omega
     unfold smallS; rw [any_get longT s i c8 h]; rfl
    ·try simp at c38
     refine .skip ?_
     refine .rn ?_
     have h : longT s[i] = false := by unfold longT; simp; omega
     rw [h] at hA
     refine ⟨i + 1, ⟨zz5, by simpa using hA⟩, zz5,(.mk [] [] zz14 zz15 rfl rfl rfl)⟩
 ·try simp at c8
  have hi2 : i = s.length := by omega
  subst hi2
  rw [List.take_length] at hr
  refine .exit ?_
  refine .seq ?_
  refine .rn ?_
  refine .ret ?_
  refine ⟨_, _, zz4,zz4, ?_⟩
  unfold smallS; rw [hr]; simp; omega
theorem p173 (s : List Wit) (id : Int) (hl : s.length < 4294967296) : VPure Tryz.prog 173 [encS s, .int .i64 id] fun r => r = parR s id := by
 refine .of_body Tryz.func173 rfl rfl ?_
 refine .seq ?_
 refine .rn ?_
 refine .seq ?_
 refine .seq ?_
 refine .regionL [0,1,2,3] rfl zz0 ?_
 refine .rn [0,1] [2,3] ?_
 refine .step rfl rfl (.pure rfl rfl rfl Tryz.call105 (by decide) (p105' s id hl) (by first | rfl | simp [*]) ?_)
 rintro _ rfl
 refine .rn [3] [] ?_
 refine .done ?_
 refine .seq ?_
 refine .rn ?_
 refine .condS rfl (fun c10 => ?_) (fun c10 => ?_)
 ·try simp at c10
  obtain ⟨i, hi, hie, hga⟩ := getW_some c10
  refine .seq ?_
  refine .rn ?_
  refine .ret ?_
  refine ⟨_, _, zz4,zz4, ?_⟩
  rw [parR_some hga]; rfl
 ·try simp at c10
  have hn := getW_none (show findI s id < 0 by omega)
  refine .skip ?_
  refine .seq ?_
  refine .rn ?_
  refine .ret ?_
  refine ⟨_, _, zz4,zz4, ?_⟩
  rw [parR_none hn]
theorem p132 (s : List Wit) (l : List Int) (hl : s.length < 65536) (hlL : l.length < 4611686018427387904) (hli : ∀ w ∈ s, w.slips.length < 4294967296 ∧ w.mended.length < 4294967296 ∧ w.models.length < 4294967296) : VPure Tryz.prog 132 [encS s, ints l] fun r => r = .tup [.int .i64 (desR s l).1, .bool (desR s l).2] := by
 refine .of_body Tryz.func132 rfl rfl ?_
 refine .seq ?_
 refine .rn ?_
 refine .seq ?_
 refine .seq ?_
 refine .rn ?_
 refine .condS rfl (fun c17 => ?_) (fun c17 => ?_)
 ·try simp at c17
  refine .seq ?_
  refine .rn ?_
  refine .ret ?_
  refine ⟨_, _, zz4,zz4, ?_⟩
  rw [desR, if_neg (by rintro ⟨h, _⟩; omega)]
 ·try simp at c17
  have he : l.length = s.length := by omega
  refine .skip ?_
  refine .seq ?_
  refine .rn ?_
  refine .seq ?_
  refine .seq ?_
  refine .rn ?_
  refine .block ?_
  refine .loopS (fun k : Nat => ([(1, ints l),(2, .ptr 0 0),(6, .int .i64 (desP s l k)),(19, .vec (s.map encW)),(20, .int .i64 s.length),(21, .int .i64 k)], ⟨1,[(0, .box [.vec (s.map encW)])]⟩)) (fun k => k ≤ s.length ∧ ((desL s l).take k).all Option.isSome = true) (fun k => s.length - k) 0 (by simp) (.mk [] [] zz14 zz15 rfl rfl rfl) ?_
  rintro k ⟨hk, hal⟩
  simp only at hk hal ⊢
  refine .seq ?_
  refine .rn ?_
  refine .seq ?_
  refine .condS rfl (fun c22 => ?_) (fun c22 => ?_)
  ·try simp at c22
   have hw2 : IntKind.i64.wrap ((k : Int) + 1) = (k : Int) + 1 := wrap64 (by omega) (by omega)
   have hkl : k < l.length := by omega
   obtain ⟨hw1, hw3, hw4⟩ := hli s[k] (List.getElem_mem c22)
   have hbd := desP_bd s l hli he k hk
   have hbd2 := stepD_bd s s[k] l[k]
   have hS := desP_succ s l k c22 hkl
   have hA := desA_succ s l k c22 hkl
   have hW3 : ∀ x : Int, 0 ≤ x → x ≤ 4294967296 → IntKind.i64.wrap (desP s l k + x) = desP s l k + x := fun x h1 h2 => wrap64 (by omega) (by omega)
   have hE : encW s[k] = .agg [.int .i64 s[k].id, .int .i64 s[k].known, ints s[k].slips, ints s[k].mended, ints s[k].models, .int .i64 s[k].lo, .int .i64 s[k].hi] := rfl
   rcases hg : getW s l[k] with _ | p
   ·skip
    refine .skip ?_
    refine .seq ?_
    refine .block ?_
    refine .seq ?_
    refine .rn ?_
    refine .seq ?_
    refine .drawn (ms := [0,0,0,6,14,31,63]) (W := [5]) (items := [.op 0, .op 1, .op 2, .op 3, .op 4, .op 5, .op 6]) rfl zz0 zz0 zz0 ?_
    refine .rx ?_
    refine .rx ?_
    refine .rx ?_
    refine .rx ?_
    refine .rx ?_
    refine .wr rfl rfl (by decide) (.pure rfl rfl rfl Tryz.call173 (by decide) ((by have h := p173 s l[k] (by omega); rw [parR_none hg] at h; exact h)) (by first | rfl | simp [*]) ?_)
    rintro _ rfl
    refine .rx ?_
    refine .done ?_
    refine .seq ?_
    refine .seq ?_
    refine .regionL [0,1,2,3,4,5,6,7,8] rfl zz0 ?_
    refine .rn [0,1,2] [3,4,5,6,7,8] ?_
    refine .split (t := 34) rfl (fun c34 => ?_) (fun c34 => ?_)
    ·try rw [c34]
     try simp at c34
     refine .rn [3,4,5,6,7,8] [] ?_
     refine .done ?_
     refine .condS rfl (fun c40 => ?_) (fun c40 => ?_)
     ·try simp at c40
      have hN : stepD s s[k] l[k] = none := by simp only [stepD, hg]; rw [if_neg (fun h => c40 h.1)]
      refine .seq ?_
      refine .rn ?_
      refine .ret ?_
      refine ⟨_, _, zz4,zz4, ?_⟩
      rw [desR_none c22 hkl hN]
     ·try simp at c40
      refine .skip ?_
      refine .seq ?_
      refine .seq ?_
      refine .regionL [0,1,2,3,4,5,6,7] rfl zz0 ?_
      refine .rn [0,1] [2,3,4,5,6,7] ?_
      refine .step rfl rfl (.pure rfl rfl rfl Tryz.call101 (by decide) (p101a s[k] hw4) (by first | rfl | simp [*]) ?_)
      rintro _ rfl
      refine .rn [3,4,5,6,7] [] ?_
      refine .done ?_
      refine .seq ?_
      refine .rn ?_
      refine .condS rfl (fun c48 => ?_) (fun c48 => ?_)
      ·try simp at c48
       have hN : stepD s s[k] l[k] = none := by simp only [stepD, hg]; rw [if_neg (fun h => c48 h.2)]
       refine .seq ?_
       refine .rn ?_
       refine .ret ?_
       refine ⟨_, _, zz4,zz4, ?_⟩
       rw [desR_none c22 hkl hN]
      ·try simp at c48
       have hN : stepD s s[k] l[k] = some (s[k].slips.length : Int) := by simp only [stepD, hg]; rw [if_pos ⟨c40, c48⟩]
       rw [hN] at hS hA
       simp only [Option.getD_some] at hS
       have hW4 := hW3 (s[k].slips.length : Int) (by omega) (by omega)
       refine .skip ?_
       refine .regionL [0,1,2,3,4,5,6] rfl zz0 ?_
       refine .rn [0,1,2] [3,4,5,6] ?_
       refine .step rfl rfl (.pure rfl rfl rfl Tryz.call109 (by decide) (p109a s[k]) (by first | rfl | simp [*]) ?_)
       rintro _ rfl
       refine .rn [4,5,6] [] ?_
       refine .done ?_
       refine .rn ?_
       refine ⟨k + 1, ⟨zz5, by rw [hA]; simpa using hal⟩, zz5,(.mk [] [] zz14 zz15 rfl rfl rfl)⟩
    ·try rw [c34]
     try simp at c34
   ·skip
    refine .skip ?_
    refine .seq ?_
    refine .block ?_
    refine .seq ?_
    refine .rn ?_
    refine .seq ?_
    refine .drawn (ms := [0,0,0,6,14,31,63]) (W := [5]) (items := [.op 0, .op 1, .op 2, .op 3, .op 4, .op 5, .op 6]) rfl zz0 zz0 zz0 ?_
    refine .rx ?_
    refine .rx ?_
    refine .rx ?_
    refine .rx ?_
    refine .rx ?_
    refine .wr rfl rfl (by decide) (.pure rfl rfl rfl Tryz.call173 (by decide) ((by have h := p173 s l[k] (by omega); rw [parR_some hg] at h; exact h)) (by first | rfl | simp [*]) ?_)
    rintro _ rfl
    refine .rx ?_
    refine .done ?_
    refine .seq ?_
    refine .seq ?_
    refine .regionL [0,1,2,3,4,5,6,7,8] rfl zz0 ?_
    refine .rn [0,1,2] [3,4,5,6,7,8] ?_
    refine .split (t := 34) rfl (fun c34 => ?_) (fun c34 => ?_)
    ·try rw [c34]
     try simp at c34
    ·try rw [c34]
     try simp at c34
     have hp := (getW_mem hg).1
     have hp1 := (hli p hp).1
     refine .rn [3,4,5,6,7,8] [] ?_
     refine .done ?_
     refine .condF rfl ?_
     refine .skip ?_
     refine .seq ?_
     refine .seq ?_
     refine .regionL [0,1,2,3,4,5,6,7] rfl zz0 ?_
     refine .rn [0,1] [2,3,4,5,6,7] ?_
     refine .step rfl rfl (.pure rfl rfl rfl Tryz.call101 (by decide) (p101b s[k] p hw1 hw3 hw4 hp1) (by first | rfl | simp [*]) ?_)
     rintro _ rfl
     refine .rn [3,4,5,6,7] [] ?_
     refine .done ?_
     refine .seq ?_
     refine .rn ?_
     refine .condS rfl (fun c48 => ?_) (fun c48 => ?_)
     ·try simp at c48
      have hN : stepD s s[k] l[k] = none := by simp only [stepD, hg]; rw [if_neg c48]
      refine .seq ?_
      refine .rn ?_
      refine .ret ?_
      refine ⟨_, _, zz4,zz4, ?_⟩
      rw [desR_none c22 hkl hN]
     ·try simp at c48
      have hN : stepD s s[k] l[k] = some ((ariS s[k] p).length : Int) := by simp only [stepD, hg]; rw [if_pos c48]
      rw [hN] at hS hA
      simp only [Option.getD_some] at hS
      have har := ariS_len s[k] p
      have hW4 := hW3 ((ariS s[k] p).length : Int) (by omega) (by omega)
      refine .skip ?_
      refine .regionL [0,1,2,3,4,5,6] rfl zz0 ?_
      refine .rn [0,1,2] [3,4,5,6] ?_
      refine .step rfl rfl (.pure rfl rfl rfl Tryz.call109 (by decide) (p109 s[k] p hw1 hp1) (by first | rfl | simp [*]) ?_)
      rintro _ rfl
      refine .rn [4,5,6] [] ?_
      refine .done ?_
      refine .rn ?_
      refine ⟨k + 1, ⟨zz5, by rw [hA]; simpa using hal⟩, zz5,(.mk [] [] zz14 zz15 rfl rfl rfl)⟩
  ·try simp at c22
   have hk2 : k = s.length := by omega
   subst hk2
   refine .exit ?_
   refine .seq ?_
   refine .rn ?_
   refine .ret ?_
   refine ⟨_, _, zz4,zz4, ?_⟩
   have hall : (desL s l).all Option.isSome = true := by
    rw [List.take_of_length_le (by simp [desL]; omega)] at hal
    simpa using hal
   rw [desR, if_pos ⟨he, hall⟩]
end Go.Am.Ds
end
section
namespace Go.Am.Ds
open Go Go.Am Go.Proofs
set_option maxRecDepth 100000
set_option maxHeartbeats 4000000
set_option linter.unusedSimpArgs false
set_option linter.unusedVariables false
attribute [local simp] vrun vwanted vyielded vop vopA vputAll VHeap.back hidI hidF backL bm Nat.testBit_eq_decide_div_mod_eq veval vevals vparts vO vbuiltin vlen vappend velems vcopy vmakeSlice vbuildSlice valloc vbox vmakeMap vload vpartT vpart vstore vfieldAddr vfield vindexAddr vindex vextract vslice vsliceZ vbounds vbnd zeroO vidx vlookup vmget vmapUpdate vdelete vclear vnilq vnilp vnils vbin vsc vsc1 vscs vscl abinOp aint ashift aunOp aconvert amaxs amax2 pvcV pvc pvcs tput tget vargs VHeap.get VHeap.alloc VHeap.put VHeap.drop VHeap.empty vlook vput vdrop psplice pfill preps chunk List.range List.range.loop vresults vresult vresultV frz frzL PV.isF PV.allF PV.scal PV.allS retP subT allFT PV.one PV.ids PV.idsL dropL beq_eq ble_dec blt_dec
def bestP (s : List Wit) : List Int := (chL s).map fun c => c.1.headD 0
def bestS (s : List Wit) (k : Nat) : Int := (((chL s).take k).map (·.2)).sum
theorem chL_ok {s : List Wit} (h : chE s = 0) : chL s = s.map (choF s) := by unfold chL; rw [if_pos h]
theorem chE_ok {s : List Wit} (h : chE s = 0) : checkS s = 0 ∧ ∀ c ∈ s, (choF s c).1 ≠ [] := by
 unfold chE at h
 split at h
 ·split at h
  ·cases h
  ·rename_i h1 h2; exact ⟨h1, fun c hc h3 => h2 ⟨c, hc, h3⟩⟩
 ·contradiction
theorem choF_bd {s : List Wit} {c : Wit} (h : (choF s c).1 ≠ []) : 0 ≤ (choF s c).2 ∧ (choF s c).2 ≤ (c.slips.length : Int) := by
 rcases choF_spec s c with ⟨_, h1⟩ | ⟨_, _, y, hy, h2⟩
 ·exact absurd h1 h
 ·rcases parS_mem.1 hy with ⟨rfl, _⟩ | ⟨p, _, _, _, h4⟩
  ·simp only at h2; omega
  ·have := ariS_len c p; omega
theorem chL_get {s : List Wit} (h : chE s = 0) {k : Nat} (hk : k < (chL s).length) : ∃ a r d, (chL s)[k] = (a :: r, d) ∧ 0 ≤ d ∧ d < 4294967296 := by
 obtain ⟨h1, h2⟩ := chE_ok h
 have aux : ∀ x ∈ chL s, ∃ c ∈ s, choF s c = x := fun x hx => by rw [chL_ok h] at hx; exact List.mem_map.1 hx
 obtain ⟨c, hc, he⟩ := aux _ (List.getElem_mem hk)
 have h3 := h2 c hc
 have h4 := choF_bd h3
 have h5 := (checkS_lens h1 c hc).1
 cases h6 : (choF s c).1 with
 | nil => exact absurd h6 h3
 | cons a r => exact ⟨a, r, (choF s c).2, by rw [← he, ← h6], h4.1, by omega⟩
theorem chL_len {s : List Wit} (h : chE s = 0) : (chL s).length = s.length := by rw [chL_ok h]; simp
theorem bestS_succ (s : List Wit) (k : Nat) (hk : k < (chL s).length) : bestS s (k + 1) = bestS s k + (chL s)[k].2 := by
 unfold bestS; rw [List.take_succ_eq_append_getElem hk, List.map_append, List.sum_append]; simp only [List.map_cons, List.map_nil, List.sum_cons, List.sum_nil]; omega
theorem bestS_bd {s : List Wit} (h : chE s = 0) : ∀ k, k ≤ (chL s).length → 0 ≤ bestS s k ∧ bestS s k ≤ (k : Int) * 4294967296
 | 0, _ => by simp [bestS]
 | k + 1, hk => by
  have h1 := bestS_bd h k (by omega)
  obtain ⟨a, r, d, he, h2, h3⟩ := chL_get h (show k < (chL s).length by omega)
  rw [bestS_succ s k (by omega), he]
  constructor
  ·omega
  ·push_cast; omega
theorem p63 (s : List Wit) (hl : s.length < 65536) : VPure Tryz.prog 63 [encS s] fun r => Soft r (.tup [.agg [ints (bestP s), .int .i64 (bestS s (chL s).length)], .int .i64 (chE s)]) := by
 refine .of_body Tryz.func63 rfl rfl ?_
 refine .seq ?_
 refine .rn ?_
 refine .seq ?_
 refine .regionL [0,1,2,3,4,5,6] rfl zz0 ?_
 refine .rn [0] [1,2,3,4,5,6] ?_
 refine .step rfl rfl (.pure rfl rfl rfl Tryz.call108 (by decide) (p108' s (by omega)) (by first | rfl | simp [*]) ?_)
 rintro _ rfl
 refine .rn [2,3,4,5,6] [] ?_
 refine .done ?_
 refine .seq ?_
 refine .seq ?_
 refine .rn ?_
 refine .condS rfl (fun c15 => ?_) (fun c15 => ?_)
 ·try simp at c15
  refine .seq ?_
  refine .rn ?_
  refine .ret ?_
  refine ⟨_, _, zz4,zz4, ?_⟩
  have e2 : chL s = [] := by unfold chL; rw [if_neg c15]
  have e3 : bestP s = [] := by unfold bestP; rw [e2]; rfl
  have e4 : bestS s (chL s).length = 0 := by unfold bestS; rw [e2]; rfl
  rw [e3, e4]
  exact soft_tup (AltL.cons (.agg' (.cons .sl0v (.cons (.same _ rfl) .nil))) (AltL.cons (.same _ rfl) AltL.nil))
 ·try simp at c15
  refine .skip ?_
  refine .seq ?_
  refine .rn ?_
  refine .seq ?_
  refine .seq ?_
  refine .rn ?_
  refine .block ?_
  refine .loopS (fun k : Nat => ([(2, .ptr 1 0),(6, .ptr 2 0),(18, .vec ((chL s).map encC)),(19, .int .i64 (chL s).length),(20, .int .i64 k)], ⟨4,[(3, .grow 1 (((bestP s).take k).map (.int .i64))),(2, .box [.grow 3 k true, .int .i64 (bestS s k)]),(1, .box [.sl0, .int .i64 0]),(0, .box [.vec (s.map encW)])]⟩)) (fun k => k ≤ (chL s).length) (fun k => (chL s).length - k) 0 (by simp) (.mk [] [] zz14 zz15 rfl rfl rfl) ?_
  rintro k hk
  simp only at hk ⊢
  refine .seq ?_
  refine .rn ?_
  refine .seq ?_
  refine .condS rfl (fun c21 => ?_) (fun c21 => ?_)
  ·try simp at c21
   have hcl : (chL s).length < 65536 := by have := chL_len c15; omega
   have hw2 : IntKind.i64.wrap ((k : Int) + 1) = (k : Int) + 1 := wrap64 (by omega) (by omega)
   obtain ⟨a, r, d, hc, hd1, hd2⟩ := chL_get c15 c21
   have hE : encC (a :: r, d) = .agg [ints (a :: r), .int .i64 d] := rfl
   have hS := bestS_succ s k c21
   rw [hc] at hS
   simp only at hS
   have hbd := bestS_bd c15 k hk
   have hW4 : IntKind.i64.wrap (bestS s k + d) = bestS s k + d := wrap64 (by omega) (by omega)
   have hT : (bestP s).take (k + 1) = (bestP s).take k ++ [a] := by
    have h1 : k < (bestP s).length := by simpa [bestP] using c21
    rw [List.take_succ_eq_append_getElem h1]; simp [bestP, hc]
   have hln : min k (bestP s).length = k := by simp [bestP]; omega
   have hT2 : List.take (k + 1) (List.map (PV.int .i64) (bestP s)) = List.take k (List.map (PV.int .i64) (bestP s)) ++ [.int .i64 a] := by rw [← List.map_take, hT]; simp
   have hb : k + 1 ≤ 4294967296 := by omega
   refine .skip ?_
   refine .seq ?_
   refine .block ?_
   refine .seq ?_
   refine .rn ?_
   refine .seq ?_
   refine .drawn (ms := [0,1,0,4,12,28,60,127,255,511]) (W := [6,7,9]) (items := [.op 0, .op 1, .op 2, .op 3, .op 4, .op 5, .op 6, .ck 1, .op 7, .op 8, .op 9]) rfl zz0 zz0 zz0 ?_
   refine .rx ?_
   refine .rx ?_
   refine .rx ?_
   refine .rx ?_
   refine .rx ?_
   refine .rx ?_
   refine .wr rfl rfl (by decide) (.vop zz1 (by decide) ?_)
   refine .ck rfl zz0 ?_
   refine .wr rfl rfl (by decide) (.vop zz1 (by decide) ?_)
   refine .rx ?_
   refine .wr rfl rfl (by decide) (.vop zz1 (by decide) ?_)
   refine .done ?_
   refine .rn ?_
   refine .rn ?_
   refine ⟨k + 1, c21,zz5,(.mk [] [(3,6)] zz14 zz15 rfl rfl rfl)⟩
  ·try simp at c21
   have : k = (chL s).length := by omega
   subst this
   have hbl : (bestP s).length = (chL s).length := by simp [bestP]
   refine .exit ?_
   refine .seq ?_
   refine .rn ?_
   refine .ret ?_
   refine ⟨_, _, zz4,(by simp [hbl] <;> rfl), ?_⟩
   have e3 : List.take (chL s).length (List.map (PV.int .i64) (bestP s)) = List.map (PV.int .i64) (bestP s) := List.take_of_length_le (by simp [hbl])
   rw [c15]
   show Soft _ _
   rw [e3]
   exact soft_rfl rfl
end Go.Am.Ds
end
section
namespace Go.Am.Ds
open Go Go.Am Go.Proofs
set_option maxRecDepth 100000
set_option maxHeartbeats 4000000
set_option linter.unusedSimpArgs false
set_option linter.unusedVariables false
attribute [local simp] vrun vwanted vyielded vop vopA vputAll VHeap.back hidI hidF backL bm Nat.testBit_eq_decide_div_mod_eq veval vevals vparts vO vbuiltin vlen vappend velems vcopy vmakeSlice vbuildSlice valloc vbox vmakeMap vload vpartT vpart vstore vfieldAddr vfield vindexAddr vindex vextract vslice vsliceZ vbounds vbnd zeroO vidx vlookup vmget vmapUpdate vdelete vclear vnilq vnilp vnils vbin vsc vsc1 vscs vscl abinOp aint ashift aunOp aconvert amaxs amax2 pvcV pvc pvcs tput tget vargs VHeap.get VHeap.alloc VHeap.put VHeap.drop VHeap.empty vlook vput vdrop psplice pfill preps chunk List.range List.range.loop vresults vresult vresultV frz frzL PV.isF PV.allF PV.scal PV.allS retP subT allFT PV.one PV.ids PV.idsL dropL beq_eq ble_dec blt_dec
theorem p63' (s : List Wit) (hl : s.length < 65536) : VPure Tryz.prog 63 [encS s] fun r => r = .tup [.agg [ints (bestP s), .int .i64 (bestS s (chL s).length)], .int .i64 (chE s)] := VPure.soft (p63 s hl) rfl
def cbR (s : List Wit) (l : List Int) (m : Int) : Int := if checkS s = 0 then (if (desR s l).2 = true ∧ chE s = 0 ∧ (desR s l).1 = m ∧ (desR s l).1 = bestS s (chL s).length then 0 else 8) else checkS s
theorem p55 (s : List Wit) (hl : s.length < 65536) : VPure Tryz.prog 55 [encS s] fun r => r = .tup [.int .i64 (bestS s (chL s).length), .int .i64 (chE s)] := by
 refine .of_body Tryz.func55 rfl rfl ?_
 refine .seq ?_
 refine .rn ?_
 refine .seq ?_
 refine .regionL [0,1,2,3,4,5,6,7] rfl zz0 ?_
 refine .rn [0] [1,2,3,4,5,6,7] ?_
 refine .step rfl rfl (.pure rfl rfl rfl Tryz.call63 (by decide) (p63' s hl) (by first | rfl | simp [*]) ?_)
 rintro _ rfl
 refine .rn [2,3,4,5,6,7] [] ?_
 refine .done ?_
 refine .seq ?_
 refine .rn ?_
 refine .ret ?_
 refine ⟨_, _, zz4,zz4, ?_⟩
 first | rfl | (simp [*]; done) | (simp_all; done)
theorem p56 (s : List Wit) (l : List Int) (m : Int) (hl : s.length < 65536) (hlL : l.length < 4611686018427387904) : VPure Tryz.prog 56 [encS s, .agg [ints l, .int .i64 m]] fun r => r = .int .i64 (cbR s l m) := by
 refine .of_body Tryz.func56 rfl rfl ?_
 refine .seq ?_
 refine .rn ?_
 refine .seq ?_
 refine .seq ?_
 refine .regionL [0,1,2] rfl zz0 ?_
 refine .rn [0] [1,2] ?_
 refine .step rfl rfl (.pure rfl rfl rfl Tryz.call35 (by decide) (p35 s (by omega)) (by first | rfl | simp [*]) ?_)
 rintro _ rfl
 refine .rn [2] [] ?_
 refine .done ?_
 refine .seq ?_
 refine .rn ?_
 refine .condS rfl (fun c13 => ?_) (fun c13 => ?_)
 ·try simp at c13
  refine .seq ?_
  refine .rn ?_
  refine .ret ?_
  refine ⟨_, _, zz4,zz4, ?_⟩
  simp_all [cbR]
 ·try simp at c13
  refine .skip ?_
  refine .seq ?_
  refine .regionL [0,1,2,3,4,5,6,7,8] rfl zz0 ?_
  refine .rn [0,1,2] [3,4,5,6,7,8] ?_
  refine .step rfl rfl (.pure rfl rfl rfl Tryz.call132 (by decide) (p132 s l hl hlL (checkS_lens c13)) (by first | rfl | simp [*]) ?_)
  rintro _ rfl
  refine .rn [4,5,6,7,8] [] ?_
  refine .done ?_
  refine .seq ?_
  refine .regionL [0,1,2,3,4,5,6] rfl zz0 ?_
  refine .rn [0] [1,2,3,4,5,6] ?_
  refine .step rfl rfl (.pure rfl rfl rfl Tryz.call55 (by decide) (p55 s hl) (by first | rfl | simp [*]) ?_)
  rintro _ rfl
  refine .rn [2,3,4,5,6] [] ?_
  refine .done ?_
  refine .seq ?_
  refine .seq ?_
  refine .regionL [0,1,2,3,4,5,6,7,8,9,10,11,12,13,14,15,16] rfl zz0 ?_
  refine .rn [0,1,2] [3,4,5,6,7,8,9,10,11,12,13,14,15,16] ?_
  refine .split (t := 29) rfl (fun c29 => ?_) (fun c29 => ?_)
  ·try rw [c29]
   try simp at c29
   refine .rn [3,4,5,6,7,8,9,10,11,12,13,14,15,16] [] ?_
   refine .done ?_
   refine .condT rfl ?_
   refine .seq ?_
   refine .rn ?_
   refine .ret ?_
   refine ⟨_, _, zz4,zz4, ?_⟩
   simp_all [cbR]
  ·try rw [c29]
   try simp at c29
   refine .rn [3,4,5,6] [7,8,9,10,11,12,13,14,15,16] ?_
   refine .split (t := 33) rfl (fun c33 => ?_) (fun c33 => ?_)
   ·try rw [c33]
    try simp at c33
    refine .rn [7,8,9,10,11,12,13,14,15,16] [] ?_
    refine .done ?_
    refine .condT rfl ?_
    refine .seq ?_
    refine .rn ?_
    refine .ret ?_
    refine ⟨_, _, zz4,zz4, ?_⟩
    simp_all [cbR]
   ·try rw [c33]
    try simp at c33
    refine .rn [7,8,9,10,11,12] [13,14,15,16] ?_
    refine .split (t := 39) rfl (fun c39 => ?_) (fun c39 => ?_)
    ·try rw [c39]
     try simp at c39
     refine .rn [13,14,15,16] [] ?_
     refine .done ?_
     refine .condT rfl ?_
     refine .seq ?_
     refine .rn ?_
     refine .ret ?_
     refine ⟨_, _, zz4,zz4, ?_⟩
     simp_all [cbR]
    ·try rw [c39]
     try simp at c39
     refine .rn [13,14,15,16] [] ?_
     refine .done ?_
     refine .condS rfl (fun c43 => ?_) (fun c43 => ?_)
     ·try simp at c43
      refine .seq ?_
      refine .rn ?_
      refine .ret ?_
      refine ⟨_, _, zz4,zz4, ?_⟩
      simp_all [cbR]
     ·try simp at c43
      refine .skip ?_
      refine .seq ?_
      refine .rn ?_
      refine .ret ?_
      refine ⟨_, _, zz4,zz4, ?_⟩
      simp_all [cbR]
end Go.Am.Ds
end
section
namespace Go.Am.Ds
open Go Go.Am Go.Proofs
theorem fold_mem : ∀ (l d : List (Int × Int)) (x : List Int × Int),(∀ b ∈ x.1,(b, x.2) ∈ d) → ∀ b ∈ (l.foldl stepC x).1,(b, (l.foldl stepC x).2) ∈ d ++ l
 | [], d, x, h => by simpa using h
 | y :: r, d, x, h => by
  have ih := fold_mem r (d ++ [y]) (stepC x y) (by
   unfold stepC
   split
   ·intro b hb; exact List.mem_append_left _ (h b hb)
   ·rename_i h1
    split
    ·intro b hb
     rw [List.mem_singleton] at hb
     subst hb; simp
    ·rename_i h2
     intro b hb
     have h3 : x.1 ≠ [] := fun h4 => h2 (.inl h4)
     have h4 : ¬ y.2 < x.2 := fun h4 => h2 (.inr h4)
     have h5 : ¬ x.2 < y.2 := fun h5 => h1 ⟨h3, h5⟩
     rcases List.mem_append.1 hb with hb | hb
     ·exact List.mem_append_left _ (h b hb)
     ·rw [List.mem_singleton] at hb
      subst hb
      have h6 : x.2 = y.2 := by omega
      simp [h6])
  rw [List.append_assoc, List.singleton_append] at ih
  rw [List.foldl_cons]
  exact ih
theorem choF_mem {s : List Wit} {c : Wit} {b : Int} (h : b ∈ (choF s c).1) : (b, (choF s c).2) ∈ parS s c := by
 have := fold_mem (parS s c) [] ([],0) (by simp) b h
 rw [List.nil_append] at this
 exact this
theorem stepD_par {s : List Wit} (h : checkS s = 0) {c : Wit} {b d : Int} (hb : (b, d) ∈ parS s c) : stepD s c b = some d := by
 rcases parS_mem.1 hb with ⟨he, h1⟩ | ⟨p, _, h2, h3, h4⟩
 ·injection he with e1 e2
  subst e1; subst e2
  have hg : getW s 0 = none := by
   cases hg : getW s 0 with
   | none => rfl
   | some p =>
    obtain ⟨hp, h0⟩ := getW_mem hg
    have := checkS_pos h p hp
    omega
  simp only [stepD, hg]
  rw [if_pos ⟨trivial, h1⟩]
 ·simp only at h2 h4
  simp only [stepD, h2]
  rw [if_pos h3, h4]
theorem head_mem {l : List Int} (h : l ≠ []) : l.headD 0 ∈ l := by
 cases l with
 | nil => exact absurd rfl h
 | cons a r => simp
theorem desL_best {s : List Wit} (h : chE s = 0) : desL s (bestP s) = (chL s).map fun c => some c.2 := by
 obtain ⟨h0, h1⟩ := chE_ok h
 have hb : bestP s = s.map fun c => (choF s c).1.headD 0 := by unfold bestP; rw [chL_ok h, List.map_map]; rfl
 rw [chL_ok h, hb]
 unfold desL
 rw [List.zip_map_right, List.map_map, List.map_map]
 apply List.ext_getElem
 ·simp
 ·intro i h2 h3
  simp only [List.getElem_map, List.getElem_zip, Function.comp, Prod.map, id]
  exact stepD_par h0 (choF_mem (head_mem (h1 _ (List.getElem_mem _))))
theorem cbR_best {s : List Wit} (h : chE s = 0) : cbR s (bestP s) (bestS s (chL s).length) = 0 := by
 obtain ⟨h0, h1⟩ := chE_ok h
 have hlen := chL_len h
 have hd : desR s (bestP s) = (bestS s (chL s).length, true) := by
  unfold desR
  rw [if_pos ⟨by simp [bestP, hlen], by rw [desL_best h]; simp⟩]
  congr 1
  unfold desP bestS
  rw [desL_best h, ← hlen, List.take_of_length_le (by simp), List.take_of_length_le (by simp), List.map_map]
  rfl
 unfold cbR
 rw [if_pos h0, hd, if_pos ⟨rfl, h, rfl, rfl⟩]
theorem getW_own : ∀ {s : List Wit},(s.map Wit.id).Nodup → ∀ {w : Wit}, w ∈ s → getW s w.id = some w
 | a :: r, hn, w, hw => by
  rw [List.map_cons, List.nodup_cons] at hn
  unfold getW
  rw [List.find?_cons]
  rcases List.mem_cons.1 hw with rfl | hw
  ·simp
  ·have : a.id ≠ w.id := fun h => hn.1 (h ▸ List.mem_map_of_mem hw)
   rw [show decide (a.id = w.id) = false from decide_eq_false this]
   exact getW_own hn.2 hw
end Go.Am.Ds
end
section
namespace Go.Am.Ds
open Go Go.Am Go.Proofs
set_option maxHeartbeats 4000000
set_option linter.unusedSimpArgs false
set_option linter.unusedVariables false
attribute [local simp] vrun vwanted vyielded vop veval vevals vparts vO vbuiltin vlen vappend velems vcopy vmakeSlice vbuildSlice valloc vbox vmakeMap vload vpartT vpart vstore vfieldAddr vfield vindexAddr vindex vextract vslice vsliceZ vbounds vbnd zeroO vidx vlookup vmget vmapUpdate vdelete vnilq vnilp vnils vbin vsc vsc1 vscs vscl abinOp aint ashift aunOp aconvert amaxs amax2 pvcV pvc pvcs tput tget vargs VHeap.get VHeap.alloc VHeap.put VHeap.drop VHeap.empty vlook vput vdrop psplice pfill preps chunk List.range List.range.loop vresults vresult vresultV frz frzL PV.isF PV.allF PV.scal PV.allS retP subT allFT PV.one PV.ids PV.idsL dropL beq_eq ble_dec blt_dec
theorem smallS_len {s : List Wit} (h : smallS s = true) : s.length ≤ 12 := by
 unfold smallS at h
 simp only [Bool.and_eq_true, decide_eq_true_eq] at h
 exact h.2
end Go.Am.Ds
end
section
namespace Go.Am.Ds
open Go Go.Am Go.Proofs
set_option maxRecDepth 100000
set_option maxHeartbeats 4000000
set_option linter.unusedSimpArgs false
set_option linter.unusedVariables false
attribute [local simp] vrun vwanted vyielded vop vopA vputAll VHeap.back hidI hidF backL bm Nat.testBit_eq_decide_div_mod_eq veval vevals vparts vO vbuiltin vlen vappend velems vcopy vmakeSlice vbuildSlice valloc vbox vmakeMap vload vpartT vpart vstore vfieldAddr vfield vindexAddr vindex vextract vslice vsliceZ vbounds vbnd zeroO vidx vlookup vmget vmapUpdate vdelete vclear vnilq vnilp vnils vbin vsc vsc1 vscs vscl abinOp aint ashift aunOp aconvert amaxs amax2 pvcV pvc pvcs tput tget vargs VHeap.get VHeap.alloc VHeap.put VHeap.drop VHeap.empty vlook vput vdrop psplice pfill preps chunk List.range List.range.loop vresults vresult vresultV frz frzL PV.isF PV.allF PV.scal PV.allS retP subT allFT PV.one PV.ids PV.idsL dropL beq_eq ble_dec blt_dec
def encK (x : Int × Int) : PV := .agg [.int .i64 x.1, .int .i64 x.2]
@[simp] theorem allSz_encK (l : List (Int × Int)) : allSz 2 (l.map encK) = true := allSz_map (f := encK) (n := 2) (fun _ => rfl) l
@[simp] theorem allOne_encK (l : List (Int × Int)) : allOne (l.map encK) = true := allOne_map (f := encK) (fun _ => rfl) l
theorem take_succ_mem {l : List Int} {n : Int} {i : Nat} (h : i < l.length) (h1 : n ∉ l.take i) (h2 : l[i] ≠ n) : n ∉ l.take (i + 1) := by
 rw [List.take_succ_eq_append_getElem h]
 intro h3
 rcases List.mem_append.1 h3 with h3 | h3
 ·exact h1 h3
 ·rw [List.mem_singleton] at h3; exact h2 h3.symm
theorem p46 (l : List Int) (n : Int) (hl : l.length < 4611686018427387904) : VPure Tryz.prog 46 [ints l, .int .i64 n] fun r => r = .bool (decide (n ∈ l)) := by
 refine .of_body Tryz.func46 rfl rfl ?_
 refine .seq ?_
 refine .rn ?_
 refine .seq ?_
 refine .seq ?_
 refine .rn ?_
 refine .block ?_
 refine .loopS (fun i : Nat => ([(0, ints l),(1, .int .i64 n),(5, .int .i64 i)], ⟨0,[]⟩)) (fun i => i ≤ l.length ∧ n ∉ l.take i) (fun i => l.length - i) 0 (by simp) (.mk [] [] zz14 zz15 rfl rfl rfl) ?_
 rintro i ⟨hi, hn⟩
 simp only at hi hn ⊢
 refine .seq ?_
 refine .seq ?_
 refine .rn ?_
 refine .condS rfl (fun c9 => ?_) (fun c9 => ?_)
 ·try simp at c9
  have hw2 : IntKind.i64.wrap ((i : Int) + 1) = (i : Int) + 1 := wrap64 (by omega) (by omega)
  refine .skip ?_
  refine .seq ?_
  refine .block ?_
  refine .seq ?_
  refine .rn ?_
  refine .condS rfl (fun c17 => ?_) (fun c17 => ?_)
  ·try simp at c17
   refine .seq ?_
   refine .rn ?_
   refine .ret ?_
   refine ⟨_, _, zz4,zz4, ?_⟩
   have : n ∈ l := c17 ▸ List.getElem_mem c9
   simp [this]
  ·try simp at c17
   refine .skip ?_
   refine .rn ?_
   refine ⟨i + 1, ⟨c9, take_succ_mem c9 hn c17⟩, zz5,(.mk [] [] zz14 zz15 rfl rfl rfl)⟩
 ·try simp at c9
  have : i = l.length := by omega
  subst this
  rw [List.take_length] at hn
  refine .exit ?_
  refine .seq ?_
  refine .rn ?_
  refine .ret ?_
  refine ⟨_, _, zz4,zz4, ?_⟩
  simp [hn]
end Go.Am.Ds
end
section
namespace Go.Am.Ds
open Go Go.Am Go.Proofs
theorem fold_all : ∀ (l d : List (Int × Int)) (x : List Int × Int),(∀ y ∈ d, x.1 ≠ [] ∧ x.2 ≤ y.2 ∧ (y.2 = x.2 → y.1 ∈ x.1)) → ∀ y ∈ d ++ l, (l.foldl stepC x).1 ≠ [] ∧ (l.foldl stepC x).2 ≤ y.2 ∧ (y.2 = (l.foldl stepC x).2 → y.1 ∈ (l.foldl stepC x).1)
 | [], d, x, h => by simpa using h
 | z :: r, d, x, h => by
  have ih := fold_all r (d ++ [z]) (stepC x z) (by
   unfold stepC
   split
   ·rename_i h1
    intro y hy
    rcases List.mem_append.1 hy with hy | hy
    ·exact h y hy
    ·rw [List.mem_singleton] at hy
     subst hy
     exact ⟨h1.1, by omega, fun h2 => by omega⟩
   ·rename_i h1
    split
    ·rename_i h2
     intro y hy
     rcases List.mem_append.1 hy with hy | hy
     ·obtain ⟨h3, h4, _⟩ := h y hy
      rcases h2 with h2 | h2
      ·exact absurd h2 h3
      ·exact ⟨by simp, by simp only; omega, fun h5 => by simp only at h5; omega⟩
     ·rw [List.mem_singleton] at hy
      subst hy
      exact ⟨by simp, Int.le_refl _, fun _ => by simp⟩
    ·rename_i h2
     have h3 : x.1 ≠ [] := fun h4 => h2 (.inl h4)
     have h4 : ¬ z.2 < x.2 := fun h4 => h2 (.inr h4)
     have h5 : ¬ x.2 < z.2 := fun h5 => h1 ⟨h3, h5⟩
     intro y hy
     rcases List.mem_append.1 hy with hy | hy
     ·obtain ⟨_, h7, h8⟩ := h y hy
      exact ⟨by simp, h7, fun h9 => List.mem_append_left _ (h8 h9)⟩
     ·rw [List.mem_singleton] at hy
      subst hy
      exact ⟨by simp, by simp only; omega, fun _ => by simp⟩)
  rw [List.append_assoc, List.singleton_append] at ih
  rw [List.foldl_cons]
  exact ih
theorem choF_all {s : List Wit} {c : Wit} {y : Int × Int} (h : y ∈ parS s c) : (choF s c).2 ≤ y.2 ∧ (y.2 = (choF s c).2 → y.1 ∈ (choF s c).1) := by
 have := fold_all (parS s c) [] ([],0) (by simp) y (by simpa using h)
 exact this.2
end Go.Am.Ds
end
section
namespace Go.Am.Ds
open Go Go.Am Go.Proofs
theorem chL_at2 {s : List Wit} (h : chE s = 0) {k : Nat} (hk : k < s.length) : ∃ h2 : k < (chL s).length, (chL s)[k] = choF s s[k] := by
 refine ⟨by rw [chL_len h]; exact hk, ?_⟩
 have aux : ∀ (l : List (List Int × Int)) (e : l = s.map (choF s)) (hl : k < l.length), l[k] = choF s s[k] := by rintro _ rfl _; simp
 exact aux _ (chL_ok h) _
end Go.Am.Ds
end
section
namespace Go.Am.Ds
open Go Go.Am Go.Proofs
theorem wit_lohi {s : List Wit} (h : checkS s = 0) {w : Wit} (hw : w ∈ s) : w.lo ≤ w.hi := by
 have := (checkS_ok h).2 w hw
 unfold witE at this
 repeat' split at this
 all_goals first | omega | cases this
theorem why_hi {c p : Wit} (h : (whyP c p).1 = 0) : p.hi < c.lo := by
 unfold whyP at h
 split at h
 ·cases h
 ·split at h
  ·cases h
  ·omega
theorem getW_zero {s : List Wit} (h : checkS s = 0) : getW s 0 = none := by
 cases hg : getW s 0 with
 | none => rfl
 | some p =>
  obtain ⟨hp, h0⟩ := getW_mem hg
  have := checkS_pos h p hp
  omega
end Go.Am.Ds
end
section
namespace Go.Am.Ds
open Go Go.Am Go.Proofs
set_option maxRecDepth 100000
set_option maxHeartbeats 4000000
set_option linter.unusedSimpArgs false
set_option linter.unusedVariables false
attribute [local simp] vrun vwanted vyielded vop vopA vputAll VHeap.back hidI hidF backL bm Nat.testBit_eq_decide_div_mod_eq veval vevals vparts vO vbuiltin vlen vappend velems vcopy vmakeSlice vbuildSlice valloc vbox vmakeMap vload vpartT vpart vstore vfieldAddr vfield vindexAddr vindex vextract vslice vsliceZ vbounds vbnd zeroO vidx vlookup vmget vmapUpdate vdelete vclear vnilq vnilp vnils vbin vsc vsc1 vscs vscl abinOp aint ashift aunOp aconvert amaxs amax2 pvcV pvc pvcs tput tget vargs VHeap.get VHeap.alloc VHeap.put VHeap.drop VHeap.empty vlook vput vdrop psplice pfill preps chunk List.range List.range.loop vresults vresult vresultV frz frzL PV.isF PV.allF PV.scal PV.allS retP subT allFT PV.one PV.ids PV.idsL dropL beq_eq ble_dec blt_dec
attribute [local simp] zW tup2
theorem wrapU64 {n : Int} (h1 : 0 ≤ n) (h2 : n < 9223372036854775808) : IntKind.u64.wrap n = n := by
 simp [IntKind.wrap, IntKind.bits, IntKind.signed]; omega
theorem p217 (n : Int) : VPure Tryz.prog 217 [.int .i64 n] fun r => r = .bool false := by
 refine .of_body Tryz.func217 rfl rfl ?_
 refine .seq ?_
 refine .rn ?_
 refine .seq ?_
 refine .rn ?_
 refine .ret ?_
 refine ⟨_, _, zz4,zz4, ?_⟩
 first | rfl | (simp [*]; done) | (simp_all; done)
theorem p198 (a b : Int) : VPure Tryz.prog 198 [.int .i64 a, .int .i64 b] fun r => r = .bool (decide (a < b)) := by
 refine .of_body Tryz.func198 rfl rfl ?_
 refine .seq ?_
 refine .rn ?_
 refine .seq ?_
 refine .regionL [0,1,2,3,4,5,6,7,8,9,10,11,12] rfl zz0 ?_
 refine .rn [0] [1,2,3,4,5,6,7,8,9,10,11,12] ?_
 refine .step rfl rfl (.pure rfl rfl rfl Tryz.call217 (by decide) (p217 _) (by first | rfl | simp [*]) ?_)
 rintro _ rfl
 refine .rn [2] [3,4,5,6,7,8,9,10,11,12] ?_
 refine .split (t := 7) rfl (fun c7 => ?_) (fun c7 => ?_)
 ·try rw [c7]
  try simp at c7
 ·try rw [c7]
  try simp at c7
  refine .rn [3,4,5,6,7,8,9,10,11,12] [] ?_
  refine .done ?_
  refine .ret ?_
  refine ⟨_, _, zz4,zz4, ?_⟩
  first | rfl | (simp [*]; done) | (simp_all; done)
theorem p161 (l : List Int) (t : Int) (p : Nat) (hp : p < l.length) (ht : l[p] = t) (hs : l.Pairwise (· < ·)) (hl : l.length < 4294967296) : VPure Tryz.prog 161 [ints l, .int .i64 t] fun r => r = .tup [.int .i64 p, .bool true] := by
 have hlt : ∀ h : Nat, ∀ hh : h < l.length, (l[h] < t ↔ h < p) := fun h hh => by
  rw [List.pairwise_iff_getElem] at hs
  rcases Nat.lt_trichotomy h p with h1 | h1 | h1
  ·have := hs h p hh hp h1; exact ⟨fun _ => h1, fun _ => by omega⟩
  ·subst h1; omega
  ·have := hs p h hp hh h1; omega
 refine .of_body Tryz.func161 rfl rfl ?_
 refine .seq ?_
 refine .rn ?_
 refine .seq ?_
 refine .rn ?_
 refine .seq ?_
 refine .rn ?_
 refine .seq ?_
 refine .block ?_
 refine .loopS (fun st : Nat × Nat => ([(0, ints l),(1, .int .i64 t),(6, .int .i64 l.length),(7, .int .i64 st.1),(8, .int .i64 st.2)], VHeap.empty)) (fun st => st.1 ≤ p ∧ p ≤ st.2 ∧ st.2 ≤ l.length) (fun st => st.2 - st.1) (0, l.length) ⟨by simp, by simp; omega, by simp⟩ (.mk [] [] zz14 zz15 rfl rfl rfl) ?_
 rintro ⟨i, j⟩ ⟨h1, h2, h3⟩
 simp only at h1 h2 h3 ⊢
 refine .seq ?_
 refine .seq ?_
 refine .rn ?_
 refine .condS rfl (fun c15 => ?_) (fun c15 => ?_)
 ·try simp at c15
  have hij : i < j := by omega
  have hw1 : IntKind.i64.wrap ((i : Int) + (j : Int)) = (i : Int) + (j : Int) := wrap64 (by omega) (by omega)
  have hw2 : IntKind.u64.wrap ((i : Int) + (j : Int)) = (i : Int) + (j : Int) := wrapU64 (by omega) (by omega)
  have hbits : IntKind.u64.bits = 64 := rfl
  obtain ⟨m, hm, hm1, hm2⟩ : ∃ m : Nat, ((i : Int) + (j : Int)).fdiv 2 = (m : Int) ∧ i ≤ m ∧ m < j := ⟨(i + j) / 2, by rw [Int.fdiv_eq_ediv_of_nonneg _ (by omega)]; omega, by omega, by omega⟩
  have hh : m < l.length := by omega
  have hw3 : IntKind.i64.wrap (m : Int) = (m : Int) := wrap64 (by omega) (by omega)
  have hw4 : IntKind.i64.wrap ((m : Int) + 1) = (m : Int) + 1 := wrap64 (by omega) (by omega)
  have hcmp := hlt m hh
  refine .skip ?_
  refine .block ?_
  refine .seq ?_
  refine .rn ?_
  refine .seq ?_
  refine .regionL [0,1,2,3,4,5] rfl zz0 ?_
  refine .rn [0,1,2,3,4] [5] ?_
  refine .step rfl rfl (.pure rfl rfl rfl Tryz.call198 (by decide) (p198 _ _) (by first | rfl | simp [*]) ?_)
  rintro _ rfl
  refine .done ?_
  refine .condS rfl (fun c27 => ?_) (fun c27 => ?_)
  ·try simp at c27
   refine .rn ?_
   refine ⟨(m + 1, j), ⟨by simp only; omega, h2, h3⟩, by simp only; omega, (.mk [] [] zz14 zz15 rfl rfl rfl)⟩
  ·try simp at c27
   refine .rn ?_
   refine ⟨(i, m), ⟨h1, by simp only; omega, by simp only; omega⟩, by simp only; omega, (.mk [] [] zz14 zz15 rfl rfl rfl)⟩
 ·try simp at c15
  have hip : i = p := by omega
  subst hip
  refine .exit ?_
  refine .seq ?_
  refine .regionL [0,1,2,3,4,5,6,7,8,9,10,11,12,13,14,15,16,17,18,19,20,21,22,23,24] rfl zz0 ?_
  refine .rn [0,1,2,3,4] [5,6,7,8,9,10,11,12,13,14,15,16,17,18,19,20,21,22,23,24] ?_
  refine .split (t := 35) rfl (fun c35 => ?_) (fun c35 => ?_)
  ·try rw [c35]
   try simp at c35
   refine .rn [5,6,7,8,9,10,11] [12,13,14,15,16,17,18,19,20,21,22,23,24] ?_
   refine .split (t := 42) rfl (fun c42 => ?_) (fun c42 => ?_)
   ·try rw [c42]
    try simp at c42
    refine .rn [12,13,14,15,16,17,18,19,20,21,22,23,24] [] ?_
    refine .done ?_
    refine .ret ?_
    refine ⟨_, _, zz4,zz4, ?_⟩
    first | rfl | (simp [*]; done) | (simp_all; done)
   ·try rw [c42]
    try simp at c42
  ·try rw [c35]
   try simp at c35
end Go.Am.Ds
end
section
namespace Go.Am.Ds
open Go Go.Am Go.Proofs
set_option maxRecDepth 100000
set_option maxHeartbeats 4000000
set_option linter.unusedSimpArgs false
set_option linter.unusedVariables false
attribute [local simp] vrun vwanted vyielded vop vopA vputAll VHeap.back hidI hidF backL bm Nat.testBit_eq_decide_div_mod_eq veval vevals vparts vO vbuiltin vlen vappend velems vcopy vmakeSlice vbuildSlice valloc vbox vmakeMap vload vpartT vpart vstore vfieldAddr vfield vindexAddr vindex vextract vslice vsliceZ vbounds vbnd zeroO vidx vlookup vmget vmapUpdate vdelete vclear vnilq vnilp vnils vbin vsc vsc1 vscs vscl abinOp aint ashift aunOp aconvert amaxs amax2 pvcV pvc pvcs tput tget vargs VHeap.get VHeap.alloc VHeap.put VHeap.drop VHeap.empty vlook vput vdrop psplice pfill preps chunk List.range List.range.loop vresults vresult vresultV frz frzL PV.isF PV.allF PV.scal PV.allS retP subT allFT PV.one PV.ids PV.idsL dropL beq_eq ble_dec blt_dec
attribute [local simp] zW tup2
def kvM (l : List (Int × Int)) : List (Int × PV) := l.map fun x => (x.1, .int .u32 x.2)
def getM (l : List (Int × Int)) (n : Int) : Option Int := (l.find? fun x => decide (x.1 = n)).map (·.2)
def setM (l : List (Int × Int)) (n v : Int) : List (Int × Int) := match getM l n with
 | some _ => l.map fun x => if x.1 = n then (x.1, v) else x
 | none => l ++ [(n, v)]
theorem pfind_kvM (n : Int) : ∀ l : List (Int × Int), pfind .i64 n (kvs (kvM l)) = some ((getM l n).map (PV.int .u32))
 | [] => rfl
 | x :: r => by
  have ih := pfind_kvM n r
  unfold getM kvM kvs at ih ⊢
  simp only [List.map_cons, pfind, decide_true, cond_true]
  rw [ih, List.find?_cons]
  cases h : decide (x.1 = n) <;> simp
theorem map_qput_kvM (n v : Int) : ∀ l : List (Int × Int),(kvs (kvM l)).map (qput n (.int .u32 v)) = kvs (kvM (l.map fun x => if x.1 = n then (x.1, v) else x))
 | [] => rfl
 | x :: r => by
  have ih := map_qput_kvM n v r
  unfold kvM kvs at ih ⊢
  simp only [List.map_cons, qput] at ih ⊢
  rw [ih]
  by_cases h : x.1 = n <;> simp [h]
theorem pmset_kvM (n v : Int) (l : List (Int × Int)) : pmset .i64 n (.int .u32 v) (kvs (kvM l)) = some (kvs (kvM (setM l n v))) := by
 unfold pmset setM
 rw [pfind_kvM]
 cases h : getM l n with
 | none => simp [kvs, kvM]
 | some y => simp [map_qput_kvM]
theorem getM_none {l : List (Int × Int)} {n : Int} (h : getM l n = none) : n ∉ l.map (·.1) := by
 unfold getM at h
 rw [Option.map_eq_none_iff, List.find?_eq_none] at h
 intro h1
 obtain ⟨x, hx, rfl⟩ := List.mem_map.1 h1
 exact h x hx (by simp)
theorem setM_keys (l : List (Int × Int)) (n v : Int) : (setM l n v).map (·.1) = if (getM l n).isSome = true then l.map (·.1) else l.map (·.1) ++ [n] := by
 unfold setM
 cases h : getM l n with
 | none => simp
 | some y =>
  simp only [Option.isSome_some, if_true, List.map_map]
  apply List.map_congr_left
  intro x _
  simp only [Function.comp]
  split <;> rfl
theorem setM_nodup {l : List (Int × Int)} (h : (l.map (·.1)).Nodup) (n v : Int) : ((setM l n v).map (·.1)).Nodup := by
 rw [setM_keys]
 cases h1 : getM l n with
 | some y => simpa using h
 | none =>
  simp only [Option.isSome_none, Bool.false_eq_true, if_false]
  exact List.nodup_append.2 ⟨h, by simp, fun a ha b hb hab => by rw [List.mem_singleton] at hb; subst hab; subst hb; exact getM_none h1 ha⟩
theorem getM_mem {l : List (Int × Int)} {n : Int} : (getM l n).isSome = true ↔ n ∈ l.map (·.1) := by
 unfold getM
 rw [Option.isSome_map, List.find?_isSome]
 simp
theorem setM_mem {l : List (Int × Int)} {n v m : Int} : m ∈ (setM l n v).map (·.1) ↔ m ∈ l.map (·.1) ∨ m = n := by
 rw [setM_keys]
 split
 ·rename_i h
  rw [getM_mem] at h
  exact ⟨.inl, fun h2 => h2.elim id fun h3 => h3 ▸ h⟩
 ·simp
def posI (s : List Wit) (id : Int) : Nat := (idsS s).idxOf id
def orV (a b : Int) : Int := IntKind.u32.wrap ((BitVec.ofInt 32 a ||| BitVec.ofInt 32 b).toNat : Int)
def bitV (k : Nat) : Int := IntKind.u32.wrap (2 ^ min k 32)
def orU (a : Int) (k : Nat) : Int := orV a (bitV k)
@[local simp ↓ high] theorem aint_or32 (a b : Int) : aint .or .u32 a b = some (.int .u32 (orV a b)) := rfl
@[local simp ↓ high] theorem ashl32 (k : Nat) : ashift .shl .u32 1 (k : Int) = some (.int .u32 (bitV k)) := by
 unfold ashift bitV
 have h : ¬ ((k : Int) < 0) := by omega
 rw [decide_eq_false h, cond_false, Int.toNat_natCast, Int.one_mul]; rfl
def putM (k : Nat) (es : List (Int × Int)) (n : Int) : List (Int × Int) := setM es n (orU ((getM es n).getD 0) k)
def heldF (s : List Wit) (es : List (Int × Int)) (w : Wit) : List (Int × Int) := w.slips.foldl (putM (posI s w.id)) es
def heldM (s : List Wit) : List (Int × Int) := s.foldl (heldF s) []
theorem pos_get {s : List Wit} {w : Wit} (hw : w ∈ s) : ∃ h : posI s w.id < (idsS s).length, (idsS s)[posI s w.id] = w.id := by
 have h1 : posI s w.id < (idsS s).length := List.idxOf_lt_length_iff.2 (idsS_mem.2 ⟨w, hw, rfl⟩)
 exact ⟨h1, List.getElem_idxOf h1⟩
theorem p94 (s : List Wit) (h : checkS s = 0) : VPure Tryz.prog 94 [encS s] fun r => r = .vmap (kvs (kvM (heldM s))) := by
 have hl24 := (checkS_ok h).1
 have hidl := idsS_len s
 have hso := idsS_sorted (checkS_nodup h)
 refine .of_body Tryz.func94 rfl rfl ?_
 refine .seq ?_
 refine .rn ?_
 refine .seq ?_
 refine .regionL [0,1,2,3,4] rfl zz0 ?_
 refine .rn [0,1] [2,3,4] ?_
 refine .step rfl rfl (.pure rfl rfl rfl Tryz.call99 (by decide) (p99' s (by omega)) (by first | rfl | simp [*]) ?_)
 rintro _ rfl
 refine .rn [3,4] [] ?_
 refine .done ?_
 refine .seq ?_
 refine .seq ?_
 refine .rn ?_
 refine .block ?_
 refine .loopS (fun st : Nat × List (Int × Int) => ([(3, .mapv 1),(4, ints (idsS s)),(15, .vec (s.map encW)),(16, .int .i64 s.length),(17, .int .i64 st.1)], ⟨2,[(1, .map (kvs (kvM st.2))),(0, .box [.vec (s.map encW)])]⟩)) (fun st => st.1 ≤ s.length ∧ (s.drop st.1).foldl (heldF s) st.2 = heldM s) (fun st => s.length - st.1) (0,[]) ⟨by simp, by simp [heldM]⟩ (.mk [] [] zz14 zz15 rfl rfl rfl) ?_
 rintro ⟨i, es⟩ ⟨hi, hr⟩
 simp only at hi hr ⊢
 refine .seq ?_
 refine .rn ?_
 refine .seq ?_
 refine .condS rfl (fun c18 => ?_) (fun c18 => ?_)
 ·try simp at c18
  have hw2 : IntKind.i64.wrap ((i : Int) + 1) = (i : Int) + 1 := wrap64 (by omega) (by omega)
  have hE : encW s[i] = .agg [.int .i64 s[i].id, .int .i64 s[i].known, ints s[i].slips, ints s[i].mended, ints s[i].models, .int .i64 s[i].lo, .int .i64 s[i].hi] := rfl
  rw [foldl_drop (heldF s) s i c18] at hr
  obtain ⟨hp1, hp2⟩ := pos_get (List.getElem_mem c18)
  have hsl := ((checkS_lens h) s[i] (List.getElem_mem c18)).1
  obtain ⟨p, hp⟩ : ∃ p, posI s s[i].id = p := ⟨_, rfl⟩
  have hp24 : p < 24 := by omega
  refine .skip ?_
  refine .seq ?_
  refine .block ?_
  refine .seq ?_
  refine .rn ?_
  refine .seq ?_
  refine .regionL [0,1,2,3,4,5,6,7,8] rfl zz0 ?_
  refine .rn [0,1,2] [3,4,5,6,7,8] ?_
  refine .step rfl rfl (.pure rfl rfl rfl Tryz.call161 (by decide) ((by have h := p161 (idsS s) s[i].id (posI s s[i].id) hp1 hp2 hso (by omega); rw [hp] at h; exact h)) (by first | rfl | simp [*]) ?_)
  rintro _ rfl
  refine .rn [4,5,6,7,8] [] ?_
  refine .done ?_
  refine .seq ?_
  refine .rn ?_
  refine .block ?_
  refine .loopS (fun st : Nat × List (Int × Int) => ([(3, .mapv 1),(4, ints (idsS s)),(7, .int .i64 p),(15, .vec (s.map encW)),(16, .int .i64 s.length),(17, .int .i64 i),(29, ints s[i].slips),(30, .int .i64 s[i].slips.length),(31, .int .i64 st.1)], ⟨2,[(1, .map (kvs (kvM st.2))),(0, .box [.vec (s.map encW)])]⟩)) (fun st => st.1 ≤ s[i].slips.length ∧ (s[i].slips.drop st.1).foldl (putM p) st.2 = s[i].slips.foldl (putM p) es) (fun st => s[i].slips.length - st.1) (0, es) ⟨by simp, by simp⟩ (.mk [] [] zz14 zz15 rfl rfl rfl) ?_
  rintro ⟨j, es2⟩ ⟨hj, hs⟩
  simp only at hj hs ⊢
  refine .seq ?_
  refine .rn ?_
  refine .seq ?_
  refine .condS rfl (fun c32 => ?_) (fun c32 => ?_)
  ·try simp at c32
   have hw3 : IntKind.i64.wrap ((j : Int) + 1) = (j : Int) + 1 := wrap64 (by omega) (by omega)
   rw [foldl_drop (putM p) s[i].slips j c32] at hs
   have hpf := pfind_kvM s[i].slips[j] es2
   have hpm := fun v => pmset_kvM s[i].slips[j] v es2
   rcases hgm : getM es2 s[i].slips[j] with _ | v0 <;> rw [hgm] at hpf <;> simp only [Option.map] at hpf
   ·skip
    refine .skip ?_
    refine .seq ?_
    refine .block ?_
    refine .seq ?_
    refine .rn ?_
    refine .drawn (ms := [0,0,3,0,8,31,63]) (W := [6]) (items := [.op 0, .op 1, .op 2, .op 3, .op 4, .op 5, .op 6]) rfl zz0 zz0 zz0 ?_
    refine .rx ?_
    refine .rx ?_
    refine .rx ?_
    refine .rx ?_
    refine .rx ?_
    refine .rx ?_
    refine .wr rfl rfl (by decide) (.vop zz1 (by decide) ?_)
    refine .done ?_
    refine .rn ?_
    have hpu : putM p es2 s[i].slips[j] = setM es2 s[i].slips[j] (orV 0 (bitV p)) := by unfold putM; rw [hgm]; rfl
    refine ⟨(j + 1, putM p es2 s[i].slips[j]), ⟨zz5, hs⟩, zz5,(.mk [] [] zz14 zz15 rfl rfl rfl)⟩
   ·skip
    refine .skip ?_
    refine .seq ?_
    refine .block ?_
    refine .seq ?_
    refine .rn ?_
    refine .drawn (ms := [0,0,3,0,8,31,63]) (W := [6]) (items := [.op 0, .op 1, .op 2, .op 3, .op 4, .op 5, .op 6]) rfl zz0 zz0 zz0 ?_
    refine .rx ?_
    refine .rx ?_
    refine .rx ?_
    refine .rx ?_
    refine .rx ?_
    refine .rx ?_
    refine .wr rfl rfl (by decide) (.vop zz1 (by decide) ?_)
    refine .done ?_
    refine .rn ?_
    have hpu : putM p es2 s[i].slips[j] = setM es2 s[i].slips[j] (orV v0 (bitV p)) := by unfold putM; rw [hgm]; rfl
    refine ⟨(j + 1, putM p es2 s[i].slips[j]), ⟨zz5, hs⟩, zz5,(.mk [] [] zz14 zz15 rfl rfl rfl)⟩
  ·try simp at c32
   have hj2 : j = s[i].slips.length := by omega
   refine .exit ?_
   refine .rn ?_
   refine ⟨(i + 1, es2), ⟨zz5, ?_⟩, zz5,(.mk [] [] zz14 zz15 rfl rfl rfl)⟩
   rw [← hr, heldF, hp, ← hs, hj2, List.drop_length]; rfl
 ·try simp at c18
  have hi2 : i = s.length := by omega
  refine .exit ?_
  refine .seq ?_
  refine .rn ?_
  refine .ret ?_
  refine ⟨_, _, zz4,zz4, ?_⟩
  rw [← hr, hi2, List.drop_length]; rfl
end Go.Am.Ds
end
section
namespace Go.Am.Ds
open Go Go.Am Go.Proofs
theorem nodup_sub : ∀ {l m : List Int}, l.Nodup → (∀ x ∈ l, x ∈ m) → l.length ≤ m.length
 | [], _, _, _ => Nat.zero_le _
 | a :: r, m, hn, h => by
  rw [List.nodup_cons] at hn
  have ha := h a List.mem_cons_self
  have ih := nodup_sub (l := r) (m := m.erase a) hn.2 fun x hx => (List.mem_erase_of_ne (by rintro rfl; exact hn.1 hx)).2 (h x (List.mem_cons_of_mem _ hx))
  rw [List.length_erase_of_mem ha] at ih
  have := List.length_pos_iff.2 (List.ne_nil_of_mem ha)
  rw [List.length_cons]; omega
theorem foldM_mem (k : Nat) : ∀ (l : List Int) (es : List (Int × Int)) (n : Int), n ∈ (l.foldl (putM k) es).map (·.1) ↔ n ∈ es.map (·.1) ∨ n ∈ l
 | [], es, n => by simp
 | a :: r, es, n => by
  rw [List.foldl_cons, foldM_mem k r, putM, setM_mem, List.mem_cons]
  constructor
  ·rintro ((h | h) | h)
   ·exact .inl h
   ·exact .inr (.inl h)
   ·exact .inr (.inr h)
  ·rintro (h | h | h)
   ·exact .inl (.inl h)
   ·exact .inl (.inr h)
   ·exact .inr h
theorem foldM_nodup (k : Nat) : ∀ (l : List Int) (es : List (Int × Int)),(es.map (·.1)).Nodup → ((l.foldl (putM k) es).map (·.1)).Nodup
 | [], _, h => h
 | a :: r, es, h => by rw [List.foldl_cons]; exact foldM_nodup k r _ (setM_nodup h _ _)
theorem heldM_mem {s : List Wit} {n : Int} : n ∈ (heldM s).map (·.1) ↔ ∃ w ∈ s, n ∈ w.slips := by
 have : ∀ (l : List Wit) (es : List (Int × Int)), n ∈ (l.foldl (heldF s) es).map (·.1) ↔ n ∈ es.map (·.1) ∨ ∃ w ∈ l, n ∈ w.slips := by
  intro l
  induction l with
  | nil => intro es; simp
  | cons a r ih =>
   intro es
   rw [List.foldl_cons, ih, heldF, foldM_mem]
   constructor
   ·rintro ((h | h) | ⟨w, h1, h2⟩)
    ·exact .inl h
    ·exact .inr ⟨a, List.mem_cons_self, h⟩
    ·exact .inr ⟨w, List.mem_cons_of_mem _ h1, h2⟩
   ·rintro (h | ⟨w, h1, h2⟩)
    ·exact .inl (.inl h)
    ·rcases List.mem_cons.1 h1 with rfl | h1
     ·exact .inl (.inr h2)
     ·exact .inr ⟨w, h1, h2⟩
 unfold heldM
 rw [this]; simp
theorem heldM_nodup (s : List Wit) : ((heldM s).map (·.1)).Nodup := by
 have : ∀ (l : List Wit) (es : List (Int × Int)),(es.map (·.1)).Nodup → ((l.foldl (heldF s) es).map (·.1)).Nodup := by
  intro l
  induction l with
  | nil => intro es h; exact h
  | cons a r ih => intro es h; exact ih _ (foldM_nodup _ _ _ h)
 exact this s [] (by simp)
theorem heldM_len {s : List Wit} (h : checkS s = 0) : (heldM s).length ≤ 24 * 30 := by
 obtain ⟨h1, h2⟩ := checkS_ok h
 have e1 : ((heldM s).map (·.1)).length ≤ (s.flatMap Wit.slips).length := nodup_sub (heldM_nodup s) fun x hx => by
  obtain ⟨w, hw, hx⟩ := heldM_mem.1 hx
  exact List.mem_flatMap.2 ⟨w, hw, hx⟩
 have e2 : ∀ l : List Wit, (∀ w ∈ l, w.slips.length ≤ 30) → (l.flatMap Wit.slips).length ≤ l.length * 30 := by
  intro l
  induction l with
  | nil => intro _; simp
  | cons a r ih =>
   intro h3
   have := ih fun w hw => h3 w (List.mem_cons_of_mem _ hw)
   have := h3 a List.mem_cons_self
   rw [List.flatMap_cons, List.length_append, List.length_cons]; omega
 have e3 := e2 s fun w hw => (witE_len (h2 w hw)).1
 have e4 : s.length * 30 ≤ 24 * 30 := Nat.mul_le_mul_right 30 h1
 rw [List.length_map] at e1; omega
def slipsL (s : List Wit) : List Int := ((heldM s).map (·.1)).mergeSort fun x y => decide (x ≤ y)
def slipsR (s : List Wit) : List Int := if checkS s = 0 then slipsL s else []
theorem slipsL_mem {s : List Wit} {n : Int} : n ∈ slipsL s ↔ ∃ w ∈ s, n ∈ w.slips := by
 unfold slipsL; rw [List.mem_mergeSort, heldM_mem]
theorem kvM_keys (l : List (Int × Int)) : (kvM l).map (·.1) = l.map (·.1) := by unfold kvM; rw [List.map_map]; rfl
def oldS (s : List Wit) (id : Int) : List Int := match getW s id with
 | some p => p.slips
 | none => []
def oldF (s : List Wit) (id : Int) (k : Nat) : List Int := (s.take k).foldl (fun o w => if w.id = id then w.slips else o) []
theorem oldF_succ (s : List Wit) (id : Int) (k : Nat) (h : k < s.length) : oldF s id (k + 1) = if s[k].id = id then s[k].slips else oldF s id k := by
 unfold oldF; rw [List.take_succ_eq_append_getElem h, List.foldl_append]; rfl
theorem oldF_all {s : List Wit} (h : (s.map Wit.id).Nodup) (id : Int) : oldF s id s.length = oldS s id := by
 have h1 : ∀ (l : List Wit) (o : List Int),(∀ w ∈ l, w.id ≠ id) → l.foldl (fun o w => if w.id = id then w.slips else o) o = o := by
  intro l
  induction l with
  | nil => intro o _; rfl
  | cons a r ih =>
   intro o h2
   rw [List.foldl_cons, if_neg (h2 a List.mem_cons_self)]
   exact ih o fun w hw => h2 w (List.mem_cons_of_mem _ hw)
 have : ∀ (l : List Wit),(l.map Wit.id).Nodup → ∀ o, l.foldl (fun o w => if w.id = id then w.slips else o) o = match getW l id with | some p => p.slips | none => o := by
  intro l
  induction l with
  | nil => intro _ o; rfl
  | cons a r ih =>
   intro hn o
   rw [List.map_cons, List.nodup_cons] at hn
   rw [List.foldl_cons]
   unfold getW
   rw [List.find?_cons]
   by_cases h2 : a.id = id
   ·rw [if_pos h2, decide_eq_true h2]
    exact h1 r _ fun w hw h3 => hn.1 (by rw [h2, ← h3]; exact List.mem_map_of_mem hw)
   ·rw [if_neg h2, decide_eq_false h2]
    exact ih hn.2 o
 unfold oldF
 rw [List.take_length, this s h]
 rfl
def freL (s : List Wit) (l : List Int) (id : Int) : List Int := l.filter fun n => !decide (n ∈ oldS s id)
theorem freL_fr {s : List Wit} (h : checkS s = 0) (c : Wit) {b : Int} (hb : b = 0 ∨ ∃ p, getW s b = some p) : freL s c.slips b = frS s c b := by
 unfold freL frS oldS
 rcases hb with rfl | ⟨p, hp⟩
 ·rw [if_pos rfl, getW_zero h]
  exact List.filter_eq_self.2 fun x _ => by simp
 ·have h0 : b ≠ 0 := fun h0 => by rw [h0, getW_zero h] at hp; cases hp
  rw [if_neg h0, hp, atI, hp, ariS_eq]; rfl
theorem min_hi : ∀ {l : List Wit}, l ≠ [] → ∃ w ∈ l, ∀ v ∈ l, w.hi ≤ v.hi
 | [a], _ => ⟨a, List.mem_cons_self, fun v hv => by rw [List.mem_singleton] at hv; subst hv; exact Int.le_refl _⟩
 | a :: b :: r, _ => by
  obtain ⟨w, hw, h1⟩ := min_hi (l := b :: r) (by simp)
  by_cases h2 : a.hi ≤ w.hi
  ·refine ⟨a, List.mem_cons_self, fun v hv => ?_⟩
   rcases List.mem_cons.1 hv with rfl | hv
   ·exact Int.le_refl _
   ·have := h1 v hv; omega
  ·refine ⟨w, List.mem_cons_of_mem _ hw, fun v hv => ?_⟩
   rcases List.mem_cons.1 hv with rfl | hv
   ·omega
   ·exact h1 v hv
theorem arises {s : List Wit} (h : checkS s = 0) {n : Int} (hn : ∃ w ∈ s, n ∈ w.slips) : ∃ w ∈ s, n ∈ w.slips ∧ ∀ y ∈ parS s w, n ∈ frS s w y.1 := by
 obtain ⟨w0, hw0, hx0⟩ := hn
 have hne : (s.filter fun w => decide (n ∈ w.slips)) ≠ [] := List.ne_nil_of_mem (List.mem_filter.2 ⟨hw0, by simpa using hx0⟩)
 obtain ⟨w, hw, hmin⟩ := min_hi hne
 obtain ⟨hws, hwx⟩ := List.mem_filter.1 hw
 rw [decide_eq_true_eq] at hwx
 refine ⟨w, hws, hwx, fun y hy => ?_⟩
 rcases parS_mem.1 hy with ⟨rfl, _⟩ | ⟨p, _, h2, h3, _⟩
 ·unfold frS; rw [if_pos rfl]; exact hwx
 ·have h0 : y.1 ≠ 0 := fun h0 => by rw [h0, getW_zero h] at h2; cases h2
  unfold frS
  rw [if_neg h0, atI, h2, ariS_eq]
  refine List.mem_filter.2 ⟨hwx, ?_⟩
  simp only [Option.getD_some, Bool.not_eq_true', decide_eq_false_iff_not]
  intro hp
  have h4 := hmin p (List.mem_filter.2 ⟨(getW_mem h2).1, by simpa using hp⟩)
  have h5 := why_hi h3
  have h6 := wit_lohi h hws
  omega
theorem sum_len {α : Type} (f : α → List Int) : ∀ l : List α, ((l.flatMap f).length : Int) = (l.map fun x => ((f x).length : Int)).sum
 | [] => rfl
 | a :: r => by rw [List.flatMap_cons, List.length_append, List.map_cons, List.sum_cons, ← sum_len f r]; push_cast; rfl
theorem least_slips {s : List Wit} (h : chE s = 0) : ((slipsL s).length : Int) ≤ bestS s (chL s).length := by
 obtain ⟨h0, hne⟩ := chE_ok h
 have e1 : (slipsL s).length ≤ (s.flatMap fun w => frS s w ((choF s w).1.headD 0)).length := by
  refine nodup_sub ?_ fun x hx => ?_
  ·exact (List.mergeSort_perm _ _).nodup_iff.2 (heldM_nodup s)
  ·obtain ⟨w, hw, _, h2⟩ := arises h0 (slipsL_mem.1 hx)
   exact List.mem_flatMap.2 ⟨w, hw, h2 _ (choF_mem (head_mem (hne w hw)))⟩
 have e2 := sum_len (fun w => frS s w ((choF s w).1.headD 0)) s
 have e3 : (s.map fun w => ((frS s w ((choF s w).1.headD 0)).length : Int)) = s.map fun w => (choF s w).2 := by
  apply List.map_congr_left
  intro w hw
  have := parS_fr h0 (choF_mem (head_mem (hne w hw)))
  simp only at this
  exact this.symm
 have e4 : bestS s (chL s).length = (s.map fun w => (choF s w).2).sum := by
  unfold bestS
  rw [List.take_length, chL_ok h, List.map_map]; rfl
 rw [e3, ← e4] at e2
 omega
def ariP (s : List Wit) (l : List Int) (k : Nat) : Int := (((s.zip l).take k).map fun x => ((freL s x.1.slips x.2).length : Int)).sum
theorem ariP_succ (s : List Wit) (l : List Int) (k : Nat) (h : k < s.length) (h2 : k < l.length) : ariP s l (k + 1) = ariP s l k + ((freL s s[k].slips l[k]).length : Int) := by
 unfold ariP
 rw [List.take_succ_eq_append_getElem (by simp; omega)]
 simp
theorem can_model {s : List Wit} (h : checkS s = 0) {c : Wit} (hc : c ∈ s) {b : Int} (hcan : canR (kinR s c.id b) = true) (he : (whyR (kinR s c.id b)).2.2 = 0) : ∃ d, (b, d) ∈ parS s c ∧ (b = 0 ∨ ∃ p, getW s b = some p) := by
 unfold kinR at hcan he
 rw [if_pos h, getW_own (checkS_nodup h) hc] at hcan he
 simp only at hcan he
 by_cases hb0 : b = 0
 ·subst hb0
  rw [if_pos rfl] at hcan
  simp [canR, whyR] at hcan
  exact ⟨_, parS_mem.2 (.inl ⟨rfl, hcan⟩), .inl rfl⟩
 ·rw [if_neg hb0] at hcan he
  cases hp : getW s b with
  | none => rw [hp] at he; cases he
  | some p =>
   rw [hp] at hcan
   simp [canR, whyR] at hcan
   obtain ⟨hps, hpi⟩ := getW_mem hp
   exact ⟨_, parS_mem.2 (.inr ⟨p, idsS_mem.2 ⟨p, hps, hpi⟩, hp, hcan, rfl⟩), .inr ⟨p, rfl⟩⟩
theorem step_least {s : List Wit} (h : chE s = 0) {k : Nat} (hk : k < s.length) {l : List Int} (hl : k < l.length) (hcan : canR (kinR s s[k].id l[k]) = true) (he : (whyR (kinR s s[k].id l[k])).2.2 = 0) (ih : bestS s k ≤ ariP s l k) : bestS s (k + 1) ≤ ariP s l (k + 1) := by
 obtain ⟨h0, hne⟩ := chE_ok h
 obtain ⟨h2, h3⟩ := chL_at2 h hk
 rw [bestS_succ s k h2, h3, ariP_succ s l k hk hl]
 obtain ⟨d, h4, h5⟩ := can_model h0 (List.getElem_mem hk) hcan he
 have h6 := (choF_all h4).1
 have h7 := parS_fr h0 h4
 simp only at h6 h7
 rw [freL_fr h0 _ h5]
 omega
theorem cb_arise {s : List Wit} {l : List Int} {m : Int} (h : cbR s l m = 0) : chE s = 0 ∧ m = bestS s (chL s).length := by
 unfold cbR at h
 split at h
 ·split at h
  ·rename_i h1; exact ⟨h1.2.1, by rw [← h1.2.2.1]; exact h1.2.2.2⟩
  ·cases h
 ·rename_i h1; exact absurd h h1
end Go.Am.Ds
end
section
namespace Go.Am.Ds
open Go Go.Am Go.Proofs
set_option maxRecDepth 100000
set_option maxHeartbeats 4000000
set_option linter.unusedSimpArgs false
set_option linter.unusedVariables false
attribute [local simp] vrun vwanted vyielded vop vopA vputAll VHeap.back hidI hidF backL bm Nat.testBit_eq_decide_div_mod_eq veval vevals vparts vO vbuiltin vlen vappend velems vcopy vmakeSlice vbuildSlice valloc vbox vmakeMap vload vpartT vpart vstore vfieldAddr vfield vindexAddr vindex vextract vslice vsliceZ vbounds vbnd zeroO vidx vlookup vmget vmapUpdate vdelete vclear vnilq vnilp vnils vbin vsc vsc1 vscs vscl abinOp aint ashift aunOp aconvert amaxs amax2 pvcV pvc pvcs tput tget vargs VHeap.get VHeap.alloc VHeap.put VHeap.drop VHeap.empty vlook vput vdrop psplice pfill preps chunk List.range List.range.loop vresults vresult vresultV frz frzL PV.isF PV.allF PV.scal PV.allS retP subT allFT PV.one PV.ids PV.idsL dropL beq_eq ble_dec blt_dec
attribute [local simp] zW tup2
theorem p47a (s : List Wit) (hl : s.length < 4294967296) : VPure Tryz.prog 47 [encS s] fun r => Soft r (.tup [ints (slipsR s), .int .i64 (checkS s)]) := by
 refine .of_body Tryz.func47 rfl rfl ?_
 refine .seq ?_
 refine .rn ?_
 refine .seq ?_
 refine .seq ?_
 refine .regionL [0,1,2] rfl zz0 ?_
 refine .rn [0] [1,2] ?_
 refine .step rfl rfl (.pure rfl rfl rfl Tryz.call35 (by decide) (p35 s hl) (by first | rfl | simp [*]) ?_)
 rintro _ rfl
 refine .rn [2] [] ?_
 refine .done ?_
 refine .seq ?_
 refine .rn ?_
 refine .condS rfl (fun c8 => ?_) (fun c8 => ?_)
 ·try simp at c8
  refine .seq ?_
  refine .rn ?_
  refine .ret ?_
  refine ⟨_, _, zz4,zz4, ?_⟩
  rw [show slipsR s = [] by unfold slipsR; rw [if_neg c8]]
  exact soft_tup (AltL.cons .sl0v (AltL.cons (.same _ rfl) AltL.nil))
 ·try simp at c8
  have hlen := heldM_len c8
  have h125 : VPure Tryz.prog 125 [.vmap (kvs (kvM (heldM s)))] fun r => r = ints (slipsL s) := by
   have h := p125 (kvM (heldM s)) (by rw [kvM_keys]; exact heldM_nodup s) (by simp only [kvM, List.length_map]; omega)
   rw [kvM_keys] at h; exact h
  refine .skip ?_
  refine .seq ?_
  refine .regionL [0,1,2,3,4] rfl zz0 ?_
  refine .rn [0] [1,2,3,4] ?_
  refine .step rfl rfl (.pure rfl rfl rfl Tryz.call94 (by decide) (p94 s c8) (by first | rfl | simp [*]) ?_)
  rintro _ rfl
  refine .step rfl rfl (.pure rfl rfl rfl Tryz.call125 (by decide) (h125) (by first | rfl | simp [*]) ?_)
  rintro _ rfl
  refine .rn [3,4] [] ?_
  refine .done ?_
  refine .ret ?_
  refine ⟨_, _, zz4,zz4, ?_⟩
  rw [show slipsR s = slipsL s by unfold slipsR; rw [if_pos c8], c8]
  exact soft_rfl rfl
theorem p47 (s : List Wit) (hl : s.length < 4294967296) : VPure Tryz.prog 47 [encS s] fun r => r = .tup [ints (slipsR s), .int .i64 (checkS s)] := VPure.soft (p47a s hl) rfl
theorem p68 (s : List Wit) (l : List Int) (id : Int) (h : checkS s = 0) (hlL : l.length < 4294967296) : VPure Tryz.prog 68 [encS s, ints l, .int .i64 id] fun r => r = ints (freL s l id) := by
 have hl24 := (checkS_ok h).1
 have hold : (oldS s id).length < 4611686018427387904 := by
  unfold oldS
  cases hg : getW s id with
  | none => simp
  | some p => have := (checkS_lens h p (getW_mem hg).1).1; simp only; omega
 refine .of_body Tryz.func68 rfl rfl ?_
 refine .seq ?_
 refine .rn ?_
 refine .seq ?_
 refine .rn ?_
 refine .seq ?_
 refine .seq ?_
 refine .rn ?_
 refine .block ?_
 refine .loopS (fun k : Nat => ([(1, ints l),(2, .int .i64 id),(3, .ptr 0 0),(7, ints (oldF s id k)),(8, .int .i64 k)], ⟨1,[(0, .box [.vec (s.map encW)])]⟩)) (fun k => k ≤ s.length) (fun k => s.length - k) 0 (by simp) (.mk [] [] zz14 zz15 rfl rfl rfl) ?_
 rintro k hk
 simp only at hk ⊢
 refine .seq ?_
 refine .seq ?_
 refine .rn ?_
 refine .condS rfl (fun c15 => ?_) (fun c15 => ?_)
 ·try simp at c15
  have hw2 : IntKind.i64.wrap ((k : Int) + 1) = (k : Int) + 1 := wrap64 (by omega) (by omega)
  have hE : encW s[k] = .agg [.int .i64 s[k].id, .int .i64 s[k].known, ints s[k].slips, ints s[k].mended, ints s[k].models, .int .i64 s[k].lo, .int .i64 s[k].hi] := rfl
  have hS := oldF_succ s id k c15
  refine .skip ?_
  refine .seq ?_
  refine .block ?_
  refine .seq ?_
  refine .rn ?_
  refine .condS rfl (fun c25 => ?_) (fun c25 => ?_)
  ·try simp at c25
   rw [if_pos c25] at hS
   refine .rn ?_
   refine .rn ?_
   refine ⟨k + 1, c15,zz5,(.mk [] [] zz14 zz15 rfl rfl rfl)⟩
  ·try simp at c25
   rw [if_neg c25] at hS
   refine .skip ?_
   refine .rn ?_
   refine ⟨k + 1, c15,zz5,(.mk [] [] zz14 zz15 rfl rfl rfl)⟩
 ·try simp at c15
  have hk2 : k = s.length := by omega
  subst hk2
  have hall := oldF_all (checkS_nodup h) id
  refine .exit ?_
  refine .seq ?_
  refine .rn ?_
  refine .seq ?_
  refine .seq ?_
  refine .rn ?_
  refine .block ?_
  refine .loopS (fun i : Nat => ([(1, ints l),(7, ints (oldS s id)),(9, .grow 1 ((l.take i).filter fun n => !decide (n ∈ oldS s id)).length true),(10, .int .i64 i)], ⟨2,[(1, .grow 1 (((l.take i).filter fun n => !decide (n ∈ oldS s id)).map (.int .i64)))]⟩)) (fun i => i ≤ l.length) (fun i => l.length - i) 0 (by simp) (.mk [] [] zz14 zz15 rfl rfl rfl) ?_
  rintro i hi
  simp only at hi ⊢
  refine .seq ?_
  refine .seq ?_
  refine .rn ?_
  refine .condS rfl (fun c35 => ?_) (fun c35 => ?_)
  ·try simp at c35
   have hw2 : IntKind.i64.wrap ((i : Int) + 1) = (i : Int) + 1 := wrap64 (by omega) (by omega)
   have hT := take_succ_filt (fun n => !decide (n ∈ oldS s id)) l i c35
   have hle : ((l.take i).filter fun n => !decide (n ∈ oldS s id)).length ≤ i := Nat.le_trans (List.length_filter_le _ _) (by simp; omega)
   have hb : ((l.take i).filter fun n => !decide (n ∈ oldS s id)).length ≤ 4294967295 := by omega
   have hone : allOne [PV.int IntKind.i64 l[i]] = true := rfl
   refine .skip ?_
   refine .seq ?_
   refine .block ?_
   refine .seq ?_
   refine .regionL [0,1,2,3,4,5,6] rfl zz0 ?_
   refine .rn [0,1,2,3,4] [5,6] ?_
   refine .step rfl rfl (.pure rfl rfl rfl Tryz.call46 (by decide) (p46 (oldS s id) l[i] hold) (by first | rfl | simp [*]) ?_)
   rintro _ rfl
   refine .rn [6] [] ?_
   refine .done ?_
   refine .condS rfl (fun c44 => ?_) (fun c44 => ?_)
   ·try simp at c44
    rw [if_pos (by simp [c44])] at hT
    refine .rn ?_
    refine .rn ?_
    refine ⟨i + 1, c35,zz5,(.mk [] [(1,3)] zz14 zz15 rfl rfl rfl)⟩
   ·try simp at c44
    rw [if_neg (by simp [c44])] at hT
    refine .skip ?_
    refine .rn ?_
    refine ⟨i + 1, c35,zz5,(.mk [] [] zz14 zz15 rfl rfl rfl)⟩
  ·try simp at c35
   have hi2 : i = l.length := by omega
   subst hi2
   refine .exit ?_
   refine .seq ?_
   refine .rn ?_
   refine .ret ?_
   refine ⟨_, _, zz4,zz4, ?_⟩
   unfold freL; rfl
theorem p70 (s : List Wit) (l : List Int) (hch : chE s = 0) (hlL : l.length < 4294967296) : VPure Tryz.prog 70 [encS s, ints l] fun r => ∃ n b, r = .tup [.int .i64 n, .bool b] ∧ (b = true → bestS s (chL s).length ≤ n) := by
 have h := (chE_ok hch).1
 have hl24 := (checkS_ok h).1
 refine .of_body Tryz.func70 rfl rfl ?_
 refine .seq ?_
 refine .rn ?_
 refine .seq ?_
 refine .seq ?_
 refine .rn ?_
 refine .condS rfl (fun c15 => ?_) (fun c15 => ?_)
 ·try simp at c15
  refine .seq ?_
  refine .rn ?_
  refine .ret ?_
  refine ⟨_, _, zz4,zz4, ⟨0, false, rfl, fun h => by cases h⟩⟩
 ·try simp at c15
  have he : l.length = s.length := by omega
  refine .skip ?_
  refine .seq ?_
  refine .rn ?_
  refine .seq ?_
  refine .seq ?_
  refine .rn ?_
  refine .block ?_
  refine .loopS (fun k : Nat => ([(1, ints l),(2, .ptr 0 0),(6, .int .i64 (ariP s l k)),(7, .int .i64 k)], ⟨1,[(0, .box [.vec (s.map encW)])]⟩)) (fun k => k ≤ s.length ∧ bestS s k ≤ ariP s l k ∧ 0 ≤ ariP s l k ∧ ariP s l k ≤ (k : Int) * 30) (fun k => s.length - k) 0 ⟨by simp, by simp [bestS, ariP], by simp [ariP], by simp [ariP]⟩ (.mk [] [] zz14 zz15 rfl rfl rfl) ?_
  rintro k ⟨hk, hle, h0, hub⟩
  simp only at hk hle h0 hub ⊢
  refine .seq ?_
  refine .seq ?_
  refine .rn ?_
  refine .condS rfl (fun c19 => ?_) (fun c19 => ?_)
  ·try simp at c19
   have hw2 : IntKind.i64.wrap ((k : Int) + 1) = (k : Int) + 1 := wrap64 (by omega) (by omega)
   have hks : k < s.length := by omega
   have hkl : k < l.length := by omega
   have hE : encW s[k] = .agg [.int .i64 s[k].id, .int .i64 s[k].known, ints s[k].slips, ints s[k].mended, ints s[k].models, .int .i64 s[k].lo, .int .i64 s[k].hi] := rfl
   have hS := ariP_succ s l k hks hkl
   have hsl := (witE_len ((checkS_ok h).2 s[k] (List.getElem_mem hks))).1
   have hfl : (freL s s[k].slips l[k]).length ≤ s[k].slips.length := List.length_filter_le _ _
   have hW4 : IntKind.i64.wrap (ariP s l k + ((freL s s[k].slips l[k]).length : Int)) = ariP s l k + ((freL s s[k].slips l[k]).length : Int) := wrap64 (by omega) (by omega)
   refine .skip ?_
   refine .seq ?_
   refine .block ?_
   refine .seq ?_
   refine .drawn (ms := [0,0,2,0,14,30,62,0,0,384,896,2046,4095,8191,16383,16383,32767,131071]) (W := [12]) (items := [.op 0, .op 1, .op 2, .op 3, .op 4, .op 5, .op 6, .op 7, .op 8, .op 9, .op 10, .op 11, .op 12, .op 13, .op 14, .op 15, .op 16, .op 17]) rfl zz0 zz0 zz0 ?_
   refine .rx ?_
   refine .rx ?_
   refine .rx ?_
   refine .rx ?_
   refine .rx ?_
   refine .rx ?_
   refine .rx ?_
   refine .rx ?_
   refine .rx ?_
   refine .rx ?_
   refine .rx ?_
   refine .rx ?_
   refine .wr rfl rfl (by decide) (.pure rfl rfl rfl Tryz.call27 (by decide) (p27 s s[k].id l[k] (by omega)) (by first | rfl | simp [*]) ?_)
   rintro _ rfl
   refine .rx ?_
   refine .rx ?_
   refine .rx ?_
   refine .rx ?_
   refine .rx ?_
   refine .done ?_
   refine .seq ?_
   refine .seq ?_
   refine .regionL [0,1,2,3,4,5] rfl zz0 ?_
   refine .rn [0,1,2] [3,4,5] ?_
   refine .split (t := 40) rfl (fun c40 => ?_) (fun c40 => ?_)
   ·try rw [c40]
    try simp at c40
    refine .rn [3,4,5] [] ?_
    refine .done ?_
    refine .condT rfl ?_
    refine .seq ?_
    refine .rn ?_
    refine .ret ?_
    refine ⟨_, _, zz4,zz4, ⟨0, false, rfl, fun h => by cases h⟩⟩
   ·try rw [c40]
    try simp at c40
    refine .rn [3,4,5] [] ?_
    refine .done ?_
    refine .condS rfl (fun c43 => ?_) (fun c43 => ?_)
    ·try simp at c43
     refine .seq ?_
     refine .rn ?_
     refine .ret ?_
     refine ⟨_, _, zz4,zz4, ⟨0, false, rfl, fun h => by cases h⟩⟩
    ·try simp at c43
     refine .skip ?_
     refine .drawn (ms := [0,0,0,4,0,28,60,124,0,0,768,1792,4094,8190,16383,32767]) (W := [12]) (items := [.op 0, .op 1, .op 2, .op 3, .op 4, .op 5, .op 6, .op 7, .op 8, .op 9, .op 10, .op 11, .op 12, .op 13, .op 14, .op 15]) rfl zz0 zz0 zz0 ?_
     refine .rx ?_
     refine .rx ?_
     refine .rx ?_
     refine .rx ?_
     refine .rx ?_
     refine .rx ?_
     refine .rx ?_
     refine .rx ?_
     refine .rx ?_
     refine .rx ?_
     refine .rx ?_
     refine .rx ?_
     refine .wr rfl rfl (by decide) (.pure rfl rfl rfl Tryz.call68 (by decide) (p68 s s[k].slips l[k] h (by omega)) (by first | rfl | simp [*]) ?_)
     rintro _ rfl
     refine .rx ?_
     refine .rx ?_
     refine .rx ?_
     refine .done ?_
     refine .rn ?_
     have hcan : canR (kinR s s[k].id l[k]) = true := by simpa using c43
     have hst := step_least hch hks hkl hcan c40 hle
     refine ⟨k + 1, ⟨hks, hst, by omega, by rw [hS]; push_cast; omega⟩, zz5,(.mk [] [] zz14 zz15 rfl rfl rfl)⟩
  ·try simp at c19
   have hk2 : k = s.length := by omega
   subst hk2
   have hcl := chL_len hch
   refine .exit ?_
   refine .seq ?_
   refine .rn ?_
   refine .ret ?_
   refine ⟨_, _, zz4,zz4, ⟨ariP s l s.length, true, rfl, fun _ => by rw [hcl]; exact hle⟩⟩
end Go.Am.Ds
end
section
namespace Go.Am.Ds
open Go Go.Am Go.Proofs
set_option maxRecDepth 100000
set_option maxHeartbeats 4000000
set_option linter.unusedSimpArgs false
set_option linter.unusedVariables false
attribute [local simp] vrun vwanted vyielded vop vopA vputAll VHeap.back hidI hidF backL bm Nat.testBit_eq_decide_div_mod_eq veval vevals vparts vO vbuiltin vlen vappend velems vcopy vmakeSlice vbuildSlice valloc vbox vmakeMap vload vpartT vpart vstore vfieldAddr vfield vindexAddr vindex vextract vslice vsliceZ vbounds vbnd zeroO vidx vlookup vmget vmapUpdate vdelete vclear vnilq vnilp vnils vbin vsc vsc1 vscs vscl abinOp aint ashift aunOp aconvert amaxs amax2 pvcV pvc pvcs tput tget vargs VHeap.get VHeap.alloc VHeap.put VHeap.drop VHeap.empty vlook vput vdrop psplice pfill preps chunk List.range List.range.loop vresults vresult vresultV frz frzL PV.isF PV.allF PV.scal PV.allS retP subT allFT PV.one PV.ids PV.idsL dropL beq_eq ble_dec blt_dec
attribute [local simp] zW tup2
set_option maxHeartbeats 40000000
theorem p14 (s : List Wit) (l : List Int) (m : Int) (hl : s.length < 4611686018427387904) (hlL : l.length < 4611686018427387904) (sanB : Bool) (hsan : VPure Tryz.prog 22 [] fun r => r = .bool sanB) (hsb : sanB = true) : VPure Tryz.prog 14 [encS s, .agg [ints l, .int .i64 m]] fun r => r = .bool true := by
 refine .of_body Tryz.func14 rfl rfl ?_
 refine .seq ?_
 refine .rn ?_
 refine .seq ?_
 refine .seq ?_
 refine .regionL [0,1,2,3,4,5,6,7,8] rfl zz0 ?_
 refine .rn [0] [1,2,3,4,5,6,7,8] ?_
 refine .step rfl rfl (.pure rfl rfl rfl Tryz.call21 (by decide) (p21 s hl) (by first | rfl | simp [*]) ?_)
 rintro _ rfl
 refine .rn [2,3] [4,5,6,7,8] ?_
 refine .split (t := 16) rfl (fun c16 => ?_) (fun c16 => ?_)
 ·try rw [c16]
  try simp at c16
  refine .rn [4,5,6,7,8] [] ?_
  refine .done ?_
  refine .condT rfl ?_
  refine .seq ?_
  refine .regionL [0,1] rfl zz0 ?_
  refine .step rfl rfl (.pure rfl rfl rfl Tryz.call22 (by decide) (hsan) (by first | rfl | simp [*]) ?_)
  rintro _ rfl
  refine .rn [1] [] ?_
  refine .done ?_
  refine .ret ?_
  refine ⟨_, _, zz4,zz4, ?_⟩
  first | rfl | (simp [*]; done) | (simp_all; done)
 ·try rw [c16]
  try simp at c16
  have hl2 := smallS_len c16
  obtain ⟨bn, hbn⟩ : ∃ x, bestS s (chL s).length = x := ⟨_, rfl⟩
  obtain ⟨ce, hce⟩ : ∃ x, chE s = x := ⟨_, rfl⟩
  obtain ⟨cb, hcb⟩ : ∃ x, cbR s l m = x := ⟨_, rfl⟩
  obtain ⟨bp, hbp⟩ : ∃ x, bestP s = x := ⟨_, rfl⟩
  obtain ⟨sl, hsl⟩ : ∃ x, slipsR s = x := ⟨_, rfl⟩
  obtain ⟨ck, hck⟩ : ∃ x, checkS s = x := ⟨_, rfl⟩
  have q63 := p63' s (by omega)
  have q55 := p55 s (by omega)
  have q47 := p47 s (by omega)
  have q56 := p56 s l m (by omega) hlL
  have q56b := fun h : chE s = 0 => (by have := p56 s (bestP s) (bestS s (chL s).length) (by omega) (by simp [bestP]; have := chL_len h; omega); rw [cbR_best h] at this; exact this : VPure Tryz.prog 56 [encS s, .agg [ints (bestP s), .int .i64 (bestS s (chL s).length)]] fun r => r = .int .i64 0)
  have q70 := fun (h : chE s = 0) (h2 : l.length < 4294967296) => p70 s l h h2
  have qcb : cbR s l m = 0 → chE s = 0 ∧ m = bestS s (chL s).length := cb_arise
  have qle : chE s = 0 → ((slipsR s).length : Int) ≤ bestS s (chL s).length ∧ checkS s = 0 := fun h => ⟨by unfold slipsR; rw [if_pos (chE_ok h).1]; exact least_slips h, (chE_ok h).1⟩
  rw [hbn, hce, hbp] at q63
  rw [hbn, hce] at q55
  rw [hsl, hck] at q47
  rw [hcb] at q56
  rw [hce, hbn, hbp] at q56b
  rw [hce, hbn] at q70
  rw [hcb, hce, hbn] at qcb
  rw [hce, hsl, hbn, hck] at qle
  clear hbn hce hcb hbp hsl hck
  refine .rn [4,5] [6,7,8] ?_
  refine .step rfl rfl (.pure rfl rfl rfl Tryz.call38 (by decide) (p38 l) (by first | rfl | simp [*]) ?_)
  rintro _ rfl
  refine .rn [7,8] [] ?_
  refine .done ?_
  refine .condS rfl (fun c21 => ?_) (fun c21 => ?_)
  ·try simp at c21
   refine .seq ?_
   refine .regionL [0,1] rfl zz0 ?_
   refine .step rfl rfl (.pure rfl rfl rfl Tryz.call22 (by decide) (hsan) (by first | rfl | simp [*]) ?_)
   rintro _ rfl
   refine .rn [1] [] ?_
   refine .done ?_
   refine .ret ?_
   refine ⟨_, _, zz4,zz4, ?_⟩
   first | rfl | (simp [*]; done) | (simp_all; done)
  ·try simp at c21
   refine .skip ?_
   refine .seq ?_
   refine .regionL [0,1,2,3,4,5,6,7] rfl zz0 ?_
   refine .rn [0] [1,2,3,4,5,6,7] ?_
   refine .step rfl rfl (.pure rfl rfl rfl Tryz.call63 (by decide) (q63) (by first | rfl | simp [*]) ?_)
   rintro _ rfl
   refine .rn [2,3,4,5,6,7] [] ?_
   refine .done ?_
   refine .seq ?_
   refine .seq ?_
   refine .rn ?_
   refine .condS rfl (fun c29 => ?_) (fun c29 => ?_)
   ·try simp at c29
    refine .seq ?_
    refine .regionL [0,1,2,3,4,5,6,7] rfl zz0 ?_
    refine .step rfl rfl (.pure rfl rfl rfl Tryz.call22 (by decide) (hsan) (by first | rfl | simp [*]) ?_)
    rintro _ rfl
    refine .rn [1] [2,3,4,5,6,7] ?_
    refine .split (t := 31) rfl (fun c31 => ?_) (fun c31 => ?_)
    ·try rw [c31]
     try simp at c31
     refine .rn [2,3] [4,5,6,7] ?_
     refine .step rfl rfl (.pure rfl rfl rfl Tryz.call56 (by decide) (q56) (by first | rfl | simp [*]) ?_)
     rintro _ rfl
     refine .rn [5,6,7] [] ?_
     refine .done ?_
     refine .ret ?_
     refine ⟨_, _, zz4,zz4, ?_⟩
     first | (simp_all; done) | (simp_all; intro h; exact c29 (qcb h).1)
    ·try rw [c31]
     try simp at c31
   ·try simp at c29
    obtain ⟨hqle, hck0⟩ := qle c29
    have hnlt : ¬ bn < (sl.length : Int) := by omega
    refine .skip ?_
    refine .seq ?_
    refine .regionL [0,1,2,3,4,5,6] rfl zz0 ?_
    refine .rn [0] [1,2,3,4,5,6] ?_
    refine .step rfl rfl (.pure rfl rfl rfl Tryz.call55 (by decide) (q55) (by first | rfl | simp [*]) ?_)
    rintro _ rfl
    refine .rn [2,3,4,5,6] [] ?_
    refine .done ?_
    refine .seq ?_
    refine .regionL [0,1,2,3,4,5,6] rfl zz0 ?_
    refine .rn [0] [1,2,3,4,5,6] ?_
    refine .step rfl rfl (.pure rfl rfl rfl Tryz.call47 (by decide) (q47) (by first | rfl | simp [*]) ?_)
    rintro _ rfl
    refine .rn [2,3,4,5,6] [] ?_
    refine .done ?_
    refine .seq ?_
    refine .seq ?_
    refine .regionL [0,1,2,3,4,5,6,7,8,9,10,11,12,13,14,15,16,17,18,19,20,21,22,23,24,25,26,27,28,29,30,31,32,33,34,35] rfl zz0 ?_
    refine .rn [0,1,2] [3,4,5,6,7,8,9,10,11,12,13,14,15,16,17,18,19,20,21,22,23,24,25,26,27,28,29,30,31,32,33,34,35] ?_
    refine .split (t := 49) rfl (fun c49 => ?_) (fun c49 => ?_)
    ·try rw [c49]
     try simp at c49
    ·try rw [c49]
     try simp at c49
     refine .rn [3,4,5,6] [7,8,9,10,11,12,13,14,15,16,17,18,19,20,21,22,23,24,25,26,27,28,29,30,31,32,33,34,35] ?_
     refine .split (t := 53) rfl (fun c53 => ?_) (fun c53 => ?_)
     ·try rw [c53]
      try simp at c53
     ·try rw [c53]
      try simp at c53
      refine .rn [7,8,9,10,11,12] [13,14,15,16,17,18,19,20,21,22,23,24,25,26,27,28,29,30,31,32,33,34,35] ?_
      refine .split (t := 59) rfl (fun c59 => ?_) (fun c59 => ?_)
      ·try rw [c59]
       try simp at c59
      ·try rw [c59]
       try simp at c59
       refine .rn [13,14,15,16,17,18] [19,20,21,22,23,24,25,26,27,28,29,30,31,32,33,34,35] ?_
       refine .split (t := 65) rfl (fun c65 => ?_) (fun c65 => ?_)
       ·try rw [c65]
        try simp at c65
       ·try rw [c65]
        try simp at c65
        refine .rn [19,20] [21,22,23,24,25,26,27,28,29,30,31,32,33,34,35] ?_
        refine .step rfl rfl (.pure rfl rfl rfl Tryz.call56 (by decide) (q56b c29) (by first | rfl | simp [*]) ?_)
        rintro _ rfl
        refine .rn [22,23,24] [25,26,27,28,29,30,31,32,33,34,35] ?_
        refine .split (t := 71) rfl (fun c71 => ?_) (fun c71 => ?_)
        ·try rw [c71]
         try simp at c71
        ·try rw [c71]
         try simp at c71
         refine .rn [25,26] [27,28,29,30,31,32,33,34,35] ?_
         refine .step rfl rfl (.pure rfl rfl rfl Tryz.call56 (by decide) (q56) (by first | rfl | simp [*]) ?_)
         rintro _ rfl
         refine .rn [28,29] [30,31,32,33,34,35] ?_
         refine .split (t := 76) rfl (fun c76 => ?_) (fun c76 => ?_)
         ·try rw [c76]
          try simp at c76
          have hmb := (qcb c76).2
          refine .rn [30,31,32,33,34,35] [] ?_
          refine .done ?_
          refine .condS rfl (fun c82 => ?_) (fun c82 => ?_)
          ·try simp at c82
          ·try simp at c82
           refine .skip ?_
           refine .seq ?_
           refine .regionL [0,1,2,3,4,5,6,7,8] rfl zz0 ?_
           refine .rn [0,1,2] [3,4,5,6,7,8] ?_
           refine .step rfl rfl (.pure rfl rfl rfl Tryz.call70 (by decide) (q70 c29 (by omega)) (by first | rfl | simp [*]) ?_)
           rintro _ ⟨n, b, rfl, hn⟩
           refine .rn [4,5,6,7,8] [] ?_
           refine .done ?_
           refine .seq ?_
           refine .regionL [0,1,2,3,4,5,6,7,8,9,10] rfl zz0 ?_
           refine .step rfl rfl (.pure rfl rfl rfl Tryz.call22 (by decide) (hsan) (by first | rfl | simp [*]) ?_)
           rintro _ rfl
           refine .rn [1] [2,3,4,5,6,7,8,9,10] ?_
           refine .split (t := 91) rfl (fun c91 => ?_) (fun c91 => ?_)
           ·try rw [c91]
            try simp at c91
            refine .rn [2,3,4] [5,6,7,8,9,10] ?_
            refine .split (t := 94) rfl (fun c94 => ?_) (fun c94 => ?_)
            ·try rw [c94]
             try simp at c94
             refine .rn [5,6,7,8,9,10] [] ?_
             refine .done ?_
             refine .ret ?_
             refine ⟨_, _, zz4,zz4, ?_⟩
             first | rfl | (simp [*]; done) | (simp_all; done)
            ·try rw [c94]
             try simp at c94
             have hn2 := hn c94
             refine .rn [5,6,7,8,9,10] [] ?_
             refine .done ?_
             refine .ret ?_
             refine ⟨_, _, zz4,zz4, ?_⟩
             first | rfl | (simp [*]; done) | (simp_all; done)
           ·try rw [c91]
            try simp at c91
         ·try rw [c76]
          try simp at c76
          refine .rn [30,31,32,33,34,35] [] ?_
          refine .done ?_
          refine .condF rfl ?_
          refine .skip ?_
          refine .seq ?_
          refine .regionL [0,1,2,3,4,5,6,7,8] rfl zz0 ?_
          refine .rn [0,1,2] [3,4,5,6,7,8] ?_
          refine .step rfl rfl (.pure rfl rfl rfl Tryz.call70 (by decide) (q70 c29 (by omega)) (by first | rfl | simp [*]) ?_)
          rintro _ ⟨n, b, rfl, hn⟩
          refine .rn [4,5,6,7,8] [] ?_
          refine .done ?_
          refine .seq ?_
          refine .regionL [0,1,2,3,4,5,6,7,8,9,10] rfl zz0 ?_
          refine .step rfl rfl (.pure rfl rfl rfl Tryz.call22 (by decide) (hsan) (by first | rfl | simp [*]) ?_)
          rintro _ rfl
          refine .rn [1] [2,3,4,5,6,7,8,9,10] ?_
          refine .split (t := 91) rfl (fun c91 => ?_) (fun c91 => ?_)
          ·try rw [c91]
           try simp at c91
           refine .rn [2,3,4] [5,6,7,8,9,10] ?_
           refine .split (t := 94) rfl (fun c94 => ?_) (fun c94 => ?_)
           ·try rw [c94]
            try simp at c94
            refine .rn [5,6,7,8,9,10] [] ?_
            refine .done ?_
            refine .ret ?_
            refine ⟨_, _, zz4,zz4, ?_⟩
            first | rfl | (simp [*]; done) | (simp_all; done)
           ·try rw [c94]
            try simp at c94
            have hn2 := hn c94
            refine .rn [5,6,7,8,9,10] [] ?_
            refine .done ?_
            refine .ret ?_
            refine ⟨_, _, zz4,zz4, ?_⟩
            first | rfl | (simp [*]; done) | (simp_all; done)
          ·try rw [c91]
           try simp at c91
end Go.Am.Ds
end
