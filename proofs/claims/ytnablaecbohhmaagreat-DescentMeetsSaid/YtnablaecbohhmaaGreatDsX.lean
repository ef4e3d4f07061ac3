/-
 What is used in the proof of a statement (part DsX); no condition.
-/
import Derived.Test.YtnablaecbohhmaaGreatDsT
import Derived.Test.YtnablaecbohhmaaGreatVm2
import Derived.Test.YtnablaecbohhmaaGreatDsC
import Derived.Test.YtnablaecbohhmaaGreatDsG
import Derived.Test.YtnablaecbohhmaaGreatDsF
import Derived.Test.YtnablaecbohhmaaGreatDsS
set_option linter.all false
namespace Go.Am
open Go Go.Proofs
section
variable {P : Program} {N b : Nat} {vts : VTs} {vh : VHeap}
theorem VScr.rx {ops : Array Oper} {W todo : List Nat} {K : VTs → VHeap → Prop} {m : Nat} {r : List SItem} {o : Oper} {v : PV} (k : VScr P N b ops W K r (bif selfFree o then m :: todoF ops todo o.dst else todoF ops todo o.dst) (tput vts o.dst v) vh) (ho : ops[m]? = some o := by rfl) (hw : vwanted ops o vts = some true := by rfl) (hW : W.contains m = false := by decide) (hr : isR o.op = true := by rfl) (hd : dstOK N o.dst = true := by decide) (hv : vop P vts vh o.op = some (v, vh) := by simp [*] <;> first | exact ⟨rfl, rfl⟩ | exact rfl) : VScr P N b ops W K (.op m :: r) todo vts vh := .rd ho hw hW hr hd hv k
end
end Go.Am
section
namespace Go.Am.Ds
open Go Go.Am Go.Proofs
set_option maxHeartbeats 4000000
set_option linter.unusedSimpArgs false
set_option linter.unusedVariables false
attribute [local simp] vrun vwanted vyielded vop veval vevals vparts vO vbuiltin vlen vappend velems vcopy vmakeSlice vbuildSlice valloc vbox vmakeMap vload vpartT vpart vstore vfieldAddr vfield vindexAddr vindex vextract vslice vsliceZ vbounds vbnd zeroO vidx vlookup vmget vmapUpdate vdelete vnilq vnilp vnils vbin vsc vsc1 vscs vscl abinOp aint ashift aunOp aconvert amaxs amax2 pvcV pvc pvcs tput tget vargs VHeap.get VHeap.alloc VHeap.put VHeap.drop VHeap.empty vlook vput vdrop psplice pfill preps chunk List.range List.range.loop vresults vresult vresultV frz frzL PV.isF PV.allF PV.scal PV.allS retP subT allFT PV.one PV.ids PV.idsL dropL beq_eq ble_dec blt_dec
attribute [local simp] zW tup2
theorem getW_idx {s : List Wit} {id : Int} {c : Wit} (h : getW s id = some c) : ∃ i, ∃ h : i < s.length, findI s id = (i : Int) ∧ s[i] = c := by
 rcases Int.lt_or_le (findI s id) 0 with h0 | h0
 ·rw [getW_none h0] at h; cases h
 ·obtain ⟨i, h1, h2, h3⟩ := getW_some h0
  rw [h3] at h; injection h with h
  exact ⟨i, h1, h2, h⟩
end Go.Am.Ds
end
section
namespace Go.Am.Ds
open Go Go.Am Go.Proofs
set_option maxHeartbeats 4000000
set_option linter.unusedSimpArgs false
set_option linter.unusedVariables false
attribute [local simp] vrun vwanted vyielded vop veval vevals vparts vO vbuiltin vlen vappend velems vcopy vmakeSlice vbuildSlice valloc vbox vmakeMap vload vpartT vpart vstore vfieldAddr vfield vindexAddr vindex vextract vslice vsliceZ vbounds vbnd zeroO vidx vlookup vmget vmapUpdate vdelete vnilq vnilp vnils vbin vsc vsc1 vscs vscl abinOp aint ashift aunOp aconvert amaxs amax2 pvcV pvc pvcs tput tget vargs VHeap.get VHeap.alloc VHeap.put VHeap.drop VHeap.empty vlook vput vdrop psplice pfill preps chunk List.range List.range.loop vresults vresult vresultV frz frzL PV.isF PV.allF PV.scal PV.allS retP subT allFT PV.one PV.ids PV.idsL dropL beq_eq ble_dec blt_dec
attribute [local simp] zW tup2
theorem take_succ_filt (p : Int → Bool) (l : List Int) (i : Nat) (h : i < l.length) : (l.take (i + 1)).filter p = if p l[i] then (l.take i).filter p ++ [l[i]] else (l.take i).filter p := take_succ_filter p l i h
end Go.Am.Ds
end
section
namespace Go.Am.Ds
open Go Go.Am Go.Proofs
set_option maxHeartbeats 4000000
set_option linter.unusedSimpArgs false
set_option linter.unusedVariables false
attribute [local simp] vrun vwanted vyielded vop veval vevals vparts vO vbuiltin vlen vappend velems vcopy vmakeSlice vbuildSlice valloc vbox vmakeMap vload vpartT vpart vstore vfieldAddr vfield vindexAddr vindex vextract vslice vsliceZ vbounds vbnd zeroO vidx vlookup vmget vmapUpdate vdelete vnilq vnilp vnils vbin vsc vsc1 vscs vscl abinOp aint ashift aunOp aconvert amaxs amax2 pvcV pvc pvcs tput tget vargs VHeap.get VHeap.alloc VHeap.put VHeap.drop VHeap.empty vlook vput vdrop psplice pfill preps chunk List.range List.range.loop vresults vresult vresultV frz frzL PV.isF PV.allF PV.scal PV.allS retP subT allFT PV.one PV.ids PV.idsL dropL beq_eq ble_dec blt_dec
attribute [local simp] zW tup2
theorem p108' (s : List Wit) (hl : s.length < 4294967296) : VPure Tryz.prog 108 [encS s] fun r => r = .tup [.vec ((chL s).map encC), .int .i64 (chE s)] := VPure.soft (p108 s hl) rfl
end Go.Am.Ds
end
section
namespace Go.Am.Ds
open Go Go.Am Go.Proofs

theorem checkL_nodup : ∀ {l : List Wit} {seen : List Int}, checkL l seen = 0 → (l.map Wit.id).Nodup ∧ ∀ w ∈ l, w.id ∉ seen
 | [], _, _ => ⟨.nil, fun w hw => by cases hw⟩
 | a :: r, seen, h => by
  simp only [checkL] at h
  split at h
  ·split at h
   ·simp at h
   ·rename_i hn
    obtain ⟨h1, h2⟩ := checkL_nodup h
    refine ⟨?_, fun w hw => ?_⟩
    ·rw [List.map_cons, List.nodup_cons]
     refine ⟨fun hm => ?_, h1⟩
     obtain ⟨w, hw, he⟩ := List.mem_map.1 hm
     exact h2 w hw ((mem_insU _ _ _).2 (.inr he))
    ·rcases List.mem_cons.1 hw with rfl | hw
     ·exact hn
     ·exact fun hs => h2 w hw ((mem_insU _ _ _).2 (.inl hs))
  ·rename_i h0; exact absurd h h0
theorem checkS_nodup {s : List Wit} (h : checkS s = 0) : (s.map Wit.id).Nodup := by
 unfold checkS at h
 split at h
 ·simp at h
 ·exact (checkL_nodup h).1
theorem checkS_pos {s : List Wit} (h : checkS s = 0) : ∀ w ∈ s, 0 < w.id := fun w hw => by
 have := (checkS_ok h).2 w hw
 unfold witE at this
 split at this
 ·cases this
 ·omega

theorem stepP_some {s : List Wit} {c : Wit} {id : Int} {y : Int × Int} : stepP s c id = some y ↔ ∃ p, getW s id = some p ∧ (whyP c p).1 = 0 ∧ y = (id, ((ariS c p).length : Int)) := by
 unfold stepP
 cases hg : getW s id with
 | none => simp
 | some p =>
  simp only
  by_cases h : (whyP c p).1 = 0
  ·rw [if_pos h]
   constructor
   ·intro h2; injection h2 with h2; exact ⟨p, rfl, h, h2.symm⟩
   ·rintro ⟨q, h2, _, h3⟩; injection h2 with h2; subst h2; rw [h3]
  ·rw [if_neg h]
   constructor
   ·intro h2; cases h2
   ·rintro ⟨q, h2, h3, _⟩; injection h2 with h2; subst h2; exact absurd h3 h
theorem parS_mem {s : List Wit} {c : Wit} {y : Int × Int} : y ∈ parS s c ↔ (y = (0,(c.slips.length : Int)) ∧ lastS c 0 = 0) ∨ ∃ p, y.1 ∈ idsS s ∧ getW s y.1 = some p ∧ (whyP c p).1 = 0 ∧ y.2 = ((ariS c p).length : Int) := by
 unfold parS
 rw [List.mem_append, List.mem_filterMap]
 have h0 : y ∈ headP c ↔ y = (0,(c.slips.length : Int)) ∧ lastS c 0 = 0 := by
  unfold headP
  split
  ·rename_i h; simp [h]
  ·rename_i h; simp [h]
 rw [h0]
 constructor
 ·rintro (h | ⟨id, h1, h2⟩)
  ·exact .inl h
  ·obtain ⟨p, h3, h4, h5⟩ := stepP_some.1 h2
   subst h5
   exact .inr ⟨p, h1, h3, h4, rfl⟩
 ·rintro (h | ⟨p, h1, h2, h3, h4⟩)
  ·exact .inl h
  ·exact .inr ⟨y.1, h1, stepP_some.2 ⟨p, h2, h3, Prod.ext rfl h4⟩⟩
theorem fold_spec : ∀ (l : List (Int × Int)) (d : List (Int × Int)) (x : List Int × Int),(d = [] ∧ x.1 = [] ∨ x.1 ≠ [] ∧ (∀ y ∈ d, x.2 ≤ y.2) ∧ ∃ y ∈ d, y.2 = x.2) →
  (d ++ l = [] ∧ (l.foldl stepC x).1 = [] ∨ (l.foldl stepC x).1 ≠ [] ∧ (∀ y ∈ d ++ l, (l.foldl stepC x).2 ≤ y.2) ∧ ∃ y ∈ d ++ l, y.2 = (l.foldl stepC x).2)
 | [], d, x, h => by simpa using h
 | y :: r, d, x, h => by
  have ih := fold_spec r (d ++ [y]) (stepC x y) (.inr (by
   unfold stepC
   split
   ·rename_i h1
    rcases h with ⟨_, h2⟩ | ⟨h2, h3, z, h4, h5⟩
    ·exact absurd h2 h1.1
    ·refine ⟨h2, fun w hw => ?_, z, List.mem_append_left _ h4, h5⟩
     rcases List.mem_append.1 hw with hw | hw
     ·exact h3 w hw
     ·rw [List.mem_singleton] at hw; rw [hw]; omega
   ·rename_i h1
    split
    ·rename_i h2
     refine ⟨by simp, fun w hw => ?_, y, by simp, rfl⟩
     rcases List.mem_append.1 hw with hw | hw
     ·rcases h with ⟨h3, _⟩ | ⟨h3, h4, _⟩
      ·rw [h3] at hw; cases hw
      ·rcases h2 with h2 | h2
       ·exact absurd h2 h3
       ·have := h4 w hw; simp only; omega
     ·rw [List.mem_singleton] at hw; rw [hw]; exact Int.le_refl _
    ·rename_i h2
     have h3 : x.1 ≠ [] := fun h4 => h2 (.inl h4)
     have h4 : ¬ y.2 < x.2 := fun h4 => h2 (.inr h4)
     have h5 : ¬ x.2 < y.2 := fun h5 => h1 ⟨h3, h5⟩
     rcases h with ⟨_, h6⟩ | ⟨_, h7, z, h8, h9⟩
     ·exact absurd h6 h3
     ·refine ⟨by simp, fun w hw => ?_, z, List.mem_append_left _ h8, h9⟩
      rcases List.mem_append.1 hw with hw | hw
      ·exact h7 w hw
      ·rw [List.mem_singleton] at hw; rw [hw]; simp only; omega))
  rw [List.append_assoc, List.singleton_append] at ih
  rw [List.foldl_cons]
  exact ih
theorem choF_spec (s : List Wit) (c : Wit) : (parS s c = [] ∧ (choF s c).1 = []) ∨ ((choF s c).1 ≠ [] ∧ (∀ y ∈ parS s c, (choF s c).2 ≤ y.2) ∧ ∃ y ∈ parS s c, y.2 = (choF s c).2) := by
 have := fold_spec (parS s c) [] ([],0) (.inl ⟨rfl, rfl⟩)
 simpa [choF] using this
end Go.Am.Ds
end
section
namespace Go.Am.Ds
open Go Go.Am Go.Proofs
set_option maxRecDepth 100000
set_option maxHeartbeats 4000000
set_option linter.unusedSimpArgs false
set_option linter.unusedVariables false
attribute [local simp] vrun vwanted vyielded vop vopA vputAll VHeap.back hidI hidF backL bm Nat.testBit_eq_decide_div_mod_eq veval vevals vparts vO vbuiltin vlen vappend velems vcopy vmakeSlice vbuildSlice valloc vbox vmakeMap vload vpartT vpart vstore vfieldAddr vfield vindexAddr vindex vextract vslice vsliceZ vbounds vbnd zeroO vidx vlookup vmget vmapUpdate vdelete vclear vnilq vnilp vnils vbin vsc vsc1 vscs vscl abinOp aint ashift aunOp aconvert amaxs amax2 pvcV pvc pvcs tput tget vargs VHeap.get VHeap.alloc VHeap.put VHeap.drop VHeap.empty vlook vput vdrop psplice pfill preps chunk List.range List.range.loop vresults vresult vresultV frz frzL PV.isF PV.allF PV.scal PV.allS retP subT allFT PV.one PV.ids PV.idsL dropL beq_eq ble_dec blt_dec
def longT (w : Wit) : Bool := decide (8 < w.slips.length) || decide (30 < w.mended.length) || decide (24 < w.models.length)
def smallS (s : List Wit) : Bool := !(s.any longT) && decide (s.length ≤ 12)
def parR (s : List Wit) (id : Int) : PV := match getW s id with
 | some p => .vp (encW p).cells
 | none => .ptr0
theorem parR_none {s : List Wit} {id : Int} (h : getW s id = none) : parR s id = .ptr0 := by unfold parR; rw [h]
theorem parR_some {s : List Wit} {id : Int} {p : Wit} (h : getW s id = some p) : parR s id = .vp (encW p).cells := by unfold parR; rw [h]
def stepD (s : List Wit) (c : Wit) (id : Int) : Option Int := match getW s id with
 | none => if id = 0 ∧ lastS c 0 = 0 then some (c.slips.length : Int) else none
 | some p => if (whyP c p).1 = 0 then some ((ariS c p).length : Int) else none
def desL (s : List Wit) (l : List Int) : List (Option Int) := (s.zip l).map fun x => stepD s x.1 x.2
def desP (s : List Wit) (l : List Int) (k : Nat) : Int := (((desL s l).take k).map (·.getD 0)).sum
def desR (s : List Wit) (l : List Int) : Int × Bool := if l.length = s.length ∧ (desL s l).all Option.isSome = true then (desP s l s.length, true) else (0, false)
theorem desL_get (s : List Wit) (l : List Int) (k : Nat) (h : k < s.length) (h2 : k < l.length) : ∃ h3 : k < (desL s l).length, (desL s l)[k] = stepD s s[k] l[k] := by
 refine ⟨by simp [desL]; omega, by simp [desL]⟩
theorem desP_succ (s : List Wit) (l : List Int) (k : Nat) (h : k < s.length) (h2 : k < l.length) : desP s l (k + 1) = desP s l k + (stepD s s[k] l[k]).getD 0 := by
 obtain ⟨h3, h4⟩ := desL_get s l k h h2
 unfold desP
 rw [List.take_succ_eq_append_getElem h3, h4]; simp
theorem desA_succ (s : List Wit) (l : List Int) (k : Nat) (h : k < s.length) (h2 : k < l.length) : ((desL s l).take (k + 1)).all Option.isSome = (((desL s l).take k).all Option.isSome && (stepD s s[k] l[k]).isSome) := by
 obtain ⟨h3, h4⟩ := desL_get s l k h h2
 rw [take_succ_all _ _ _ h3, h4]
theorem ariS_len (c p : Wit) : (ariS c p).length ≤ c.slips.length := by unfold ariS; exact List.length_filter_le _ _
theorem stepD_bd (s : List Wit) (c : Wit) (id : Int) : 0 ≤ (stepD s c id).getD 0 ∧ (stepD s c id).getD 0 ≤ (c.slips.length : Int) := by
 unfold stepD
 cases getW s id with
 | none => simp only; split <;> simp
 | some p =>
  simp only; have := ariS_len c p
  split <;> simp <;> omega
theorem desP_bd (s : List Wit) (l : List Int) (hli : ∀ w ∈ s, w.slips.length < 4294967296 ∧ w.mended.length < 4294967296 ∧ w.models.length < 4294967296) (he : l.length = s.length) : ∀ k, k ≤ s.length → 0 ≤ desP s l k ∧ desP s l k ≤ (k : Int) * 4294967296
 | 0, _ => by simp [desP]
 | k + 1, h => by
  have h1 := desP_bd s l hli he k (by omega)
  rw [desP_succ s l k (by omega) (by omega)]
  have h2 := stepD_bd s s[k] l[k]
  have h3 := (hli s[k] (List.getElem_mem (by omega))).1
  constructor
  ·omega
  ·push_cast; omega
theorem desR_none {s : List Wit} {l : List Int} {k : Nat} (h : k < s.length) (h2 : k < l.length) (hN : stepD s s[k] l[k] = none) : desR s l = (0, false) := by
 obtain ⟨h3, h4⟩ := desL_get s l k h h2
 unfold desR
 rw [if_neg]
 rintro ⟨_, ha⟩
 have := List.all_eq_true.1 ha _ (List.getElem_mem h3)
 rw [h4, hN] at this; cases this
theorem p21 (s : List Wit) (hl : s.length < 4611686018427387904) : VPure Tryz.prog 21 [encS s] fun r => r = .bool (smallS s) := by
 refine .of_body Tryz.func21 rfl rfl ?_
 refine .seq ?_
 refine .rn ?_
 refine .seq ?_
 refine .seq ?_
 refine .rn ?_
 refine .block ?_
 refine .loopS (fun i : Nat => ([(1, .ptr 0 0),(3, .int .i64 i)], ⟨1,[(0, .box [.vec (s.map encW)])]⟩)) (fun i => i ≤ s.length ∧ (s.take i).any longT = false) (fun i => s.length - i) 0 (by simp) (.mk [] [] zz14 zz15 rfl rfl rfl) ?_
 rintro i ⟨hi, hr⟩
 simp only at hi hr ⊢
 refine .seq ?_
 refine .seq ?_
 refine .rn ?_
 refine .condS rfl (fun c8 => ?_) (fun c8 => ?_)
 ·try simp at c8
  have hw2 : IntKind.i64.wrap ((i : Int) + 1) = (i : Int) + 1 := wrap64 (by omega) (by omega)
  have hA := take_succ_any longT s i c8
  rw [hr] at hA
  refine .skip ?_
  refine .seq ?_
  refine .block ?_
  refine .seq ?_
  refine .regionL [0,1,2,3,4,5,6,7,8,9,10,11,12,13,14,15,16,17,18,19,20,21,22,23,24,25,26,27] rfl zz0 ?_
  refine .rn [0,1,2,3,4,5,6,7,8] [9,10,11,12,13,14,15,16,17,18,19,20,21,22,23,24,25,26,27] ?_
  refine .split (t := 19) rfl (fun c19 => ?_) (fun c19 => ?_)
  ·try rw [c19]
   try simp at c19
   refine .rn [9,10,11,12,13,14,15,16,17,18,19,20,21,22,23,24,25,26,27] [] ?_
   refine .done ?_
   refine .condT rfl ?_
   refine .seq ?_
   refine .rn ?_
   refine .ret ?_
   refine ⟨_, _, zz4,zz4, ?_⟩
   have h : longT s[i] = true := by unfold longT; simp; omega
   unfold smallS; rw [any_get longT s i c8 h]; rfl
  ·try rw [c19]
   try simp at c19
   refine .rn [9,10,11,12,13,14,15,16,17,18] [19,20,21,22,23,24,25,26,27] ?_
   refine .split (t := 29) rfl (fun c29 => ?_) (fun c29 => ?_)
   ·try rw [c29]
    try simp at c29
    refine .rn [19,20,21,22,23,24,25,26,27] [] ?_
    refine .done ?_
    refine .condT rfl ?_
    refine .seq ?_
    refine .rn ?_
    refine .ret ?_
    refine ⟨_, _, zz4,zz4, ?_⟩
    have h : longT s[i] = true := by unfold longT; simp; omega
    unfold smallS; rw [any_get longT s i c8 h]; rfl
   ·try rw [c29]
    try simp at c29
    refine .rn [19,20,21,22,23,24,25,26,27] [] ?_
    refine .done ?_
    refine .condS rfl (fun c38 => ?_) (fun c38 => ?_)
    ·try simp at c38
     refine .seq ?_
     refine .rn ?_
     refine .ret ?_
     refine ⟨_, _, zz4,zz4, ?_⟩
     have h : longT s[i] = true := by unfold longT; simp; omega
     unfold smallS; rw [any_get longT s i c8 h]; rfl
    ·try simp at c38
     refine .skip ?_
     refine .rn ?_
     have h : longT s[i] = false := by unfold longT; simp; omega
     rw [h] at hA
     refine ⟨i + 1, ⟨zz5, by simpa using hA⟩, zz5,(.mk [] [] zz14 zz15 rfl rfl rfl)⟩
 ·try simp at c8
  have hi2 : i = s.length := by omega
  subst hi2
  rw [List.take_length] at hr
  refine .exit ?_
  refine .seq ?_
  refine .rn ?_
  refine .ret ?_
  refine ⟨_, _, zz4,zz4, ?_⟩
  unfold smallS; rw [hr]; simp; omega
theorem p173 (s : List Wit) (id : Int) (hl : s.length < 4294967296) : VPure Tryz.prog 173 [encS s, .int .i64 id] fun r => r = parR s id := by
 refine .of_body Tryz.func173 rfl rfl ?_
 refine .seq ?_
 refine .rn ?_
 refine .seq ?_
 refine .seq ?_
 refine .regionL [0,1,2,3] rfl zz0 ?_
 refine .rn [0,1] [2,3] ?_
 refine .step rfl rfl (.pure rfl rfl rfl Tryz.call105 (by decide) (p105' s id hl) (by first | rfl | simp [*]) ?_)
 rintro _ rfl
 refine .rn [3] [] ?_
 refine .done ?_
 refine .seq ?_
 refine .rn ?_
 refine .condS rfl (fun c10 => ?_) (fun c10 => ?_)
 ·try simp at c10
  obtain ⟨i, hi, hie, hga⟩ := getW_some c10
  refine .seq ?_
  refine .rn ?_
  refine .ret ?_
  refine ⟨_, _, zz4,zz4, ?_⟩
  rw [parR_some hga]; rfl
 ·try simp at c10
  have hn := getW_none (show findI s id < 0 by omega)
  refine .skip ?_
  refine .seq ?_
  refine .rn ?_
  refine .ret ?_
  refine ⟨_, _, zz4,zz4, ?_⟩
  rw [parR_none hn]
theorem p132 (s : List Wit) (l : List Int) (hl : s.length < 65536) (hlL : l.length < 4611686018427387904) (hli : ∀ w ∈ s, w.slips.length < 4294967296 ∧ w.mended.length < 4294967296 ∧ w.models.length < 4294967296) : VPure Tryz.prog 132 [encS s, ints l] fun r => r = .tup [.int .i64 (desR s l).1, .bool (desR s l).2] := by
 refine .of_body Tryz.func132 rfl rfl ?_
 refine .seq ?_
 refine .rn ?_
 refine .seq ?_
 refine .seq ?_
 refine .rn ?_
 refine .condS rfl (fun c17 => ?_) (fun c17 => ?_)
 ·try simp at c17
  refine .seq ?_
  refine .rn ?_
  refine .ret ?_
  refine ⟨_, _, zz4,zz4, ?_⟩
  rw [desR, if_neg (by rintro ⟨h, _⟩; omega)]
 ·try simp at c17
  have he : l.length = s.length := by omega
  refine .skip ?_
  refine .seq ?_
  refine .rn ?_
  refine .seq ?_
  refine .seq ?_
  refine .rn ?_
  refine .block ?_
  refine .loopS (fun k : Nat => ([(1, ints l),(2, .ptr 0 0),(6, .int .i64 (desP s l k)),(19, .vec (s.map encW)),(20, .int .i64 s.length),(21, .int .i64 k)], ⟨1,[(0, .box [.vec (s.map encW)])]⟩)) (fun k => k ≤ s.length ∧ ((desL s l).take k).all Option.isSome = true) (fun k => s.length - k) 0 (by simp) (.mk [] [] zz14 zz15 rfl rfl rfl) ?_
  rintro k ⟨hk, hal⟩
  simp only at hk hal ⊢
  refine .seq ?_
  refine .rn ?_
  refine .seq ?_
  refine .condS rfl (fun c22 => ?_) (fun c22 => ?_)
  ·try simp at c22
   have hw2 : IntKind.i64.wrap ((k : Int) + 1) = (k : Int) + 1 := wrap64 (by omega) (by omega)
   have hkl : k < l.length := by omega
   obtain ⟨hw1, hw3, hw4⟩ := hli s[k] (List.getElem_mem c22)
   have hbd := desP_bd s l hli he k hk
   have hbd2 := stepD_bd s s[k] l[k]
   have hS := desP_succ s l k c22 hkl
   have hA := desA_succ s l k c22 hkl
   have hW3 : ∀ x : Int, 0 ≤ x → x ≤ 4294967296 → IntKind.i64.wrap (desP s l k + x) = desP s l k + x := fun x h1 h2 => wrap64 (by omega) (by omega)
   have hE : encW s[k] = .agg [.int .i64 s[k].id, .int .i64 s[k].known, ints s[k].slips, ints s[k].mended, ints s[k].models, .int .i64 s[k].lo, .int .i64 s[k].hi] := rfl
   rcases hg : getW s l[k] with _ | p
   ·skip
    refine .skip ?_
    refine .seq ?_
    refine .block ?_
    refine .seq ?_
    refine .rn ?_
    refine .seq ?_
    refine .drawn (ms := [0,0,0,6,14,31,63]) (W := [5]) (items := [.op 0, .op 1, .op 2, .op 3, .op 4, .op 5, .op 6]) rfl zz0 zz0 zz0 ?_
    refine .rx ?_
    refine .rx ?_
    refine .rx ?_
    refine .rx ?_
    refine .rx ?_
    refine .wr rfl rfl (by decide) (.pure rfl rfl rfl Tryz.call173 (by decide) ((by have h := p173 s l[k] (by omega); rw [parR_none hg] at h; exact h)) (by first | rfl | simp [*]) ?_)
    rintro _ rfl
    refine .rx ?_
    refine .done ?_
    refine .seq ?_
    refine .seq ?_
    refine .regionL [0,1,2,3,4,5,6,7,8] rfl zz0 ?_
    refine .rn [0,1,2] [3,4,5,6,7,8] ?_
    refine .split (t := 34) rfl (fun c34 => ?_) (fun c34 => ?_)
    ·try rw [c34]
     try simp at c34
     refine .rn [3,4,5,6,7,8] [] ?_
     refine .done ?_
     refine .condS rfl (fun c40 => ?_) (fun c40 => ?_)
     ·try simp at c40
      have hN : stepD s s[k] l[k] = none := by simp only [stepD, hg]; rw [if_neg (fun h => c40 h.1)]
      refine .seq ?_
      refine .rn ?_
      refine .ret ?_
      refine ⟨_, _, zz4,zz4, ?_⟩
      rw [desR_none c22 hkl hN]
     ·try simp at c40
      refine .skip ?_
      refine .seq ?_
      refine .seq ?_
      refine .regionL [0,1,2,3,4,5,6,7] rfl zz0 ?_
      refine .rn [0,1] [2,3,4,5,6,7] ?_
      refine .step rfl rfl (.pure rfl rfl rfl Tryz.call101 (by decide) (p101a s[k] hw4) (by first | rfl | simp [*]) ?_)
      rintro _ rfl
      refine .rn [3,4,5,6,7] [] ?_
      refine .done ?_
      refine .seq ?_
      refine .rn ?_
      refine .condS rfl (fun c48 => ?_) (fun c48 => ?_)
      ·try simp at c48
       have hN : stepD s s[k] l[k] = none := by simp only [stepD, hg]; rw [if_neg (fun h => c48 h.2)]
       refine .seq ?_
       refine .rn ?_
       refine .ret ?_
       refine ⟨_, _, zz4,zz4, ?_⟩
       rw [desR_none c22 hkl hN]
      ·try simp at c48
       have hN : stepD s s[k] l[k] = some (s[k].slips.length : Int) := by simp only [stepD, hg]; rw [if_pos ⟨c40, c48⟩]
       rw [hN] at hS hA
       simp only [Option.getD_some] at hS
       have hW4 := hW3 (s[k].slips.length : Int) (by omega) (by omega)
       refine .skip ?_
       refine .regionL [0,1,2,3,4,5,6] rfl zz0 ?_
       refine .rn [0,1,2] [3,4,5,6] ?_
       refine .step rfl rfl (.pure rfl rfl rfl Tryz.call109 (by decide) (p109a s[k]) (by first | rfl | simp [*]) ?_)
       rintro _ rfl
       refine .rn [4,5,6] [] ?_
       refine .done ?_
       refine .rn ?_
       refine ⟨k + 1, ⟨zz5, by rw [hA]; simpa using hal⟩, zz5,(.mk [] [] zz14 zz15 rfl rfl rfl)⟩
    ·try rw [c34]
     try simp at c34
   ·skip
    refine .skip ?_
    refine .seq ?_
    refine .block ?_
    refine .seq ?_
    refine .rn ?_
    refine .seq ?_
    refine .drawn (ms := [0,0,0,6,14,31,63]) (W := [5]) (items := [.op 0, .op 1, .op 2, .op 3, .op 4, .op 5, .op 6]) rfl zz0 zz0 zz0 ?_
    refine .rx ?_
    refine .rx ?_
    refine .rx ?_
    refine .rx ?_
    refine .rx ?_
    refine .wr rfl rfl (by decide) (.pure rfl rfl rfl Tryz.call173 (by decide) ((by have h := p173 s l[k] (by omega); rw [parR_some hg] at h; exact h)) (by first | rfl | simp [*]) ?_)
    rintro _ rfl
    refine .rx ?_
    refine .done ?_
    refine .seq ?_
    refine .seq ?_
    refine .regionL [0,1,2,3,4,5,6,7,8] rfl zz0 ?_
    refine .rn [0,1,2] [3,4,5,6,7,8] ?_
    refine .split (t := 34) rfl (fun c34 => ?_) (fun c34 => ?_)
    ·try rw [c34]
     try simp at c34
    ·try rw [c34]
     try simp at c34
     have hp := (getW_mem hg).1
     have hp1 := (hli p hp).1
     refine .rn [3,4,5,6,7,8] [] ?_
     refine .done ?_
     refine .condF rfl ?_
     refine .skip ?_
     refine .seq ?_
     refine .seq ?_
     refine .regionL [0,1,2,3,4,5,6,7] rfl zz0 ?_
     refine .rn [0,1] [2,3,4,5,6,7] ?_
     refine .step rfl rfl (.pure rfl rfl rfl Tryz.call101 (by decide) (p101b s[k] p hw1 hw3 hw4 hp1) (by first | rfl | simp [*]) ?_)
     rintro _ rfl
     refine .rn [3,4,5,6,7] [] ?_
     refine .done ?_
     refine .seq ?_
     refine .rn ?_
     refine .condS rfl (fun c48 => ?_) (fun c48 => ?_)
     ·try simp at c48
      have hN : stepD s s[k] l[k] = none := by simp only [stepD, hg]; rw [if_neg c48]
      refine .seq ?_
      refine .rn ?_
      refine .ret ?_
      refine ⟨_, _, zz4,zz4, ?_⟩
      rw [desR_none c22 hkl hN]
     ·try simp at c48
      have hN : stepD s s[k] l[k] = some ((ariS s[k] p).length : Int) := by simp only [stepD, hg]; rw [if_pos c48]
      rw [hN] at hS hA
      simp only [Option.getD_some] at hS
      have har := ariS_len s[k] p
      have hW4 := hW3 ((ariS s[k] p).length : Int) (by omega) (by omega)
      refine .skip ?_
      refine .regionL [0,1,2,3,4,5,6] rfl zz0 ?_
      refine .rn [0,1,2] [3,4,5,6] ?_
      refine .step rfl rfl (.pure rfl rfl rfl Tryz.call109 (by decide) (p109 s[k] p hw1 hp1) (by first | rfl | simp [*]) ?_)
      rintro _ rfl
      refine .rn [4,5,6] [] ?_
      refine .done ?_
      refine .rn ?_
      refine ⟨k + 1, ⟨zz5, by rw [hA]; simpa using hal⟩, zz5,(.mk [] [] zz14 zz15 rfl rfl rfl)⟩
  ·try simp at c22
   have hk2 : k = s.length := by omega
   subst hk2
   refine .exit ?_
   refine .seq ?_
   refine .rn ?_
   refine .ret ?_
   refine ⟨_, _, zz4,zz4, ?_⟩
   have hall : (desL s l).all Option.isSome = true := by
    rw [List.take_of_length_le (by simp [desL]; omega)] at hal
    simpa using hal
   rw [desR, if_pos ⟨he, hall⟩]
end Go.Am.Ds
end
section
namespace Go.Am.Ds
open Go Go.Am Go.Proofs
set_option maxRecDepth 100000
set_option maxHeartbeats 4000000
set_option linter.unusedSimpArgs false
set_option linter.unusedVariables false
attribute [local simp] vrun vwanted vyielded vop vopA vputAll VHeap.back hidI hidF backL bm Nat.testBit_eq_decide_div_mod_eq veval vevals vparts vO vbuiltin vlen vappend velems vcopy vmakeSlice vbuildSlice valloc vbox vmakeMap vload vpartT vpart vstore vfieldAddr vfield vindexAddr vindex vextract vslice vsliceZ vbounds vbnd zeroO vidx vlookup vmget vmapUpdate vdelete vclear vnilq vnilp vnils vbin vsc vsc1 vscs vscl abinOp aint ashift aunOp aconvert amaxs amax2 pvcV pvc pvcs tput tget vargs VHeap.get VHeap.alloc VHeap.put VHeap.drop VHeap.empty vlook vput vdrop psplice pfill preps chunk List.range List.range.loop vresults vresult vresultV frz frzL PV.isF PV.allF PV.scal PV.allS retP subT allFT PV.one PV.ids PV.idsL dropL beq_eq ble_dec blt_dec
def bestP (s : List Wit) : List Int := (chL s).map fun c => c.1.headD 0
def bestS (s : List Wit) (k : Nat) : Int := (((chL s).take k).map (·.2)).sum
theorem chL_ok {s : List Wit} (h : chE s = 0) : chL s = s.map (choF s) := by unfold chL; rw [if_pos h]
theorem chE_ok {s : List Wit} (h : chE s = 0) : checkS s = 0 ∧ ∀ c ∈ s, (choF s c).1 ≠ [] := by
 unfold chE at h
 split at h
 ·split at h
  ·cases h
  ·rename_i h1 h2; exact ⟨h1, fun c hc h3 => h2 ⟨c, hc, h3⟩⟩
 ·contradiction
theorem choF_bd {s : List Wit} {c : Wit} (h : (choF s c).1 ≠ []) : 0 ≤ (choF s c).2 ∧ (choF s c).2 ≤ (c.slips.length : Int) := by
 rcases choF_spec s c with ⟨_, h1⟩ | ⟨_, _, y, hy, h2⟩
 ·exact absurd h1 h
 ·rcases parS_mem.1 hy with ⟨rfl, _⟩ | ⟨p, _, _, _, h4⟩
  ·simp only at h2; omega
  ·have := ariS_len c p; omega
theorem chL_get {s : List Wit} (h : chE s = 0) {k : Nat} (hk : k < (chL s).length) : ∃ a r d, (chL s)[k] = (a :: r, d) ∧ 0 ≤ d ∧ d < 4294967296 := by
 obtain ⟨h1, h2⟩ := chE_ok h
 have aux : ∀ x ∈ chL s, ∃ c ∈ s, choF s c = x := fun x hx => by rw [chL_ok h] at hx; exact List.mem_map.1 hx
 obtain ⟨c, hc, he⟩ := aux _ (List.getElem_mem hk)
 have h3 := h2 c hc
 have h4 := choF_bd h3
 have h5 := (checkS_lens h1 c hc).1
 cases h6 : (choF s c).1 with
 | nil => exact absurd h6 h3
 | cons a r => exact ⟨a, r, (choF s c).2, by rw [← he, ← h6], h4.1, by omega⟩
theorem chL_len {s : List Wit} (h : chE s = 0) : (chL s).length = s.length := by rw [chL_ok h]; simp
theorem bestS_succ (s : List Wit) (k : Nat) (hk : k < (chL s).length) : bestS s (k + 1) = bestS s k + (chL s)[k].2 := by
 unfold bestS; rw [List.take_succ_eq_append_getElem hk, List.map_append, List.sum_append]; simp only [List.map_cons, List.map_nil, List.sum_cons, List.sum_nil]; omega
theorem bestS_bd {s : List Wit} (h : chE s = 0) : ∀ k, k ≤ (chL s).length → 0 ≤ bestS s k ∧ bestS s k ≤ (k : Int) * 4294967296
 | 0, _ => by simp [bestS]
 | k + 1, hk => by
  have h1 := bestS_bd h k (by omega)
  obtain ⟨a, r, d, he, h2, h3⟩ := chL_get h (show k < (chL s).length by omega)
  rw [bestS_succ s k (by omega), he]
  constructor
  ·omega
  ·push_cast; omega
theorem p63 (s : List Wit) (hl : s.length < 65536) : VPure Tryz.prog 63 [encS s] fun r => Soft r (.tup [.agg [ints (bestP s), .int .i64 (bestS s (chL s).length)], .int .i64 (chE s)]) := by
 refine .of_body Tryz.func63 rfl rfl ?_
 refine .seq ?_
 refine .rn ?_
 refine .seq ?_
 refine .regionL [0,1,2,3,4,5,6] rfl zz0 ?_
 refine .rn [0] [1,2,3,4,5,6] ?_
 refine .step rfl rfl (.pure rfl rfl rfl Tryz.call108 (by decide) (p108' s (by omega)) (by first | rfl | simp [*]) ?_)
 rintro _ rfl
 refine .rn [2,3,4,5,6] [] ?_
 refine .done ?_
 refine .seq ?_
 refine .seq ?_
 refine .rn ?_
 refine .condS rfl (fun c15 => ?_) (fun c15 => ?_)
 ·try simp at c15
  refine .seq ?_
  refine .rn ?_
  refine .ret ?_
  refine ⟨_, _, zz4,zz4, ?_⟩
  have e2 : chL s = [] := by unfold chL; rw [if_neg c15]
  have e3 : bestP s = [] := by unfold bestP; rw [e2]; rfl
  have e4 : bestS s (chL s).length = 0 := by unfold bestS; rw [e2]; rfl
  rw [e3, e4]
  exact soft_tup (AltL.cons (.agg' (.cons .sl0v (.cons (.same _ rfl) .nil))) (AltL.cons (.same _ rfl) AltL.nil))
 ·try simp at c15
  refine .skip ?_
  refine .seq ?_
  refine .rn ?_
  refine .seq ?_
  refine .seq ?_
  refine .rn ?_
  refine .block ?_
  refine .loopS (fun k : Nat => ([(2, .ptr 1 0),(6, .ptr 2 0),(18, .vec ((chL s).map encC)),(19, .int .i64 (chL s).length),(20, .int .i64 k)], ⟨4,[(3, .grow 1 (((bestP s).take k).map (.int .i64))),(2, .box [.grow 3 k true, .int .i64 (bestS s k)]),(1, .box [.sl0, .int .i64 0]),(0, .box [.vec (s.map encW)])]⟩)) (fun k => k ≤ (chL s).length) (fun k => (chL s).length - k) 0 (by simp) (.mk [] [] zz14 zz15 rfl rfl rfl) ?_
  rintro k hk
  simp only at hk ⊢
  refine .seq ?_
  refine .rn ?_
  refine .seq ?_
  refine .condS rfl (fun c21 => ?_) (fun c21 => ?_)
  ·try simp at c21
   have hcl : (chL s).length < 65536 := by have := chL_len c15; omega
   have hw2 : IntKind.i64.wrap ((k : Int) + 1) = (k : Int) + 1 := wrap64 (by omega) (by omega)
   obtain ⟨a, r, d, hc, hd1, hd2⟩ := chL_get c15 c21
   have hE : encC (a :: r, d) = .agg [ints (a :: r), .int .i64 d] := rfl
   have hS := bestS_succ s k c21
   rw [hc] at hS
   simp only at hS
   have hbd := bestS_bd c15 k hk
   have hW4 : IntKind.i64.wrap (bestS s k + d) = bestS s k + d := wrap64 (by omega) (by omega)
   have hT : (bestP s).take (k + 1) = (bestP s).take k ++ [a] := by
    have h1 : k < (bestP s).length := by simpa [bestP] using c21
    rw [List.take_succ_eq_append_getElem h1]; simp [bestP, hc]
   have hln : min k (bestP s).length = k := by simp [bestP]; omega
   have hT2 : List.take (k + 1) (List.map (PV.int .i64) (bestP s)) = List.take k (List.map (PV.int .i64) (bestP s)) ++ [.int .i64 a] := by rw [← List.map_take, hT]; simp
   have hb : k + 1 ≤ 4294967296 := by omega
   refine .skip ?_
   refine .seq ?_
   refine .block ?_
   refine .seq ?_
   refine .rn ?_
   refine .seq ?_
   refine .drawn (ms := [0,1,0,4,12,28,60,127,255,511]) (W := [6,7,9]) (items := [.op 0, .op 1, .op 2, .op 3, .op 4, .op 5, .op 6, .ck 1, .op 7, .op 8, .op 9]) rfl zz0 zz0 zz0 ?_
   refine .rx ?_
   refine .rx ?_
   refine .rx ?_
   refine .rx ?_
   refine .rx ?_
   refine .rx ?_
   refine .wr rfl rfl (by decide) (.vop zz1 (by decide) ?_)
   refine .ck rfl zz0 ?_
   refine .wr rfl rfl (by decide) (.vop zz1 (by decide) ?_)
   refine .rx ?_
   refine .wr rfl rfl (by decide) (.vop zz1 (by decide) ?_)
   refine .done ?_
   refine .rn ?_
   refine .rn ?_
   refine ⟨k + 1, c21,zz5,(.mk [] [(3,6)] zz14 zz15 rfl rfl rfl)⟩
  ·try simp at c21
   have : k = (chL s).length := by omega
   subst this
   have hbl : (bestP s).length = (chL s).length := by simp [bestP]
   refine .exit ?_
   refine .seq ?_
   refine .rn ?_
   refine .ret ?_
   refine ⟨_, _, zz4,(by simp [hbl] <;> rfl), ?_⟩
   have e3 : List.take (chL s).length (List.map (PV.int .i64) (bestP s)) = List.map (PV.int .i64) (bestP s) := List.take_of_length_le (by simp [hbl])
   rw [c15]
   show Soft _ _
   rw [e3]
   exact soft_rfl rfl
end Go.Am.Ds
end
section
namespace Go.Am.Ds
open Go Go.Am Go.Proofs
set_option maxHeartbeats 4000000
set_option linter.unusedSimpArgs false
set_option linter.unusedVariables false
attribute [local simp] vrun vwanted vyielded vop veval vevals vparts vO vbuiltin vlen vappend velems vcopy vmakeSlice vbuildSlice valloc vbox vmakeMap vload vpartT vpart vstore vfieldAddr vfield vindexAddr vindex vextract vslice vsliceZ vbounds vbnd zeroO vidx vlookup vmget vmapUpdate vdelete vnilq vnilp vnils vbin vsc vsc1 vscs vscl abinOp aint ashift aunOp aconvert amaxs amax2 pvcV pvc pvcs tput tget vargs VHeap.get VHeap.alloc VHeap.put VHeap.drop VHeap.empty vlook vput vdrop psplice pfill preps chunk List.range List.range.loop vresults vresult vresultV frz frzL PV.isF PV.allF PV.scal PV.allS retP subT allFT PV.one PV.ids PV.idsL dropL beq_eq ble_dec blt_dec
theorem p63' (s : List Wit) (hl : s.length < 65536) : VPure Tryz.prog 63 [encS s] fun r => r = .tup [.agg [ints (bestP s), .int .i64 (bestS s (chL s).length)], .int .i64 (chE s)] := VPure.soft (p63 s hl) rfl
end Go.Am.Ds
end
section
namespace Go.Am.Ds
open Go Go.Am Go.Proofs
theorem fold_mem : ∀ (l d : List (Int × Int)) (x : List Int × Int),(∀ b ∈ x.1,(b, x.2) ∈ d) → ∀ b ∈ (l.foldl stepC x).1,(b, (l.foldl stepC x).2) ∈ d ++ l
 | [], d, x, h => by simpa using h
 | y :: r, d, x, h => by
  have ih := fold_mem r (d ++ [y]) (stepC x y) (by
   unfold stepC
   split
   ·intro b hb; exact List.mem_append_left _ (h b hb)
   ·rename_i h1
    split
    ·intro b hb
     rw [List.mem_singleton] at hb
     subst hb; simp
    ·rename_i h2
     intro b hb
     have h3 : x.1 ≠ [] := fun h4 => h2 (.inl h4)
     have h4 : ¬ y.2 < x.2 := fun h4 => h2 (.inr h4)
     have h5 : ¬ x.2 < y.2 := fun h5 => h1 ⟨h3, h5⟩
     rcases List.mem_append.1 hb with hb | hb
     ·exact List.mem_append_left _ (h b hb)
     ·rw [List.mem_singleton] at hb
      subst hb
      have h6 : x.2 = y.2 := by omega
      simp [h6])
  rw [List.append_assoc, List.singleton_append] at ih
  rw [List.foldl_cons]
  exact ih
theorem choF_mem {s : List Wit} {c : Wit} {b : Int} (h : b ∈ (choF s c).1) : (b, (choF s c).2) ∈ parS s c := by
 have := fold_mem (parS s c) [] ([],0) (by simp) b h
 rw [List.nil_append] at this
 exact this
theorem stepD_par {s : List Wit} (h : checkS s = 0) {c : Wit} {b d : Int} (hb : (b, d) ∈ parS s c) : stepD s c b = some d := by
 rcases parS_mem.1 hb with ⟨he, h1⟩ | ⟨p, _, h2, h3, h4⟩
 ·injection he with e1 e2
  subst e1; subst e2
  have hg : getW s 0 = none := by
   cases hg : getW s 0 with
   | none => rfl
   | some p =>
    obtain ⟨hp, h0⟩ := getW_mem hg
    have := checkS_pos h p hp
    omega
  simp only [stepD, hg]
  rw [if_pos ⟨trivial, h1⟩]
 ·simp only at h2 h4
  simp only [stepD, h2]
  rw [if_pos h3, h4]
theorem head_mem {l : List Int} (h : l ≠ []) : l.headD 0 ∈ l := by
 cases l with
 | nil => exact absurd rfl h
 | cons a r => simp
theorem desL_best {s : List Wit} (h : chE s = 0) : desL s (bestP s) = (chL s).map fun c => some c.2 := by
 obtain ⟨h0, h1⟩ := chE_ok h
 have hb : bestP s = s.map fun c => (choF s c).1.headD 0 := by unfold bestP; rw [chL_ok h, List.map_map]; rfl
 rw [chL_ok h, hb]
 unfold desL
 rw [List.zip_map_right, List.map_map, List.map_map]
 apply List.ext_getElem
 ·simp
 ·intro i h2 h3
  simp only [List.getElem_map, List.getElem_zip, Function.comp, Prod.map, id]
  exact stepD_par h0 (choF_mem (head_mem (h1 _ (List.getElem_mem _))))
theorem getW_own : ∀ {s : List Wit},(s.map Wit.id).Nodup → ∀ {w : Wit}, w ∈ s → getW s w.id = some w
 | a :: r, hn, w, hw => by
  rw [List.map_cons, List.nodup_cons] at hn
  unfold getW
  rw [List.find?_cons]
  rcases List.mem_cons.1 hw with rfl | hw
  ·simp
  ·have : a.id ≠ w.id := fun h => hn.1 (h ▸ List.mem_map_of_mem hw)
   rw [show decide (a.id = w.id) = false from decide_eq_false this]
   exact getW_own hn.2 hw
end Go.Am.Ds
end
section
namespace Go.Am.Ds
open Go Go.Am Go.Proofs
set_option maxHeartbeats 4000000
set_option linter.unusedSimpArgs false
set_option linter.unusedVariables false
attribute [local simp] vrun vwanted vyielded vop veval vevals vparts vO vbuiltin vlen vappend velems vcopy vmakeSlice vbuildSlice valloc vbox vmakeMap vload vpartT vpart vstore vfieldAddr vfield vindexAddr vindex vextract vslice vsliceZ vbounds vbnd zeroO vidx vlookup vmget vmapUpdate vdelete vnilq vnilp vnils vbin vsc vsc1 vscs vscl abinOp aint ashift aunOp aconvert amaxs amax2 pvcV pvc pvcs tput tget vargs VHeap.get VHeap.alloc VHeap.put VHeap.drop VHeap.empty vlook vput vdrop psplice pfill preps chunk List.range List.range.loop vresults vresult vresultV frz frzL PV.isF PV.allF PV.scal PV.allS retP subT allFT PV.one PV.ids PV.idsL dropL beq_eq ble_dec blt_dec
theorem smallS_len {s : List Wit} (h : smallS s = true) : s.length ≤ 12 := by
 unfold smallS at h
 simp only [Bool.and_eq_true, decide_eq_true_eq] at h
 exact h.2
end Go.Am.Ds
end
section
namespace Go.Am.Ds
open Go Go.Am Go.Proofs
set_option maxRecDepth 100000
set_option maxHeartbeats 4000000
set_option linter.unusedSimpArgs false
set_option linter.unusedVariables false
attribute [local simp] vrun vwanted vyielded vop vopA vputAll VHeap.back hidI hidF backL bm Nat.testBit_eq_decide_div_mod_eq veval vevals vparts vO vbuiltin vlen vappend velems vcopy vmakeSlice vbuildSlice valloc vbox vmakeMap vload vpartT vpart vstore vfieldAddr vfield vindexAddr vindex vextract vslice vsliceZ vbounds vbnd zeroO vidx vlookup vmget vmapUpdate vdelete vclear vnilq vnilp vnils vbin vsc vsc1 vscs vscl abinOp aint ashift aunOp aconvert amaxs amax2 pvcV pvc pvcs tput tget vargs VHeap.get VHeap.alloc VHeap.put VHeap.drop VHeap.empty vlook vput vdrop psplice pfill preps chunk List.range List.range.loop vresults vresult vresultV frz frzL PV.isF PV.allF PV.scal PV.allS retP subT allFT PV.one PV.ids PV.idsL dropL beq_eq ble_dec blt_dec
def encK (x : Int × Int) : PV := .agg [.int .i64 x.1, .int .i64 x.2]
@[simp] theorem allSz_encK (l : List (Int × Int)) : allSz 2 (l.map encK) = true := allSz_map (f := encK) (n := 2) (fun _ => rfl) l
@[simp] theorem allOne_encK (l : List (Int × Int)) : allOne (l.map encK) = true := allOne_map (f := encK) (fun _ => rfl) l
theorem take_succ_mem {l : List Int} {n : Int} {i : Nat} (h : i < l.length) (h1 : n ∉ l.take i) (h2 : l[i] ≠ n) : n ∉ l.take (i + 1) := by
 rw [List.take_succ_eq_append_getElem h]
 intro h3
 rcases List.mem_append.1 h3 with h3 | h3
 ·exact h1 h3
 ·rw [List.mem_singleton] at h3; exact h2 h3.symm
theorem p46 (l : List Int) (n : Int) (hl : l.length < 4611686018427387904) : VPure Tryz.prog 46 [ints l, .int .i64 n] fun r => r = .bool (decide (n ∈ l)) := by
 refine .of_body Tryz.func46 rfl rfl ?_
 refine .seq ?_
 refine .rn ?_
 refine .seq ?_
 refine .seq ?_
 refine .rn ?_
 refine .block ?_
 refine .loopS (fun i : Nat => ([(0, ints l),(1, .int .i64 n),(5, .int .i64 i)], ⟨0,[]⟩)) (fun i => i ≤ l.length ∧ n ∉ l.take i) (fun i => l.length - i) 0 (by simp) (.mk [] [] zz14 zz15 rfl rfl rfl) ?_
 rintro i ⟨hi, hn⟩
 simp only at hi hn ⊢
 refine .seq ?_
 refine .seq ?_
 refine .rn ?_
 refine .condS rfl (fun c9 => ?_) (fun c9 => ?_)
 ·try simp at c9
  have hw2 : IntKind.i64.wrap ((i : Int) + 1) = (i : Int) + 1 := wrap64 (by omega) (by omega)
  refine .skip ?_
  refine .seq ?_
  refine .block ?_
  refine .seq ?_
  refine .rn ?_
  refine .condS rfl (fun c17 => ?_) (fun c17 => ?_)
  ·try simp at c17
   refine .seq ?_
   refine .rn ?_
   refine .ret ?_
   refine ⟨_, _, zz4,zz4, ?_⟩
   have : n ∈ l := c17 ▸ List.getElem_mem c9
   simp [this]
  ·try simp at c17
   refine .skip ?_
   refine .rn ?_
   refine ⟨i + 1, ⟨c9, take_succ_mem c9 hn c17⟩, zz5,(.mk [] [] zz14 zz15 rfl rfl rfl)⟩
 ·try simp at c9
  have : i = l.length := by omega
  subst this
  rw [List.take_length] at hn
  refine .exit ?_
  refine .seq ?_
  refine .rn ?_
  refine .ret ?_
  refine ⟨_, _, zz4,zz4, ?_⟩
  simp [hn]
end Go.Am.Ds
end
section
namespace Go.Am.Ds
open Go Go.Am Go.Proofs
end Go.Am.Ds
end
section
namespace Go.Am.Ds
open Go Go.Am Go.Proofs
end Go.Am.Ds
end
section
namespace Go.Am.Ds
open Go Go.Am Go.Proofs
def upI (s : List Wit) (l : List Int) (id : Int) : Int := (l[(findI s id).toNat]?).getD 0
def rkI (s : List Wit) (id : Int) : Nat := match getW s id with
 | none => 0
 | some c => (s.filter fun w => decide (w.hi ≤ c.hi)).length
def chN (s : List Wit) (l : List Int) : Nat → Int → List Int
 | 0, _ => []
 | n + 1, id => if id = 0 then [] else id :: chN s l n (upI s l id)
def chI (s : List Wit) (l : List Int) (id : Int) : List Int := chN s l (rkI s id) id
def froI (s : List Wit) (l : List Int) (id : Int) : List Int := chI s l (upI s l id)
theorem filt_lt {p q : Wit → Bool} (h : ∀ w, p w = true → q w = true) : ∀ {s : List Wit} {c : Wit}, c ∈ s → q c = true → p c = false → (s.filter p).length < (s.filter q).length
 | a :: r, c, hc, h1, h2 => by
  have hle : (r.filter p).length ≤ (r.filter q).length := by
   rw [← List.countP_eq_length_filter, ← List.countP_eq_length_filter]
   exact List.countP_mono_left fun x _ hx => h x hx
  rcases List.mem_cons.1 hc with rfl | hc
  ·rw [List.filter_cons_of_pos h1, List.filter_cons_of_neg (by simp [h2]), List.length_cons]; omega
  ·have ih := filt_lt h hc h1 h2
   by_cases hp : p a = true
   ·rw [List.filter_cons_of_pos hp, List.filter_cons_of_pos (h a hp), List.length_cons, List.length_cons]; omega
   ·rw [List.filter_cons_of_neg hp]
    by_cases hq : q a = true
    ·rw [List.filter_cons_of_pos hq, List.length_cons]; omega
    ·rw [List.filter_cons_of_neg hq]; exact ih
theorem wit_lohi {s : List Wit} (h : checkS s = 0) {w : Wit} (hw : w ∈ s) : w.lo ≤ w.hi := by
 have := (checkS_ok h).2 w hw
 unfold witE at this
 repeat' split at this
 all_goals first | omega | cases this
theorem why_hi {c p : Wit} (h : (whyP c p).1 = 0) : p.hi < c.lo := by
 unfold whyP at h
 split at h
 ·cases h
 ·split at h
  ·cases h
  ·omega
theorem getW_zero {s : List Wit} (h : checkS s = 0) : getW s 0 = none := by
 cases hg : getW s 0 with
 | none => rfl
 | some p =>
  obtain ⟨hp, h0⟩ := getW_mem hg
  have := checkS_pos h p hp
  omega
theorem des_len {s : List Wit} {l : List Int} (hd : (desR s l).2 = true) : l.length = s.length ∧ (desL s l).all Option.isSome = true := by
 unfold desR at hd; split at hd
 ·assumption
 ·cases hd
theorem up_at {s : List Wit} {l : List Int} (hd : (desR s l).2 = true) {id : Int} {c : Wit} (hg : getW s id = some c) : ∃ i, ∃ hi : i < s.length, ∃ h2 : i < l.length, findI s id = (i : Int) ∧ s[i] = c ∧ l[i] = upI s l id := by
 obtain ⟨he, _⟩ := des_len hd
 obtain ⟨i, hi, hie, hc⟩ := getW_idx hg
 refine ⟨i, hi, by omega, hie, hc, ?_⟩
 unfold upI
 rw [hie, Int.toNat_natCast, List.getElem?_eq_getElem (by omega), Option.getD_some]
theorem up_some {s : List Wit} {l : List Int} (hd : (desR s l).2 = true) {id : Int} {c : Wit} (hg : getW s id = some c) : upI s l id = 0 ∨ ∃ p, getW s (upI s l id) = some p ∧ (whyP c p).1 = 0 := by
 obtain ⟨i, hi, h2, _, hc, hl⟩ := up_at hd hg
 obtain ⟨_, ha⟩ := des_len hd
 obtain ⟨h3, h4⟩ := desL_get s l i hi h2
 have h5 := List.all_eq_true.1 ha _ (List.getElem_mem h3)
 rw [h4, hc, hl] at h5
 unfold stepD at h5
 cases hp : getW s (upI s l id) with
 | none =>
  rw [hp] at h5
  simp only at h5
  split at h5
  ·rename_i h6; exact .inl h6.1
  ·cases h5
 | some p =>
  rw [hp] at h5
  simp only at h5
  split at h5
  ·rename_i h6; exact .inr ⟨p, rfl, h6⟩
  ·cases h5
theorem rk_pos {s : List Wit} {id : Int} {c : Wit} (hg : getW s id = some c) : 0 < rkI s id := by
 unfold rkI; rw [hg]
 exact List.length_pos_iff.2 (List.ne_nil_of_mem (List.mem_filter.2 ⟨(getW_mem hg).1, by simp⟩))
theorem rk_le (s : List Wit) (id : Int) : rkI s id ≤ s.length := by
 unfold rkI; split
 ·omega
 ·exact List.length_filter_le _ _
theorem rk_zero {s : List Wit} (h : checkS s = 0) : rkI s 0 = 0 := by unfold rkI; rw [getW_zero h]
theorem rk_up {s : List Wit} {l : List Int} (h : checkS s = 0) (hd : (desR s l).2 = true) {id : Int} {c : Wit} (hg : getW s id = some c) : rkI s (upI s l id) < rkI s id := by
 rcases up_some hd hg with h1 | ⟨p, h1, h2⟩
 ·rw [h1, rk_zero h]; exact rk_pos hg
 ·have h3 := why_hi h2
  have h4 := wit_lohi h (getW_mem hg).1
  unfold rkI; rw [h1, hg]
  exact filt_lt (fun w hw => by simp only [decide_eq_true_eq] at hw ⊢; omega) (getW_mem hg).1 (by simp) (by simp; omega)
def okI (s : List Wit) (id : Int) : Prop := id = 0 ∨ ∃ c, getW s id = some c
theorem up_ok {s : List Wit} {l : List Int} (hd : (desR s l).2 = true) {id : Int} {c : Wit} (hg : getW s id = some c) : okI s (upI s l id) := (up_some hd hg).imp (fun h => h) fun ⟨p, h, _⟩ => ⟨p, h⟩
theorem chN_zero (s : List Wit) (l : List Int) (n : Nat) : chN s l n 0 = [] := by cases n <;> simp [chN]
theorem chN_st {s : List Wit} {l : List Int} (h : checkS s = 0) (hd : (desR s l).2 = true) : ∀ n m id, okI s id → rkI s id ≤ n → rkI s id ≤ m → chN s l n id = chN s l m id := by
 intro n
 induction n with
 | zero =>
  intro m id ho h1 h2
  rcases ho with rfl | ⟨c, hg⟩
  ·rw [chN_zero, chN_zero]
  ·have := rk_pos hg; omega
 | succ n ih =>
  intro m id ho h1 h2
  rcases ho with rfl | ⟨c, hg⟩
  ·rw [chN_zero, chN_zero]
  ·have h3 := rk_pos hg
   obtain ⟨k, rfl⟩ : ∃ k, m = k + 1 := ⟨m - 1, by omega⟩
   have h4 := rk_up h hd hg
   unfold chN
   rw [ih k (upI s l id) (up_ok hd hg) (by omega) (by omega)]
theorem chI_zero (s : List Wit) (l : List Int) : chI s l 0 = [] := chN_zero s l _
theorem chI_step {s : List Wit} {l : List Int} (h : checkS s = 0) (hd : (desR s l).2 = true) {id : Int} {c : Wit} (hg : getW s id = some c) : chI s l id = id :: froI s l id := by
 have h0 : id ≠ 0 := fun h0 => by rw [h0, getW_zero h] at hg; cases hg
 have h3 := rk_pos hg
 have h4 := rk_up h hd hg
 unfold froI chI
 obtain ⟨k, hk⟩ : ∃ k, rkI s id = k + 1 := ⟨rkI s id - 1, by omega⟩
 rw [hk]
 show (if id = 0 then [] else id :: chN s l k (upI s l id)) = _
 rw [if_neg h0, chN_st h hd k (rkI s (upI s l id)) (upI s l id) (up_ok hd hg) (by omega) (Nat.le_refl _)]
theorem chI_mem {s : List Wit} {l : List Int} (h : checkS s = 0) (hd : (desR s l).2 = true) : ∀ n id c, rkI s id ≤ n → getW s id = some c → ∀ b ∈ chI s l id, ∃ q, getW s b = some q ∧ (b = id ∨ q.hi < c.lo) := by
 intro n
 induction n with
 | zero => intro id c h1 hg; have := rk_pos hg; omega
 | succ n ih =>
  intro id c h1 hg b hb
  rw [chI_step h hd hg] at hb
  rcases List.mem_cons.1 hb with rfl | hb
  ·exact ⟨c, hg, .inl rfl⟩
  ·have h4 := rk_up h hd hg
   rcases up_some hd hg with h5 | ⟨p, h5, h6⟩
   ·unfold froI at hb; rw [h5, chI_zero] at hb; cases hb
   ·obtain ⟨q, h7, h8⟩ := ih _ p (by omega) h5 b hb
    have h9 := why_hi h6
    have h10 := wit_lohi h (getW_mem h5).1
    refine ⟨q, h7, .inr ?_⟩
    rcases h8 with rfl | h8
    ·rw [h5] at h7; injection h7 with h7; subst h7; exact h9
    ·omega
theorem chI_len {s : List Wit} {l : List Int} (h : checkS s = 0) (hd : (desR s l).2 = true) (id : Int) : (chI s l id).length ≤ s.length := by
 have : ∀ n id, (chN s l n id).length ≤ n := by
  intro n
  induction n with
  | zero => intro id; simp [chN]
  | succ n ih =>
   intro id
   unfold chN
   split
   ·simp
   ·rw [List.length_cons]; have := ih (upI s l id); omega
 have h1 := this (rkI s id) id
 have h2 := rk_le s id
 unfold chI; omega
def askE (s : List Wit) (l : List Int) (id : Int) (text : Bool) : Int := if checkS s = 0 then (if getW s id = none ∧ (id ≠ 0 ∨ text = false) then 5 else if (desR s l).2 = true then 0 else 1) else checkS s
theorem askE_ok {s : List Wit} {l : List Int} {id : Int} {text : Bool} (h : askE s l id text = 0) : checkS s = 0 ∧ (desR s l).2 = true ∧ ((∃ c, getW s id = some c) ∨ id = 0 ∧ text = true) := by
 unfold askE at h
 split at h
 ·rename_i h0
  split at h
  ·cases h
  ·rename_i h1
   split at h
   ·rename_i h2
    refine ⟨h0, h2, ?_⟩
    cases hg : getW s id with
    | some c => exact .inl ⟨c, rfl⟩
    | none =>
     rw [hg] at h1
     refine .inr ⟨Decidable.by_contra fun h3 => h1 ⟨rfl, .inl h3⟩, ?_⟩
     cases text with
     | true => rfl
     | false => exact absurd ⟨rfl, .inr rfl⟩ h1
   ·cases h
 ·rename_i h0; exact absurd h h0
def froL (s : List Wit) (l : List Int) (id : Int) : List Int := if askE s l id false = 0 then froI s l id else []
theorem des_best {s : List Wit} (h : chE s = 0) : (desR s (bestP s)).2 = true := by
 have hlen := chL_len h
 unfold desR
 rw [if_pos ⟨by simp [bestP, hlen], by rw [desL_best h]; simp⟩]
theorem askE_of {s : List Wit} {l : List Int} {id : Int} {text : Bool} (h : checkS s = 0) (hd : (desR s l).2 = true) (ho : (∃ c, getW s id = some c) ∨ id = 0 ∧ text = true) : askE s l id text = 0 := by
 unfold askE
 rw [if_pos h, if_neg, if_pos hd]
 rintro ⟨h1, h2⟩
 rcases ho with ⟨c, hc⟩ | ⟨h3, h4⟩
 ·rw [h1] at hc; cases hc
 ·rcases h2 with h2 | h2
  ·exact h2 h3
  ·rw [h4] at h2; cases h2
theorem froL_len {s : List Wit} (l : List Int) (id : Int) : (froL s l id).length ≤ s.length := by
 unfold froL
 split
 ·rename_i h1
  obtain ⟨h, hd, _⟩ := askE_ok h1
  exact chI_len h hd _
 ·simp
end Go.Am.Ds
end
section
namespace Go.Am.Ds
open Go Go.Am Go.Proofs
set_option maxRecDepth 100000
set_option maxHeartbeats 4000000
set_option linter.unusedSimpArgs false
set_option linter.unusedVariables false
attribute [local simp] vrun vwanted vyielded vop vopA vputAll VHeap.back hidI hidF backL bm Nat.testBit_eq_decide_div_mod_eq veval vevals vparts vO vbuiltin vlen vappend velems vcopy vmakeSlice vbuildSlice valloc vbox vmakeMap vload vpartT vpart vstore vfieldAddr vfield vindexAddr vindex vextract vslice vsliceZ vbounds vbnd zeroO vidx vlookup vmget vmapUpdate vdelete vclear vnilq vnilp vnils vbin vsc vsc1 vscs vscl abinOp aint ashift aunOp aconvert amaxs amax2 pvcV pvc pvcs tput tget vargs VHeap.get VHeap.alloc VHeap.put VHeap.drop VHeap.empty vlook vput vdrop psplice pfill preps chunk List.range List.range.loop vresults vresult vresultV frz frzL PV.isF PV.allF PV.scal PV.allS retP subT allFT PV.one PV.ids PV.idsL dropL beq_eq ble_dec blt_dec
attribute [local simp] zW tup2
theorem any_memD (l : List Int) (v : Int) : (l.any fun a => decide (v = a)) = decide (v ∈ l) := by rw [Bool.eq_iff_iff]; simp
theorem p144d (l : List Int) (v : Int) (hl : l.length < 4294967296) : VPure Tryz.prog 144 [ints l, .int .i64 v] fun r => r = .bool (decide (v ∈ l)) := by
 have := p144 l v hl
 rw [any_memD] at this; exact this
theorem p142 (s : List Wit) (l : List Int) (m id : Int) (text : Bool) (hl : s.length < 65536) (hlL : l.length < 4611686018427387904) : VPure Tryz.prog 142 [encS s, .agg [ints l, .int .i64 m], .int .i64 id, .bool text] fun r => r = .int .i64 (askE s l id text) := by
 refine .of_body Tryz.func142 rfl rfl ?_
 refine .seq ?_
 refine .rn ?_
 refine .seq ?_
 refine .seq ?_
 refine .regionL [0,1,2] rfl zz0 ?_
 refine .rn [0] [1,2] ?_
 refine .step rfl rfl (.pure rfl rfl rfl Tryz.call35 (by decide) (p35 s (by omega)) (by first | rfl | simp [*]) ?_)
 rintro _ rfl
 refine .rn [2] [] ?_
 refine .done ?_
 refine .seq ?_
 refine .rn ?_
 refine .condS rfl (fun c15 => ?_) (fun c15 => ?_)
 ·try simp at c15
  refine .seq ?_
  refine .rn ?_
  refine .ret ?_
  refine ⟨_, _, zz4,zz4, ?_⟩
  simp_all [askE]
 ·try simp at c15
  refine .skip ?_
  refine .seq ?_
  refine .seq ?_
  refine .regionL [0,1,2,3,4,5,6,7,8,9,10,11] rfl zz0 ?_
  refine .rn [0,1] [2,3,4,5,6,7,8,9,10,11] ?_
  refine .step rfl rfl (.pure rfl rfl rfl Tryz.call105 (by decide) (p105' s id (by omega)) (by first | rfl | simp [*]) ?_)
  rintro _ rfl
  refine .rn [3,4] [5,6,7,8,9,10,11] ?_
  refine .split (t := 21) rfl (fun c21 => ?_) (fun c21 => ?_)
  ·try rw [c21]
   try simp at c21
   have hn := getW_none c21
   refine .rn [5,6,7] [8,9,10,11] ?_
   refine .split (t := 24) rfl (fun c24 => ?_) (fun c24 => ?_)
   ·try rw [c24]
    try simp at c24
    refine .rn [8,9,10,11] [] ?_
    refine .done ?_
    refine .condT rfl ?_
    refine .seq ?_
    refine .rn ?_
    refine .ret ?_
    refine ⟨_, _, zz4,zz4, ?_⟩
    simp_all [askE]
   ·try rw [c24]
    try simp at c24
    refine .rn [8,9,10,11] [] ?_
    refine .done ?_
    refine .condS rfl (fun c28 => ?_) (fun c28 => ?_)
    ·try simp at c28
     refine .seq ?_
     refine .rn ?_
     refine .ret ?_
     refine ⟨_, _, zz4,zz4, ?_⟩
     simp_all [askE]
    ·try simp at c28
     refine .skip ?_
     refine .seq ?_
     refine .seq ?_
     refine .regionL [0,1,2,3,4,5,6,7,8] rfl zz0 ?_
     refine .rn [0,1,2] [3,4,5,6,7,8] ?_
     refine .step rfl rfl (.pure rfl rfl rfl Tryz.call132 (by decide) (p132 s l hl hlL (checkS_lens c15)) (by first | rfl | simp [*]) ?_)
     rintro _ rfl
     refine .rn [4,5,6,7,8] [] ?_
     refine .done ?_
     refine .seq ?_
     refine .rn ?_
     refine .condS rfl (fun c37 => ?_) (fun c37 => ?_)
     ·try simp at c37
      refine .seq ?_
      refine .rn ?_
      refine .ret ?_
      refine ⟨_, _, zz4,zz4, ?_⟩
      simp_all [askE]
     ·try simp at c37
      refine .skip ?_
      refine .seq ?_
      refine .rn ?_
      refine .ret ?_
      refine ⟨_, _, zz4,zz4, ?_⟩
      simp_all [askE]
  ·try rw [c21]
   try simp at c21
   obtain ⟨i, hi, hie, hga⟩ := getW_some (show 0 ≤ findI s id by omega)
   refine .rn [5,6,7,8,9,10,11] [] ?_
   refine .done ?_
   refine .condF rfl ?_
   refine .skip ?_
   refine .seq ?_
   refine .seq ?_
   refine .regionL [0,1,2,3,4,5,6,7,8] rfl zz0 ?_
   refine .rn [0,1,2] [3,4,5,6,7,8] ?_
   refine .step rfl rfl (.pure rfl rfl rfl Tryz.call132 (by decide) (p132 s l hl hlL (checkS_lens c15)) (by first | rfl | simp [*]) ?_)
   rintro _ rfl
   refine .rn [4,5,6,7,8] [] ?_
   refine .done ?_
   refine .seq ?_
   refine .rn ?_
   refine .condS rfl (fun c37 => ?_) (fun c37 => ?_)
   ·try simp at c37
    refine .seq ?_
    refine .rn ?_
    refine .ret ?_
    refine ⟨_, _, zz4,zz4, ?_⟩
    simp_all [askE]
   ·try simp at c37
    refine .skip ?_
    refine .seq ?_
    refine .rn ?_
    refine .ret ?_
    refine ⟨_, _, zz4,zz4, ?_⟩
    simp_all [askE]
theorem p143 (s : List Wit) (l : List Int) (m id : Int) (c : Wit) (h : checkS s = 0) (hd : (desR s l).2 = true) (hg : getW s id = some c) : VPure Tryz.prog 143 [encS s, .agg [ints l, .int .i64 m], .int .i64 id] fun r => r = ints (froI s l id) := by
 have hl24 := (checkS_ok h).1
 obtain ⟨i, hi, hi2, hie, hci, hup⟩ := up_at hd hg
 refine .of_body Tryz.func143 rfl rfl ?_
 refine .seq ?_
 refine .rn ?_
 refine .seq ?_
 refine .rn ?_
 refine .seq ?_
 refine .seq ?_
 refine .drawn (ms := [0,1,0,0,12,31,63,127]) (W := [4]) (items := [.op 0, .op 1, .op 2, .op 3, .op 4, .ck 1, .op 5, .op 6, .op 7]) rfl zz0 zz0 zz0 ?_
 refine .rx ?_
 refine .rx ?_
 refine .rx ?_
 refine .rx ?_
 refine .wr rfl rfl (by decide) (.pure rfl rfl rfl Tryz.call105 (by decide) ((by have h := p105' s id (by omega); rw [hie] at h; exact h)) (by first | rfl | simp [*]) ?_)
 rintro _ rfl
 refine .ck rfl zz0 ?_
 refine .rx ?_
 refine .rx ?_
 refine .rx ?_
 refine .done ?_
 refine .block ?_
 refine .loopS (fun st : List Int × Int => ([(2, .int .i64 st.2),(3, .ptr 0 0),(4, .ptr 1 0),(7, .grow 2 st.1.length true)], ⟨3,[(2, .grow 1 (st.1.map (.int .i64))),(1, .box [ints l, .int .i64 m]),(0, .box [.vec (s.map encW)])]⟩)) (fun st => okI s st.2 ∧ froI s l id = st.1 ++ chI s l st.2) (fun st => rkI s st.2) ([], upI s l id) ⟨up_ok hd hg, rfl⟩ (.mk [] [] zz14 zz15 rfl rfl rfl) ?_
 rintro ⟨o, x⟩ ⟨hx, ho⟩
 simp only at hx ho ⊢
 have hol : o.length ≤ 24 := by
  have h1 := chI_len h hd (upI s l id)
  have h2 : (froI s l id).length = o.length + (chI s l x).length := by rw [ho, List.length_append]
  unfold froI at h2; omega
 refine .seq ?_
 refine .seq ?_
 refine .rn ?_
 refine .condS rfl (fun c16 => ?_) (fun c16 => ?_)
 ·try simp at c16
  obtain ⟨c2, hg2⟩ := hx.resolve_left c16
  obtain ⟨i2, hi3, hi4, hie2, hci2, hup2⟩ := up_at hd hg2
  have hone : allOne [PV.int IntKind.i64 x] = true := rfl
  have hb : o.length ≤ 4294967295 := by omega
  have hrk := rk_up h hd hg2
  refine .skip ?_
  refine .seq ?_
  refine .block ?_
  refine .rn ?_
  refine .drawn (ms := [0,1,0,0,12,31,63,127]) (W := [4]) (items := [.op 0, .op 1, .op 2, .op 3, .op 4, .ck 1, .op 5, .op 6, .op 7]) rfl zz0 zz0 zz0 ?_
  refine .rx ?_
  refine .rx ?_
  refine .rx ?_
  refine .rx ?_
  refine .wr rfl rfl (by decide) (.pure rfl rfl rfl Tryz.call105 (by decide) ((by have h := p105' s x (by omega); rw [hie2] at h; exact h)) (by first | rfl | simp [*]) ?_)
  rintro _ rfl
  refine .ck rfl zz0 ?_
  refine .rx ?_
  refine .rx ?_
  refine .rx ?_
  refine .done ?_
  refine ⟨(o ++ [x], upI s l x), ⟨up_ok hd hg2, by rw [ho, chI_step h hd hg2]; simp [froI]⟩, hrk, (.mk [] [(2,4)] zz14 zz15 rfl rfl rfl)⟩
 ·try simp at c16
  have hfr : froI s l id = o := by rw [ho, c16, chI_zero, List.append_nil]
  refine .exit ?_
  refine .seq ?_
  refine .rn ?_
  refine .ret ?_
  refine ⟨_, _, zz4,zz4, ?_⟩
  first | rfl | (simp [*]; done) | (simp_all; done)
theorem p71 (s : List Wit) (l : List Int) (m id : Int) (hl : s.length < 65536) (hlL : l.length < 4611686018427387904) : VPure Tryz.prog 71 [encS s, .agg [ints l, .int .i64 m], .int .i64 id] fun r => Soft r (.tup [ints (froL s l id), .int .i64 (askE s l id false)]) := by
 refine .of_body Tryz.func71 rfl rfl ?_
 refine .seq ?_
 refine .rn ?_
 refine .seq ?_
 refine .seq ?_
 refine .regionL [0,1,2,3,4] rfl zz0 ?_
 refine .rn [0,1,2] [3,4] ?_
 refine .step rfl rfl (.pure rfl rfl rfl Tryz.call142 (by decide) (p142 s l m id false hl hlL) (by first | rfl | simp [*]) ?_)
 rintro _ rfl
 refine .rn [4] [] ?_
 refine .done ?_
 refine .seq ?_
 refine .rn ?_
 refine .condS rfl (fun c14 => ?_) (fun c14 => ?_)
 ·try simp at c14
  refine .seq ?_
  refine .rn ?_
  refine .ret ?_
  refine ⟨_, _, zz4,zz4, ?_⟩
  rw [show froL s l id = [] by unfold froL; rw [if_neg c14]]
  exact soft_tup (AltL.cons .sl0v (AltL.cons (.same _ rfl) AltL.nil))
 ·try simp at c14
  obtain ⟨h0, hd, hor⟩ := askE_ok c14
  obtain ⟨c, hg⟩ := hor.resolve_right (fun h => by cases h.2)
  have hfr : froL s l id = froI s l id := by unfold froL; rw [if_pos c14]
  refine .skip ?_
  refine .seq ?_
  refine .regionL [0,1,2,3,4,5] rfl zz0 ?_
  refine .rn [0,1,2] [3,4,5] ?_
  refine .step rfl rfl (.pure rfl rfl rfl Tryz.call143 (by decide) (p143 s l m id c h0 hd hg) (by first | rfl | simp [*]) ?_)
  rintro _ rfl
  refine .rn [4,5] [] ?_
  refine .done ?_
  refine .ret ?_
  refine ⟨_, _, zz4,zz4, ?_⟩
  rw [hfr, c14]
  exact soft_rfl rfl
theorem p71' (s : List Wit) (l : List Int) (m id : Int) (hl : s.length < 65536) (hlL : l.length < 4611686018427387904) : VPure Tryz.prog 71 [encS s, .agg [ints l, .int .i64 m], .int .i64 id] fun r => r = .tup [ints (froL s l id), .int .i64 (askE s l id false)] := VPure.soft (p71 s l m id hl hlL) rfl
end Go.Am.Ds
end
section
namespace Go.Am.Ds
open Go Go.Am Go.Proofs
set_option maxRecDepth 100000
set_option maxHeartbeats 4000000
set_option linter.unusedSimpArgs false
set_option linter.unusedVariables false
attribute [local simp] vrun vwanted vyielded vop vopA vputAll VHeap.back hidI hidF backL bm Nat.testBit_eq_decide_div_mod_eq veval vevals vparts vO vbuiltin vlen vappend velems vcopy vmakeSlice vbuildSlice valloc vbox vmakeMap vload vpartT vpart vstore vfieldAddr vfield vindexAddr vindex vextract vslice vsliceZ vbounds vbnd zeroO vidx vlookup vmget vmapUpdate vdelete vclear vnilq vnilp vnils vbin vsc vsc1 vscs vscl abinOp aint ashift aunOp aconvert amaxs amax2 pvcV pvc pvcs tput tget vargs VHeap.get VHeap.alloc VHeap.put VHeap.drop VHeap.empty vlook vput vdrop psplice pfill preps chunk List.range List.range.loop vresults vresult vresultV frz frzL PV.isF PV.allF PV.scal PV.allS retP subT allFT PV.one PV.ids PV.idsL dropL beq_eq ble_dec blt_dec
attribute [local simp] zW tup2
end Go.Am.Ds
end
section
namespace Go.Am.Ds
open Go Go.Am Go.Proofs
set_option maxRecDepth 100000
set_option maxHeartbeats 4000000
set_option linter.unusedSimpArgs false
set_option linter.unusedVariables false
attribute [local simp] vrun vwanted vyielded vop vopA vputAll VHeap.back hidI hidF backL bm Nat.testBit_eq_decide_div_mod_eq veval vevals vparts vO vbuiltin vlen vappend velems vcopy vmakeSlice vbuildSlice valloc vbox vmakeMap vload vpartT vpart vstore vfieldAddr vfield vindexAddr vindex vextract vslice vsliceZ vbounds vbnd zeroO vidx vlookup vmget vmapUpdate vdelete vclear vnilq vnilp vnils vbin vsc vsc1 vscs vscl abinOp aint ashift aunOp aconvert amaxs amax2 pvcV pvc pvcs tput tget vargs VHeap.get VHeap.alloc VHeap.put VHeap.drop VHeap.empty vlook vput vdrop psplice pfill preps chunk List.range List.range.loop vresults vresult vresultV frz frzL PV.isF PV.allF PV.scal PV.allS retP subT allFT PV.one PV.ids PV.idsL dropL beq_eq ble_dec blt_dec
attribute [local simp] zW tup2
def orV (a b : Int) : Int := IntKind.u32.wrap ((BitVec.ofInt 32 a ||| BitVec.ofInt 32 b).toNat : Int)
def bitV (k : Nat) : Int := IntKind.u32.wrap (2 ^ min k 32)
@[local simp ↓ high] theorem aint_or32 (a b : Int) : aint .or .u32 a b = some (.int .u32 (orV a b)) := rfl
@[local simp ↓ high] theorem ashl32 (k : Nat) : ashift .shl .u32 1 (k : Int) = some (.int .u32 (bitV k)) := by
 unfold ashift bitV
 have h : ¬ ((k : Int) < 0) := by omega
 rw [decide_eq_false h, cond_false, Int.toNat_natCast, Int.one_mul]; rfl
end Go.Am.Ds
end
section
namespace Go.Am.Ds
open Go Go.Am Go.Proofs
def oldS (s : List Wit) (id : Int) : List Int := match getW s id with
 | some p => p.slips
 | none => []
def oldF (s : List Wit) (id : Int) (k : Nat) : List Int := (s.take k).foldl (fun o w => if w.id = id then w.slips else o) []
theorem oldF_succ (s : List Wit) (id : Int) (k : Nat) (h : k < s.length) : oldF s id (k + 1) = if s[k].id = id then s[k].slips else oldF s id k := by
 unfold oldF; rw [List.take_succ_eq_append_getElem h, List.foldl_append]; rfl
theorem oldF_all {s : List Wit} (h : (s.map Wit.id).Nodup) (id : Int) : oldF s id s.length = oldS s id := by
 have h1 : ∀ (l : List Wit) (o : List Int),(∀ w ∈ l, w.id ≠ id) → l.foldl (fun o w => if w.id = id then w.slips else o) o = o := by
  intro l
  induction l with
  | nil => intro o _; rfl
  | cons a r ih =>
   intro o h2
   rw [List.foldl_cons, if_neg (h2 a List.mem_cons_self)]
   exact ih o fun w hw => h2 w (List.mem_cons_of_mem _ hw)
 have : ∀ (l : List Wit),(l.map Wit.id).Nodup → ∀ o, l.foldl (fun o w => if w.id = id then w.slips else o) o = match getW l id with | some p => p.slips | none => o := by
  intro l
  induction l with
  | nil => intro _ o; rfl
  | cons a r ih =>
   intro hn o
   rw [List.map_cons, List.nodup_cons] at hn
   rw [List.foldl_cons]
   unfold getW
   rw [List.find?_cons]
   by_cases h2 : a.id = id
   ·rw [if_pos h2, decide_eq_true h2]
    exact h1 r _ fun w hw h3 => hn.1 (by rw [h2, ← h3]; exact List.mem_map_of_mem hw)
   ·rw [if_neg h2, decide_eq_false h2]
    exact ih hn.2 o
 unfold oldF
 rw [List.take_length, this s h]
 rfl
def freL (s : List Wit) (l : List Int) (id : Int) : List Int := l.filter fun n => !decide (n ∈ oldS s id)
end Go.Am.Ds
end
section
namespace Go.Am.Ds
open Go Go.Am Go.Proofs
set_option maxRecDepth 100000
set_option maxHeartbeats 4000000
set_option linter.unusedSimpArgs false
set_option linter.unusedVariables false
attribute [local simp] vrun vwanted vyielded vop vopA vputAll VHeap.back hidI hidF backL bm Nat.testBit_eq_decide_div_mod_eq veval vevals vparts vO vbuiltin vlen vappend velems vcopy vmakeSlice vbuildSlice valloc vbox vmakeMap vload vpartT vpart vstore vfieldAddr vfield vindexAddr vindex vextract vslice vsliceZ vbounds vbnd zeroO vidx vlookup vmget vmapUpdate vdelete vclear vnilq vnilp vnils vbin vsc vsc1 vscs vscl abinOp aint ashift aunOp aconvert amaxs amax2 pvcV pvc pvcs tput tget vargs VHeap.get VHeap.alloc VHeap.put VHeap.drop VHeap.empty vlook vput vdrop psplice pfill preps chunk List.range List.range.loop vresults vresult vresultV frz frzL PV.isF PV.allF PV.scal PV.allS retP subT allFT PV.one PV.ids PV.idsL dropL beq_eq ble_dec blt_dec
attribute [local simp] zW tup2
theorem p68 (s : List Wit) (l : List Int) (id : Int) (h : checkS s = 0) (hlL : l.length < 4294967296) : VPure Tryz.prog 68 [encS s, ints l, .int .i64 id] fun r => r = ints (freL s l id) := by
 have hl24 := (checkS_ok h).1
 have hold : (oldS s id).length < 4611686018427387904 := by
  unfold oldS
  cases hg : getW s id with
  | none => simp
  | some p => have := (checkS_lens h p (getW_mem hg).1).1; simp only; omega
 refine .of_body Tryz.func68 rfl rfl ?_
 refine .seq ?_
 refine .rn ?_
 refine .seq ?_
 refine .rn ?_
 refine .seq ?_
 refine .seq ?_
 refine .rn ?_
 refine .block ?_
 refine .loopS (fun k : Nat => ([(1, ints l),(2, .int .i64 id),(3, .ptr 0 0),(7, ints (oldF s id k)),(8, .int .i64 k)], ⟨1,[(0, .box [.vec (s.map encW)])]⟩)) (fun k => k ≤ s.length) (fun k => s.length - k) 0 (by simp) (.mk [] [] zz14 zz15 rfl rfl rfl) ?_
 rintro k hk
 simp only at hk ⊢
 refine .seq ?_
 refine .seq ?_
 refine .rn ?_
 refine .condS rfl (fun c15 => ?_) (fun c15 => ?_)
 ·try simp at c15
  have hw2 : IntKind.i64.wrap ((k : Int) + 1) = (k : Int) + 1 := wrap64 (by omega) (by omega)
  have hE : encW s[k] = .agg [.int .i64 s[k].id, .int .i64 s[k].known, ints s[k].slips, ints s[k].mended, ints s[k].models, .int .i64 s[k].lo, .int .i64 s[k].hi] := rfl
  have hS := oldF_succ s id k c15
  refine .skip ?_
  refine .seq ?_
  refine .block ?_
  refine .seq ?_
  refine .rn ?_
  refine .condS rfl (fun c25 => ?_) (fun c25 => ?_)
  ·try simp at c25
   rw [if_pos c25] at hS
   refine .rn ?_
   refine .rn ?_
   refine ⟨k + 1, c15,zz5,(.mk [] [] zz14 zz15 rfl rfl rfl)⟩
  ·try simp at c25
   rw [if_neg c25] at hS
   refine .skip ?_
   refine .rn ?_
   refine ⟨k + 1, c15,zz5,(.mk [] [] zz14 zz15 rfl rfl rfl)⟩
 ·try simp at c15
  have hk2 : k = s.length := by omega
  subst hk2
  have hall := oldF_all (checkS_nodup h) id
  refine .exit ?_
  refine .seq ?_
  refine .rn ?_
  refine .seq ?_
  refine .seq ?_
  refine .rn ?_
  refine .block ?_
  refine .loopS (fun i : Nat => ([(1, ints l),(7, ints (oldS s id)),(9, .grow 1 ((l.take i).filter fun n => !decide (n ∈ oldS s id)).length true),(10, .int .i64 i)], ⟨2,[(1, .grow 1 (((l.take i).filter fun n => !decide (n ∈ oldS s id)).map (.int .i64)))]⟩)) (fun i => i ≤ l.length) (fun i => l.length - i) 0 (by simp) (.mk [] [] zz14 zz15 rfl rfl rfl) ?_
  rintro i hi
  simp only at hi ⊢
  refine .seq ?_
  refine .seq ?_
  refine .rn ?_
  refine .condS rfl (fun c35 => ?_) (fun c35 => ?_)
  ·try simp at c35
   have hw2 : IntKind.i64.wrap ((i : Int) + 1) = (i : Int) + 1 := wrap64 (by omega) (by omega)
   have hT := take_succ_filt (fun n => !decide (n ∈ oldS s id)) l i c35
   have hle : ((l.take i).filter fun n => !decide (n ∈ oldS s id)).length ≤ i := Nat.le_trans (List.length_filter_le _ _) (by simp; omega)
   have hb : ((l.take i).filter fun n => !decide (n ∈ oldS s id)).length ≤ 4294967295 := by omega
   have hone : allOne [PV.int IntKind.i64 l[i]] = true := rfl
   refine .skip ?_
   refine .seq ?_
   refine .block ?_
   refine .seq ?_
   refine .regionL [0,1,2,3,4,5,6] rfl zz0 ?_
   refine .rn [0,1,2,3,4] [5,6] ?_
   refine .step rfl rfl (.pure rfl rfl rfl Tryz.call46 (by decide) (p46 (oldS s id) l[i] hold) (by first | rfl | simp [*]) ?_)
   rintro _ rfl
   refine .rn [6] [] ?_
   refine .done ?_
   refine .condS rfl (fun c44 => ?_) (fun c44 => ?_)
   ·try simp at c44
    rw [if_pos (by simp [c44])] at hT
    refine .rn ?_
    refine .rn ?_
    refine ⟨i + 1, c35,zz5,(.mk [] [(1,3)] zz14 zz15 rfl rfl rfl)⟩
   ·try simp at c44
    rw [if_neg (by simp [c44])] at hT
    refine .skip ?_
    refine .rn ?_
    refine ⟨i + 1, c35,zz5,(.mk [] [] zz14 zz15 rfl rfl rfl)⟩
  ·try simp at c35
   have hi2 : i = l.length := by omega
   subst hi2
   refine .exit ?_
   refine .seq ?_
   refine .rn ?_
   refine .ret ?_
   refine ⟨_, _, zz4,zz4, ?_⟩
   unfold freL; rfl
end Go.Am.Ds
end
section
namespace Go.Am.Ds
open Go Go.Am Go.Proofs
def meetI (s : List Wit) (l : List Int) (a b : Int) : Int := ((chI s l a).find? fun x => decide (x ∈ chI s l b)).getD 0
def meetE (s : List Wit) (l : List Int) (a b : Int) : Int := if checkS s = 0 then (if getW s a = none ∨ getW s b = none then 5 else askE s l a false) else checkS s
def meetR (s : List Wit) (l : List Int) (a b : Int) : Int := if meetE s l a b = 0 then meetI s l a b else 0
def aboB (s : List Wit) (l : List Int) (id up : Int) : Bool := decide (askE s l id false = 0) && (decide (up = 0) || (decide (up = id) || decide (up ∈ froL s l id)))
section
variable {s : List Wit} {l : List Int} (h : checkS s = 0) (hd : (desR s l).2 = true)
include h hd
theorem chI_find (p : Int → Bool) : ∀ n id c, rkI s id ≤ n → getW s id = some c → ∀ m, (chI s l id).find? p = some m → m ∈ chI s l id ∧ p m = true ∧ ∀ u ∈ chI s l id, p u = true → u ∈ chI s l m := by
 intro n
 induction n with
 | zero => intro id c h1 hg; have := rk_pos hg; omega
 | succ n ih =>
  intro id c h1 hg m hm
  have hst := chI_step h hd hg
  rw [hst, List.find?_cons] at hm
  cases hp : p id with
  | true =>
   rw [hp] at hm
   injection hm with hm
   subst hm
   exact ⟨by rw [hst]; exact List.mem_cons_self, hp, fun u hu _ => hu⟩
  | false =>
   rw [hp] at hm
   have h4 := rk_up h hd hg
   rcases up_some hd hg with h5 | ⟨q, h5, _⟩
   ·unfold froI at hm; rw [h5, chI_zero] at hm; cases hm
   ·obtain ⟨h6, h7, h8⟩ := ih _ q (by omega) h5 m hm
    refine ⟨by rw [hst]; exact List.mem_cons_of_mem _ h6, h7, fun u hu hpu => ?_⟩
    rw [hst] at hu
    rcases List.mem_cons.1 hu with rfl | hu
    ·rw [hp] at hpu; cases hpu
    ·exact h8 u hu hpu
theorem chI_anti {a b : Int} {c : Wit} (hg : getW s a = some c) (h1 : b ∈ chI s l a) (h2 : a ∈ chI s l b) : a = b := by
 obtain ⟨q, h3, h4⟩ := chI_mem h hd _ a c (Nat.le_refl _) hg b h1
 rcases h4 with h4 | h4
 ·exact h4.symm
 ·obtain ⟨q2, h5, h6⟩ := chI_mem h hd _ b q (Nat.le_refl _) h3 a h2
  rcases h6 with h6 | h6
  ·exact h6
  ·rw [hg] at h5; injection h5 with h5; subst h5
   have := wit_lohi h (getW_mem hg).1
   have := wit_lohi h (getW_mem h3).1
   omega
theorem chI_self {a : Int} {c : Wit} (hg : getW s a = some c) : a ∈ chI s l a := by rw [chI_step h hd hg]; exact List.mem_cons_self
theorem meet_spec {a b : Int} {c : Wit} (hg : getW s a = some c) : (meetI s l a b = 0 ∧ ∀ u ∈ chI s l a, u ∉ chI s l b) ∨ ((∃ q, getW s (meetI s l a b) = some q) ∧ meetI s l a b ≠ 0 ∧ meetI s l a b ∈ chI s l a ∧ meetI s l a b ∈ chI s l b ∧ ∀ u ∈ chI s l a, u ∈ chI s l b → u ∈ chI s l (meetI s l a b)) := by
 unfold meetI
 cases hf : (chI s l a).find? fun x => decide (x ∈ chI s l b) with
 | none =>
  refine .inl ⟨rfl, fun u hu h2 => ?_⟩
  have := List.find?_eq_none.1 hf u hu
  simp only [decide_eq_true_eq] at this
  exact this h2
 | some m =>
  obtain ⟨h1, h2, h3⟩ := chI_find h hd _ _ a c (Nat.le_refl _) hg m hf
  obtain ⟨q, h4, _⟩ := chI_mem h hd _ a c (Nat.le_refl _) hg m h1
  rw [Option.getD_some]
  refine .inr ⟨⟨q, h4⟩, fun h0 => ?_, h1, by simpa using h2, fun u hu h5 => h3 u hu (by simpa using h5)⟩
  rw [h0, getW_zero h] at h4; cases h4
theorem meet_sym {a b : Int} {c e : Wit} (hg : getW s a = some c) (hg2 : getW s b = some e) : meetI s l a b = meetI s l b a := by
 rcases meet_spec h hd (b := b) hg with ⟨h1, h2⟩ | ⟨⟨q, hq⟩, _, h3, h4, h5⟩
 ·rcases meet_spec h hd (b := a) hg2 with ⟨h6, _⟩ | ⟨_, _, h7, h8, _⟩
  ·rw [h1, h6]
  ·exact absurd h7 (h2 _ h8)
 ·rcases meet_spec h hd (b := a) hg2 with ⟨_, h6⟩ | ⟨_, _, h7, h8, h9⟩
  ·exact absurd h3 (h6 _ h4)
  ·exact chI_anti h hd hq (h5 _ h8 h7) (h9 _ h4 h3)
theorem aboB_of {id up : Int} {c : Wit} (hg : getW s id = some c) : aboB s l id up = decide (up = 0 ∨ up ∈ chI s l id) := by
 have ha : askE s l id false = 0 := askE_of h hd (.inl ⟨c, hg⟩)
 unfold aboB froL
 rw [if_pos ha, chI_step h hd hg, Bool.eq_iff_iff]
 simp only [ha, decide_true, Bool.true_and, Bool.or_eq_true, decide_eq_true_eq, List.mem_cons]
theorem slip_top (n : Int) : ∀ r id c, rkI s id ≤ r → getW s id = some c → n ∈ c.slips → ∃ t ∈ chI s l id, ∃ w, getW s t = some w ∧ n ∈ w.slips ∧ n ∉ oldS s (upI s l t) := by
 intro r
 induction r with
 | zero => intro id c h1 hg; have := rk_pos hg; omega
 | succ r ih =>
  intro id c h1 hg hn
  by_cases ho : n ∈ oldS s (upI s l id)
  ·have h4 := rk_up h hd hg
   rcases up_some hd hg with h5 | ⟨q, h5, _⟩
   ·unfold oldS at ho; rw [h5, getW_zero h] at ho; cases ho
   ·have ho2 : n ∈ q.slips := by unfold oldS at ho; rw [h5] at ho; exact ho
    obtain ⟨t, h6, h7⟩ := ih _ q (by omega) h5 ho2
    exact ⟨t, by rw [chI_step h hd hg]; exact List.mem_cons_of_mem _ h6, h7⟩
  ·exact ⟨id, chI_self h hd hg, c, hg, hn, ho⟩
end
theorem why_sub {c p : Wit} (h : (whyP c p).1 = 0) (hm : c.mended = []) : ∀ n ∈ p.slips, n ∈ c.slips := by
 unfold whyP at h
 split at h
 ·cases h
 ·split at h
  ·cases h
  ·split at h
   ·cases h
   ·rename_i h1
    intro n hn
    rcases idxF_ge (lackF c) p.slips 0 with ⟨_, h2⟩ | ⟨h2, _⟩
    ·have h3 := List.any_eq_false.1 h2 n hn
     unfold lackF at h3
     simp [mem_setK, hm] at h3
     exact h3
    ·omega
section
variable {s : List Wit} {l : List Int} (h : checkS s = 0) (hd : (desR s l).2 = true)
include h hd
theorem slip_down (hm : ∀ w ∈ s, w.mended = []) (n : Int) : ∀ r id c, rkI s id ≤ r → getW s id = some c → ∀ t ∈ chI s l id, ∀ w, getW s t = some w → n ∈ w.slips → n ∈ c.slips := by
 intro r
 induction r with
 | zero => intro id c h1 hg; have := rk_pos hg; omega
 | succ r ih =>
  intro id c h1 hg t ht w hw hn
  rw [chI_step h hd hg] at ht
  rcases List.mem_cons.1 ht with rfl | ht
  ·rw [hg] at hw; injection hw with hw; subst hw; exact hn
  ·have h4 := rk_up h hd hg
   rcases up_some hd hg with h5 | ⟨q, h5, h6⟩
   ·unfold froI at ht; rw [h5, chI_zero] at ht; cases ht
   ·exact why_sub h6 (hm c (getW_mem hg).1) n (ih _ q (by omega) h5 t ht w hw hn)
end
def arB (s : List Wit) (n : Int) (x : Wit × Int) : Bool := decide (n ∈ x.1.slips) && decide (n ∉ oldS s x.2)
def onceN (s : List Wit) (l : List Int) (n : Int) (k : Nat) : Nat := ((s.zip l).take k).countP (arB s n)
theorem onceN_succ (s : List Wit) (l : List Int) (n : Int) (k : Nat) (h : k < s.length) (h2 : k < l.length) : onceN s l n (k + 1) = onceN s l n k + if arB s n (s[k], l[k]) = true then 1 else 0 := by
 unfold onceN
 rw [List.take_succ_eq_append_getElem (by simp; omega), List.countP_append]
 congr 1
 simp [List.countP_cons]
theorem onceN_le (s : List Wit) (l : List Int) (n : Int) (k : Nat) : onceN s l n k ≤ k := by
 unfold onceN
 exact Nat.le_trans List.countP_le_length (by simp; omega)
theorem once_one {s : List Wit} {l : List Int} (h : checkS s = 0) (hd : (desR s l).2 = true) {n : Int} (ho : onceN s l n s.length = 1) {t1 t2 : Int} {w1 w2 : Wit} (h1 : getW s t1 = some w1) (h2 : n ∈ w1.slips) (h3 : n ∉ oldS s (upI s l t1)) (h4 : getW s t2 = some w2) (h5 : n ∈ w2.slips) (h6 : n ∉ oldS s (upI s l t2)) : t1 = t2 := by
 have hz : (s.zip l).take s.length = s.zip l := List.take_of_length_le (by simp; omega)
 unfold onceN at ho
 rw [hz, List.countP_eq_length_filter] at ho
 have key : ∀ t w, getW s t = some w → n ∈ w.slips → n ∉ oldS s (upI s l t) → (w, upI s l t) ∈ (s.zip l).filter (arB s n) := by
  intro t w hg hn hno
  obtain ⟨i, hi, hi2, _, hc, hu⟩ := up_at hd hg
  refine List.mem_filter.2 ⟨?_, by simp [arB, hn, hno]⟩
  have : (s.zip l)[i]'(by simp; omega) = (w, upI s l t) := by rw [List.getElem_zip, hc, hu]
  rw [← this]; exact List.getElem_mem _
 obtain ⟨z, hzz⟩ := List.length_eq_one_iff.1 ho
 have e1 := key t1 w1 h1 h2 h3
 have e2 := key t2 w2 h4 h5 h6
 rw [hzz, List.mem_singleton] at e1 e2
 have e3 : w1 = w2 := (congrArg Prod.fst e1).trans (congrArg Prod.fst e2).symm
 rw [← (getW_mem h1).2, ← (getW_mem h4).2, e3]
theorem meet_slip {s : List Wit} {l : List Int} (h : checkS s = 0) (hd : (desR s l).2 = true) (hm : ∀ w ∈ s, w.mended = []) {a b : Int} {x y : Wit} (ha : getW s a = some x) (hb : getW s b = some y) {n : Int} (hx : n ∈ x.slips) (hy : n ∈ y.slips) (ho : onceN s l n s.length = 1) : n ∈ oldS s (meetI s l a b) := by
 obtain ⟨t1, h1, w1, h2, h3, h4⟩ := slip_top h hd n _ a x (Nat.le_refl _) ha hx
 obtain ⟨t2, h5, w2, h6, h7, h8⟩ := slip_top h hd n _ b y (Nat.le_refl _) hb hy
 have e := once_one h hd ho h2 h3 h4 h6 h7 h8
 subst e
 rcases meet_spec h hd (b := b) ha with ⟨_, h9⟩ | ⟨⟨q, hq⟩, _, _, _, h9⟩
 ·exact absurd h5 (h9 _ h1)
 ·have := slip_down h hd hm n _ _ q (Nat.le_refl _) hq t1 (h9 _ h1 h5) w1 h2 h3
  unfold oldS; rw [hq]; exact this
theorem meets_end {s : List Wit} (h : chE s = 0) {x y o : Wit} (hx : x ∈ s) (hy : y ∈ s) (ho : o ∈ s) :
  meetE s (bestP s) x.id y.id = 0 ∧ meetE s (bestP s) y.id x.id = 0 ∧ meetR s (bestP s) x.id y.id = meetI s (bestP s) x.id y.id ∧ meetR s (bestP s) y.id x.id = meetI s (bestP s) x.id y.id ∧
  aboB s (bestP s) x.id (meetI s (bestP s) x.id y.id) = true ∧ aboB s (bestP s) y.id (meetI s (bestP s) x.id y.id) = true ∧
  (aboB s (bestP s) x.id o.id = true → aboB s (bestP s) y.id o.id = true → meetI s (bestP s) x.id y.id ≠ 0 ∧ aboB s (bestP s) (meetI s (bestP s) x.id y.id) o.id = true) := by
 obtain ⟨h0, _⟩ := chE_ok h
 have hd := des_best h
 have hgx := getW_own (checkS_nodup h0) hx
 have hgy := getW_own (checkS_nodup h0) hy
 have ho0 : o.id ≠ 0 := by have := checkS_pos h0 o ho; omega
 have e1 : ∀ {x y : Wit}, x ∈ s → y ∈ s → meetE s (bestP s) x.id y.id = 0 := by
  intro x y hx hy
  have h1 := getW_own (checkS_nodup h0) hx
  have h2 := getW_own (checkS_nodup h0) hy
  unfold meetE
  rw [if_pos h0, if_neg, askE_of h0 hd (.inl ⟨x, h1⟩)]
  rintro (h3 | h3)
  ·rw [h1] at h3; cases h3
  ·rw [h2] at h3; cases h3
 have e2 : ∀ {x y : Wit}, x ∈ s → y ∈ s → meetR s (bestP s) x.id y.id = meetI s (bestP s) x.id y.id := fun hx hy => by unfold meetR; rw [if_pos (e1 hx hy)]
 refine ⟨e1 hx hy, e1 hy hx, e2 hx hy, by rw [e2 hy hx]; exact meet_sym h0 hd hgy hgx, ?_, ?_, ?_⟩
 ·rw [aboB_of h0 hd hgx]
  rcases meet_spec h0 hd (b := y.id) hgx with ⟨h1, _⟩ | ⟨_, _, h1, _⟩
  ·exact decide_eq_true (.inl h1)
  ·exact decide_eq_true (.inr h1)
 ·rw [aboB_of h0 hd hgy]
  rcases meet_spec h0 hd (b := y.id) hgx with ⟨h1, _⟩ | ⟨_, _, _, h1, _⟩
  ·exact decide_eq_true (.inl h1)
  ·exact decide_eq_true (.inr h1)
 ·rw [aboB_of h0 hd hgx, aboB_of h0 hd hgy, decide_eq_true_eq, decide_eq_true_eq]
  intro h1 h2
  have h3 := h1.resolve_left ho0
  have h4 := h2.resolve_left ho0
  rcases meet_spec h0 hd (b := y.id) hgx with ⟨_, h5⟩ | ⟨⟨q, hq⟩, h6, _, _, h5⟩
  ·exact absurd h4 (h5 _ h3)
  ·exact ⟨h6, by rw [aboB_of h0 hd hq]; exact decide_eq_true (.inr (h5 _ h3 h4))⟩
theorem freL_one (s : List Wit) (n b : Int) : (freL s [n] b).length = if n ∈ oldS s b then 0 else 1 := by
 unfold freL
 by_cases h : n ∈ oldS s b <;> simp [h]
end Go.Am.Ds
end
section
namespace Go.Am.Ds
open Go Go.Am Go.Proofs
set_option maxRecDepth 100000
set_option maxHeartbeats 4000000
set_option linter.unusedSimpArgs false
set_option linter.unusedVariables false
attribute [local simp] vrun vwanted vyielded vop vopA vputAll VHeap.back hidI hidF backL bm Nat.testBit_eq_decide_div_mod_eq veval vevals vparts vO vbuiltin vlen vappend velems vcopy vmakeSlice vbuildSlice valloc vbox vmakeMap vload vpartT vpart vstore vfieldAddr vfield vindexAddr vindex vextract vslice vsliceZ vbounds vbnd zeroO vidx vlookup vmget vmapUpdate vdelete vclear vnilq vnilp vnils vbin vsc vsc1 vscs vscl abinOp aint ashift aunOp aconvert amaxs amax2 pvcV pvc pvcs tput tget vargs VHeap.get VHeap.alloc VHeap.put VHeap.drop VHeap.empty vlook vput vdrop psplice pfill preps chunk List.range List.range.loop vresults vresult vresultV frz frzL PV.isF PV.allF PV.scal PV.allS retP subT allFT PV.one PV.ids PV.idsL dropL beq_eq ble_dec blt_dec
attribute [local simp] zW tup2
theorem p77 (s : List Wit) (l : List Int) (m a b : Int) (hl : s.length < 65536) (hlL : l.length < 4611686018427387904) : VPure Tryz.prog 77 [encS s, .agg [ints l, .int .i64 m], .int .i64 a, .int .i64 b] fun r => r = .tup [.int .i64 (meetR s l a b), .int .i64 (meetE s l a b)] := by
 refine .of_body Tryz.func77 rfl rfl ?_
 refine .seq ?_
 refine .rn ?_
 refine .seq ?_
 refine .seq ?_
 refine .regionL [0,1,2] rfl zz0 ?_
 refine .rn [0] [1,2] ?_
 refine .step rfl rfl (.pure rfl rfl rfl Tryz.call35 (by decide) (p35 s (by omega)) (by first | rfl | simp [*]) ?_)
 rintro _ rfl
 refine .rn [2] [] ?_
 refine .done ?_
 refine .seq ?_
 refine .rn ?_
 refine .condS rfl (fun c18 => ?_) (fun c18 => ?_)
 ·try simp at c18
  refine .seq ?_
  refine .rn ?_
  refine .ret ?_
  refine ⟨_, _, zz4,zz4, ?_⟩
  have e1 : meetE s l a b = checkS s := by unfold meetE; rw [if_neg c18]
  rw [meetR, e1, if_neg c18]
 ·try simp at c18
  refine .skip ?_
  refine .seq ?_
  refine .seq ?_
  refine .regionL [0,1,2,3,4,5,6,7,8,9] rfl zz0 ?_
  refine .rn [0,1] [2,3,4,5,6,7,8,9] ?_
  refine .step rfl rfl (.pure rfl rfl rfl Tryz.call105 (by decide) (p105' s a (by omega)) (by first | rfl | simp [*]) ?_)
  rintro _ rfl
  refine .rn [3,4] [5,6,7,8,9] ?_
  refine .split (t := 24) rfl (fun c24 => ?_) (fun c24 => ?_)
  ·try rw [c24]
   try simp at c24
   have hn := getW_none c24
   refine .rn [5,6,7,8,9] [] ?_
   refine .done ?_
   refine .condT rfl ?_
   refine .seq ?_
   refine .rn ?_
   refine .ret ?_
   refine ⟨_, _, zz4,zz4, ?_⟩
   have e1 : meetE s l a b = 5 := by unfold meetE; rw [if_pos c18, if_pos (.inl hn)]
   rw [meetR, e1]; rfl
  ·try rw [c24]
   try simp at c24
   obtain ⟨i, hi, hie, hga⟩ := getW_some (show 0 ≤ findI s a by omega)
   refine .rn [5,6] [7,8,9] ?_
   refine .step rfl rfl (.pure rfl rfl rfl Tryz.call105 (by decide) (p105' s b (by omega)) (by first | rfl | simp [*]) ?_)
   rintro _ rfl
   refine .rn [8,9] [] ?_
   refine .done ?_
   refine .condS rfl (fun c29 => ?_) (fun c29 => ?_)
   ·try simp at c29
    have hn := getW_none c29
    refine .seq ?_
    refine .rn ?_
    refine .ret ?_
    refine ⟨_, _, zz4,zz4, ?_⟩
    have e1 : meetE s l a b = 5 := by unfold meetE; rw [if_pos c18, if_pos (.inr hn)]
    rw [meetR, e1]; rfl
   ·try simp at c29
    obtain ⟨j, hj, hje, hgb⟩ := getW_some (show 0 ≤ findI s b by omega)
    have hE : meetE s l a b = askE s l a false := by
     unfold meetE; rw [if_pos c18, if_neg]
     rintro (h3 | h3)
     ·rw [hga] at h3; cases h3
     ·rw [hgb] at h3; cases h3
    refine .skip ?_
    refine .seq ?_
    refine .seq ?_
    refine .regionL [0,1,2,3,4] rfl zz0 ?_
    refine .rn [0,1,2] [3,4] ?_
    refine .step rfl rfl (.pure rfl rfl rfl Tryz.call142 (by decide) (p142 s l m a false hl hlL) (by first | rfl | simp [*]) ?_)
    rintro _ rfl
    refine .rn [4] [] ?_
    refine .done ?_
    refine .seq ?_
    refine .rn ?_
    refine .condS rfl (fun c35 => ?_) (fun c35 => ?_)
    ·try simp at c35
     refine .seq ?_
     refine .rn ?_
     refine .ret ?_
     refine ⟨_, _, zz4,zz4, ?_⟩
     rw [meetR, hE, if_neg c35]
    ·try simp at c35
     obtain ⟨h0, hd, _⟩ := askE_ok c35
     have hE0 : meetE s l a b = 0 := by rw [hE, c35]
     have hR : meetR s l a b = meetI s l a b := by unfold meetR; rw [if_pos hE0]
     have hsa := chI_step h0 hd hga
     have hsb := chI_step h0 hd hgb
     have hla := chI_len h0 hd a
     have hlb := chI_len h0 hd b
     have hl24 := (checkS_ok h0).1
     have hfa : (froI s l a).length ≤ 24 := by rw [hsa, List.length_cons] at hla; omega
     have hfb : (froI s l b).length ≤ 24 := by rw [hsb, List.length_cons] at hlb; omega
     have hb1 : (froI s l a).length ≤ 4294967295 := by omega
     have hb2 : (froI s l b).length ≤ 4294967295 := by omega
     have hc1 : 1 + (froI s l a).length = (froI s l a).length + 1 := Nat.add_comm _ _
     have hc2 : 1 + (froI s l b).length = (froI s l b).length + 1 := Nat.add_comm _ _
     refine .skip ?_
     refine .seq ?_
     refine .regionL [0,1,2,3,4,5,6,7] rfl zz0 ?_
     refine .rn [0,1,2,3,4] [5,6,7] ?_
     refine .step rfl rfl (.pure rfl rfl rfl Tryz.call143 (by decide) (p143 s l m b s[j] h0 hd hgb) (by first | rfl | simp [*]) ?_)
     rintro _ rfl
     refine .rn [6,7] [] ?_
     refine .done ?_
     refine .seq ?_
     refine .seq ?_
     refine .regionL [0,1,2,3,4,5,6,7,8] rfl zz0 ?_
     refine .rn [0,1,2,3,4] [5,6,7,8] ?_
     refine .step rfl rfl (.pure rfl rfl rfl Tryz.call143 (by decide) (p143 s l m a s[i] h0 hd hga) (by first | rfl | simp [*]) ?_)
     rintro _ rfl
     refine .rn [6,7,8] [] ?_
     refine .done ?_
     refine .block ?_
     refine .loopS (fun k : Nat => ([(12, ints (b :: froI s l b)),(50, ints (a :: froI s l a)),(51, .int .i64 (a :: froI s l a).length),(52, .int .i64 k)], ⟨6,[]⟩)) (fun k => k ≤ (a :: froI s l a).length ∧ (a :: froI s l a).find? (fun x => decide (x ∈ (b :: froI s l b))) = ((a :: froI s l a).drop k).find? (fun x => decide (x ∈ (b :: froI s l b)))) (fun k => (a :: froI s l a).length - k) 0 (by simp) (.mk [3,5] [] zz14 zz15 rfl rfl rfl) ?_
     rintro k ⟨hk, hf⟩
     simp only at hk hf ⊢
     have hmi : meetI s l a b = ((a :: froI s l a).find? (fun x => decide (x ∈ (b :: froI s l b)))).getD 0 := by unfold meetI; rw [hsa, hsb]
     generalize hA : a :: froI s l a = A at hk hf hmi ⊢
     generalize hB : b :: froI s l b = B at hf hmi ⊢
     have hAl : A.length ≤ 24 := by rw [← hA, ← hsa]; omega
     have hBl : B.length ≤ 24 := by rw [← hB, ← hsb]; omega
     clear hA hB
     refine .seq ?_
     refine .rn ?_
     refine .seq ?_
     refine .condS rfl (fun c53 => ?_) (fun c53 => ?_)
     ·try simp at c53
      have hw2 : IntKind.i64.wrap ((k : Int) + 1) = (k : Int) + 1 := wrap64 (by omega) (by omega)
      rw [List.drop_eq_getElem_cons c53, List.find?_cons] at hf
      refine .skip ?_
      refine .seq ?_
      refine .block ?_
      refine .seq ?_
      refine .rn ?_
      refine .seq ?_
      refine .regionL [0,1,2] rfl zz0 ?_
      refine .rn [0,1] [2] ?_
      refine .step rfl rfl (.pure rfl rfl rfl Tryz.call144 (by decide) (p144d B A[k] (by omega)) (by first | rfl | simp [*]) ?_)
      rintro _ rfl
      refine .done ?_
      refine .condS rfl (fun c58 => ?_) (fun c58 => ?_)
      ·try simp at c58
       rw [decide_eq_true c58] at hf
       refine .seq ?_
       refine .rn ?_
       refine .ret ?_
       refine ⟨_, _, zz4,zz4, ?_⟩
       rw [hR, hE0, hmi, hf]; rfl
      ·try simp at c58
       rw [decide_eq_false c58] at hf
       refine .skip ?_
       refine .rn ?_
       refine ⟨k + 1, ⟨c53, hf⟩, zz5,(.mk [] [] zz14 zz15 rfl rfl rfl)⟩
     ·try simp at c53
      have hk2 : k = A.length := by omega
      rw [hk2, List.drop_length] at hf
      refine .exit ?_
      refine .seq ?_
      refine .rn ?_
      refine .ret ?_
      refine ⟨_, _, zz4,zz4, ?_⟩
      rw [hR, hE0, hmi, hf]; rfl
theorem p78 (s : List Wit) (l : List Int) (m id up : Int) (hl : s.length < 65536) (hlL : l.length < 4611686018427387904) : VPure Tryz.prog 78 [encS s, .agg [ints l, .int .i64 m], .int .i64 id, .int .i64 up] fun r => r = .bool (aboB s l id up) := by
 refine .of_body Tryz.func78 rfl rfl ?_
 refine .seq ?_
 refine .rn ?_
 refine .seq ?_
 refine .regionL [0,1,2,3,4,5,6,7,8] rfl zz0 ?_
 refine .rn [0,1,2] [3,4,5,6,7,8] ?_
 refine .step rfl rfl (.pure rfl rfl rfl Tryz.call71 (by decide) (p71' s l m id hl hlL) (by first | rfl | simp [*]) ?_)
 rintro _ rfl
 refine .rn [4,5,6,7,8] [] ?_
 refine .done ?_
 refine .seq ?_
 refine .regionL [0,1,2,3,4,5,6,7,8,9,10,11,12,13,14,15,16] rfl zz0 ?_
 refine .rn [0,1,2] [3,4,5,6,7,8,9,10,11,12,13,14,15,16] ?_
 refine .split (t := 20) rfl (fun c20 => ?_) (fun c20 => ?_)
 ·try rw [c20]
  try simp at c20
  refine .rn [3,4,5] [6,7,8,9,10,11,12,13,14,15,16] ?_
  refine .split (t := 23) rfl (fun c23 => ?_) (fun c23 => ?_)
  ·try rw [c23]
   try simp at c23
   refine .rn [6,7,8,9,10,11,12,13,14,15,16] [] ?_
   refine .done ?_
   refine .ret ?_
   refine ⟨_, _, zz4,zz4, ?_⟩
   simp [aboB, *]
  ·try rw [c23]
   try simp at c23
   refine .rn [6,7,8,9,10] [11,12,13,14,15,16] ?_
   refine .split (t := 28) rfl (fun c28 => ?_) (fun c28 => ?_)
   ·try rw [c28]
    try simp at c28
    refine .rn [11,12,13,14,15,16] [] ?_
    refine .done ?_
    refine .ret ?_
    refine ⟨_, _, zz4,zz4, ?_⟩
    simp [aboB, *]
   ·try rw [c28]
    try simp at c28
    refine .rn [11,12] [13,14,15,16] ?_
    refine .step rfl rfl (.pure rfl rfl rfl Tryz.call46 (by decide) (p46 (froL s l id) up (by have := froL_len (s := s) l id; omega)) (by first | rfl | simp [*]) ?_)
    rintro _ rfl
    refine .rn [14,15,16] [] ?_
    refine .done ?_
    refine .ret ?_
    refine ⟨_, _, zz4,zz4, ?_⟩
    simp [aboB, *]
 ·try rw [c20]
  try simp at c20
  refine .rn [3,4,5,6,7,8,9,10,11,12,13,14,15,16] [] ?_
  refine .done ?_
  refine .ret ?_
  refine ⟨_, _, zz4,zz4, ?_⟩
  simp [aboB, *]
theorem p79 (s : List Wit) (l : List Int) (m n : Int) (h : checkS s = 0) (he : l.length = s.length) : VPure Tryz.prog 79 [encS s, .agg [ints l, .int .i64 m], .int .i64 n] fun r => r = .bool (decide (onceN s l n s.length = 1)) := by
 have hl24 := (checkS_ok h).1
 refine .of_body Tryz.func79 rfl rfl ?_
 refine .seq ?_
 refine .rn ?_
 refine .seq ?_
 refine .rn ?_
 refine .seq ?_
 refine .seq ?_
 refine .rn ?_
 refine .block ?_
 refine .loopS (fun k : Nat => ([(2, .int .i64 n),(3, .ptr 0 0),(4, .ptr 1 0),(7, .int .i64 (onceN s l n k)),(8, .int .i64 k)], ⟨2,[(1, .box [ints l, .int .i64 m]),(0, .box [.vec (s.map encW)])]⟩)) (fun k => k ≤ s.length) (fun k => s.length - k) 0 (by simp) (.mk [] [] zz14 zz15 rfl rfl rfl) ?_
 rintro k hk
 simp only at hk ⊢
 have hle := onceN_le s l n k
 refine .seq ?_
 refine .seq ?_
 refine .regionL [0,1,2,3,4,5,6,7,8,9,10,11] rfl zz0 ?_
 refine .rn [0,1,2,3,4,5] [6,7,8,9,10,11] ?_
 refine .split (t := 14) rfl (fun c14 => ?_) (fun c14 => ?_)
 ·try rw [c14]
  try simp at c14
  refine .rn [6,7,8,9,10,11] [] ?_
  refine .done ?_
  refine .condS rfl (fun c20 => ?_) (fun c20 => ?_)
  ·try simp at c20
   have hw2 : IntKind.i64.wrap ((k : Int) + 1) = (k : Int) + 1 := wrap64 (by omega) (by omega)
   have hkl : k < l.length := by omega
   have hE : encW s[k] = .agg [.int .i64 s[k].id, .int .i64 s[k].known, ints s[k].slips, ints s[k].mended, ints s[k].models, .int .i64 s[k].lo, .int .i64 s[k].hi] := rfl
   have hS := onceN_succ s l n k c14 hkl
   have hsl := (checkS_lens h s[k] (List.getElem_mem c14)).1
   have hF := freL_one s n l[k]
   have hw3 : IntKind.i64.wrap ((onceN s l n k : Int) + 1) = (onceN s l n k : Int) + 1 := wrap64 (by omega) (by omega)
   refine .skip ?_
   refine .seq ?_
   refine .block ?_
   refine .seq ?_
   refine .drawn (ms := [0,1,0,7,15,31,0,127,255,511,511,1535,511,4607,511,29183,61951,131071,262143,524287,1048575]) (W := [7,11,17]) (items := [.op 0, .op 1, .op 2, .op 3, .op 4, .op 5, .op 6, .op 7, .op 8, .op 9, .op 10, .op 12, .op 13, .op 14, .op 15, .op 16, .op 11, .ck 16, .ck 13, .ck 9, .op 17, .op 18, .op 19, .op 20]) rfl zz0 zz0 zz0 ?_
   refine .rx ?_
   refine .rx ?_
   refine .rx ?_
   refine .rx ?_
   refine .rx ?_
   refine .rx ?_
   refine .rx ?_
   refine .wr rfl rfl (by decide) (.pure rfl rfl rfl Tryz.call46 (by decide) (p46 s[k].slips n (by omega)) (by first | rfl | simp [*]) ?_)
   rintro _ rfl
   refine .rx ?_
   refine .split (t := 31) rfl (fun c31 => ?_) (fun c31 => ?_)
   ·try rw [c31]
    try simp at c31
    refine .rx ?_
    refine .rx ?_
    refine .rx ?_
    refine .rx ?_
    refine .rx ?_
    refine .rx ?_
    refine .rx ?_
    refine .wr rfl rfl (by decide) (.vop zz1 (by decide) ?_)
    refine .ck rfl zz0 ?_
    refine .ck rfl zz0 ?_
    refine .ck rfl zz0 ?_
    refine .wr rfl rfl (by decide) (.take rfl rfl rfl Tryz.call68 (by decide) (by first | (simp <;> rfl) | (simp [*] <;> rfl) | (simp [*]; done)) (p68 s [n] l[k] h (by simp)) ?_)
    rintro _ rfl
    refine .rx ?_
    refine .rx ?_
    refine .rx ?_
    refine .done ?_
    refine .condS rfl (fun c43 => ?_) (fun c43 => ?_)
    ·try simp at c43
     have hno : n ∉ oldS s l[k] := by
      intro h2; simp [h2] at c43
     have hB : arB s n (s[k], l[k]) = true := by simp [arB, c31, hno]
     rw [if_pos hB] at hS
     refine .rn ?_
     refine .rn ?_
     refine ⟨k + 1, c14,zz5,(.mk [] [] zz14 zz15 rfl rfl rfl)⟩
    ·try simp at c43
     have hno : n ∈ oldS s l[k] := c43
     have hB : ¬ arB s n (s[k], l[k]) = true := by simp [arB, hno]
     rw [if_neg hB] at hS
     refine .skip ?_
     refine .rn ?_
     refine ⟨k + 1, c14,zz5,(.mk [] [] zz14 zz15 rfl rfl rfl)⟩
   ·try rw [c31]
    try simp at c31
    have hB : ¬ arB s n (s[k], l[k]) = true := by simp [arB, c31]
    rw [if_neg hB] at hS
    refine .un rfl rfl (by decide) ?_
    refine .un rfl rfl (by decide) ?_
    refine .un rfl rfl (by decide) ?_
    refine .un rfl rfl (by decide) ?_
    refine .un rfl rfl (by decide) ?_
    refine .un rfl rfl (by decide) ?_
    refine .un rfl rfl (by decide) ?_
    refine .un rfl rfl (by decide) ?_
    refine .ckU rfl rfl rfl ?_
    refine .ckU rfl rfl rfl ?_
    refine .ckU rfl rfl rfl ?_
    refine .un rfl rfl (by decide) ?_
    refine .un rfl rfl (by decide) ?_
    refine .un rfl rfl (by decide) ?_
    refine .rx ?_
    refine .done ?_
    refine .condF rfl ?_
    refine .skip ?_
    refine .rn ?_
    refine ⟨k + 1, c14,zz5,(.mk [] [] zz14 zz15 rfl rfl rfl)⟩
  ·try simp at c20
 ·try rw [c14]
  try simp at c14
  have hk2 : k = s.length := by omega
  subst hk2
  have hQ : (((onceN s l n s.length : Nat) : Int) == 1) = decide (onceN s l n s.length = 1) := by rw [Bool.eq_iff_iff]; simp; omega
  refine .rn [6,7,8,9,10,11] [] ?_
  refine .done ?_
  refine .condF rfl ?_
  refine .exit ?_
  refine .seq ?_
  refine .rn ?_
  refine .ret ?_
  refine ⟨_, _, zz4,zz4, ?_⟩
  first | rfl | (simp [*]; done) | (simp_all; done)
end Go.Am.Ds
end
section
namespace Go.Am.Ds
open Go Go.Am Go.Proofs
set_option maxRecDepth 100000
set_option maxHeartbeats 4000000
set_option linter.unusedSimpArgs false
set_option linter.unusedVariables false
attribute [local simp] vrun vwanted vyielded vop vopA vputAll VHeap.back hidI hidF backL bm Nat.testBit_eq_decide_div_mod_eq veval vevals vparts vO vbuiltin vlen vappend velems vcopy vmakeSlice vbuildSlice valloc vbox vmakeMap vload vpartT vpart vstore vfieldAddr vfield vindexAddr vindex vextract vslice vsliceZ vbounds vbnd zeroO vidx vlookup vmget vmapUpdate vdelete vclear vnilq vnilp vnils vbin vsc vsc1 vscs vscl abinOp aint ashift aunOp aconvert amaxs amax2 pvcV pvc pvcs tput tget vargs VHeap.get VHeap.alloc VHeap.put VHeap.drop VHeap.empty vlook vput vdrop psplice pfill preps chunk List.range List.range.loop vresults vresult vresultV frz frzL PV.isF PV.allF PV.scal PV.allS retP subT allFT PV.one PV.ids PV.idsL dropL beq_eq ble_dec blt_dec
attribute [local simp] zW tup2
set_option maxHeartbeats 40000000
theorem p17 (s : List Wit) (a b c : Int) (ha : 0 ≤ a ∧ a ≤ 255) (hb : 0 ≤ b ∧ b ≤ 255) (hc : 0 ≤ c ∧ c ≤ 255) (hl : s.length < 4611686018427387904) (sanB : Bool) (hsan : VPure Tryz.prog 22 [] fun r => r = .bool sanB) (hsb : sanB = true) : VPure Tryz.prog 17 [encS s, .int .u8 a, .int .u8 b, .int .u8 c] fun r => r = .bool true := by
 refine .of_body Tryz.func17 rfl rfl ?_
 refine .seq ?_
 refine .rn ?_
 refine .seq ?_
 refine .seq ?_
 refine .regionL [0,1,2,3,4,5,6,7,8] rfl zz0 ?_
 refine .rn [0] [1,2,3,4,5,6,7,8] ?_
 refine .step rfl rfl (.pure rfl rfl rfl Tryz.call21 (by decide) (p21 s hl) (by first | rfl | simp [*]) ?_)
 rintro _ rfl
 refine .rn [2,3] [4,5,6,7,8] ?_
 refine .split (t := 24) rfl (fun c24 => ?_) (fun c24 => ?_)
 ·first | cases c24 | try rw [c24]
  try simp at c24
  refine .rn [4,5,6,7,8] [] ?_
  refine .done ?_
  refine .condT rfl ?_
  refine .seq ?_
  refine .regionL [0,1] rfl zz0 ?_
  refine .step rfl rfl (.pure rfl rfl rfl Tryz.call22 (by decide) (hsan) (by first | rfl | simp [*]) ?_)
  rintro _ rfl
  refine .rn [1] [] ?_
  refine .done ?_
  refine .ret ?_
  refine ⟨_, _, zz4,zz4, ?_⟩
  first | rfl | (simp [*]; done) | (simp_all; done)
 ·first | cases c24 | try rw [c24]
  try simp at c24
  have hl2 := smallS_len c24
  obtain ⟨bn, hbn⟩ : ∃ x, bestS s (chL s).length = x := ⟨_, rfl⟩
  obtain ⟨bp, hbp⟩ : ∃ x, bestP s = x := ⟨_, rfl⟩
  obtain ⟨ce, hce⟩ : ∃ x, chE s = x := ⟨_, rfl⟩
  have q63 := p63' s (by omega)
  rw [hbn, hbp, hce] at q63
  refine .rn [4,5,6,7,8] [] ?_
  refine .done ?_
  refine .condS rfl (fun c29 => ?_) (fun c29 => ?_)
  ·try simp at c29
   refine .seq ?_
   refine .regionL [0,1] rfl zz0 ?_
   refine .step rfl rfl (.pure rfl rfl rfl Tryz.call22 (by decide) (hsan) (by first | rfl | simp [*]) ?_)
   rintro _ rfl
   refine .rn [1] [] ?_
   refine .done ?_
   refine .ret ?_
   refine ⟨_, _, zz4,zz4, ?_⟩
   first | rfl | (simp [*]; done) | (simp_all; done)
  ·try simp at c29
   refine .skip ?_
   refine .seq ?_
   refine .regionL [0,1,2,3,4,5,6,7] rfl zz0 ?_
   refine .rn [0] [1,2,3,4,5,6,7] ?_
   refine .step rfl rfl (.pure rfl rfl rfl Tryz.call63 (by decide) (q63) (by first | rfl | simp [*]) ?_)
   rintro _ rfl
   refine .rn [2,3,4,5,6,7] [] ?_
   refine .done ?_
   refine .seq ?_
   refine .seq ?_
   refine .rn ?_
   refine .condS rfl (fun c37 => ?_) (fun c37 => ?_)
   ·try simp at c37
    refine .seq ?_
    refine .regionL [0,1] rfl zz0 ?_
    refine .step rfl rfl (.pure rfl rfl rfl Tryz.call22 (by decide) (hsan) (by first | rfl | simp [*]) ?_)
    rintro _ rfl
    refine .rn [1] [] ?_
    refine .done ?_
    refine .ret ?_
    refine ⟨_, _, zz4,zz4, ?_⟩
    first | rfl | (simp [*]; done) | (simp_all; done)
   ·try simp at c37
    have c37x : chE s = 0 := hce.trans c37
    clear q63
    have hwa : IntKind.i64.wrap a = a := wrap64 (by omega) (by omega)
    have hwb : IntKind.i64.wrap b = b := wrap64 (by omega) (by omega)
    have hwc : IntKind.i64.wrap c = c := wrap64 (by omega) (by omega)
    have hsl : 0 < s.length := List.length_pos_iff.2 c29
    obtain ⟨i, hi, hia⟩ : ∃ i : Nat, i < s.length ∧ a.tmod (s.length : Int) = (i : Int) := by
     have h1 := Int.tmod_nonneg (s.length : Int) ha.1
     have h2 := Int.tmod_lt_of_pos a (show (0 : Int) < (s.length : Int) by omega)
     exact ⟨(a.tmod s.length).toNat, by omega, by omega⟩
    obtain ⟨j, hj, hjb⟩ : ∃ j : Nat, j < s.length ∧ b.tmod (s.length : Int) = (j : Int) := by
     have h1 := Int.tmod_nonneg (s.length : Int) hb.1
     have h2 := Int.tmod_lt_of_pos b (show (0 : Int) < (s.length : Int) by omega)
     exact ⟨(b.tmod s.length).toNat, by omega, by omega⟩
    obtain ⟨o, ho, hoc⟩ : ∃ i : Nat, i < s.length ∧ c.tmod (s.length : Int) = (i : Int) := by
     have h1 := Int.tmod_nonneg (s.length : Int) hc.1
     have h2 := Int.tmod_lt_of_pos c (show (0 : Int) < (s.length : Int) by omega)
     exact ⟨(c.tmod s.length).toNat, by omega, by omega⟩
    have hEi : encW s[i] = .agg [.int .i64 s[i].id, .int .i64 s[i].known, ints s[i].slips, ints s[i].mended, ints s[i].models, .int .i64 s[i].lo, .int .i64 s[i].hi] := rfl
    have hEj : encW s[j] = .agg [.int .i64 s[j].id, .int .i64 s[j].known, ints s[j].slips, ints s[j].mended, ints s[j].models, .int .i64 s[j].lo, .int .i64 s[j].hi] := rfl
    have hEo : encW s[o] = .agg [.int .i64 s[o].id, .int .i64 s[o].known, ints s[o].slips, ints s[o].mended, ints s[o].models, .int .i64 s[o].lo, .int .i64 s[o].hi] := rfl
    have h0 := (chE_ok c37x).1
    have hbl : bp.length = s.length := by rw [← hbp]; simp [bestP]; exact chL_len c37x
    have hsi := (witE_len ((checkS_ok h0).2 s[i] (List.getElem_mem hi))).1
    have hsj := (witE_len ((checkS_ok h0).2 s[j] (List.getElem_mem hj))).1
    have kk := meets_end c37x (List.getElem_mem hi) (List.getElem_mem hj) (List.getElem_mem ho)
    have k8 : (∀ w ∈ s, w.mended = []) → ∀ n, n ∈ s[i].slips → n ∈ s[j].slips → onceN s (bestP s) n s.length = 1 → n ∈ oldS s (meetI s (bestP s) s[i].id s[j].id) := fun hm n h1 h2 h3 => meet_slip h0 (des_best c37x) hm (getW_own (checkS_nodup h0) (List.getElem_mem hi)) (getW_own (checkS_nodup h0) (List.getElem_mem hj)) h1 h2 h3
    rw [hbp] at kk
    simp only [hbp] at k8
    obtain ⟨k1, k2, k3, k4, k5, k6, k7⟩ := kk
    have q77a := p77 s bp bn s[i].id s[j].id (by omega) (by omega)
    have q77b := p77 s bp bn s[j].id s[i].id (by omega) (by omega)
    rw [k1, k3] at q77a
    rw [k2, k4] at q77b
    have q78 := fun x y => p78 s bp bn x y (by omega) (by omega)
    have q78a := q78 s[i].id (meetI s bp s[i].id s[j].id)
    have q78b := q78 s[j].id (meetI s bp s[i].id s[j].id)
    have q78c := q78 s[i].id s[o].id
    have q78d := q78 s[j].id s[o].id
    have q78e := q78 (meetI s bp s[i].id s[j].id) s[o].id
    rw [k5] at q78a
    rw [k6] at q78b
    have q79 := fun n => p79 s bp bn n h0 hbl
    obtain ⟨n, hn⟩ : ∃ x, meetI s bp s[i].id s[j].id = x := ⟨_, rfl⟩
    obtain ⟨A, hA⟩ : ∃ x, aboB s bp s[i].id s[o].id = x := ⟨_, rfl⟩
    obtain ⟨B, hB⟩ : ∃ x, aboB s bp s[j].id s[o].id = x := ⟨_, rfl⟩
    rw [hn] at q77a q77b q78a q78b q78e k7 k8
    rw [hA] at q78c k7
    rw [hB] at q78d k7
    obtain ⟨E, hE⟩ : ∃ x, aboB s bp n s[o].id = x := ⟨_, rfl⟩
    rw [hE] at q78e k7
    have k9 : ∀ x, ∃ ob : Bool, (ob = true → onceN s bp x s.length = 1) ∧ VPure Tryz.prog 79 [encS s, .agg [ints bp, .int .i64 bn], .int .i64 x] fun r => r = .bool ob := fun x => ⟨_, of_decide_eq_true, q79 x⟩
    clear hn hA hB hE k1 k2 k3 k4 k5 k6 q78 q79 hbn hbp hce c37x
    refine .skip ?_
    refine .seq ?_
    refine .drawn (ms := [0,1,0,4,0,16,48,124,255,511,0,2047]) (W := [10,11]) (items := [.op 0, .op 1, .op 2, .op 3, .op 4, .op 5, .op 6, .op 7, .op 8, .op 9, .op 10, .ck 9, .ck 6, .ck 5, .ck 1, .op 11]) rfl zz0 zz0 zz0 ?_
    refine .rx ?_
    refine .rx ?_
    refine .rx ?_
    refine .rx ?_
    refine .rx ?_
    refine .rx ?_
    refine .rx ?_
    refine .rx ?_
    refine .rx ?_
    refine .rx ?_
    refine .wr rfl rfl (by decide) (.vop zz1 (by decide) ?_)
    refine .ck rfl zz0 ?_
    refine .ck rfl zz0 ?_
    refine .ck rfl zz0 ?_
    refine .ck rfl zz0 ?_
    refine .wr rfl rfl (by decide) (.vop zz1 (by decide) ?_)
    refine .done ?_
    refine .seq ?_
    refine .drawn (ms := [0,1,0,4,0,16,48,124,255,511,0,2047]) (W := [10,11]) (items := [.op 0, .op 1, .op 2, .op 3, .op 4, .op 5, .op 6, .op 7, .op 8, .op 9, .op 10, .ck 9, .ck 6, .ck 5, .ck 1, .op 11]) rfl zz0 zz0 zz0 ?_
    refine .rx ?_
    refine .rx ?_
    refine .rx ?_
    refine .rx ?_
    refine .rx ?_
    refine .rx ?_
    refine .rx ?_
    refine .rx ?_
    refine .rx ?_
    refine .rx ?_
    refine .wr rfl rfl (by decide) (.vop zz1 (by decide) ?_)
    refine .ck rfl zz0 ?_
    refine .ck rfl zz0 ?_
    refine .ck rfl zz0 ?_
    refine .ck rfl zz0 ?_
    refine .wr rfl rfl (by decide) (.vop zz1 (by decide) ?_)
    refine .done ?_
    refine .seq ?_
    refine .drawn (ms := [0,1,0,4,0,16,48,124,255,511,1023,2047]) (W := []) (items := [.op 0, .op 1, .op 2, .op 3, .op 4, .op 5, .op 6, .op 7, .op 8, .op 9, .op 10, .op 11]) rfl zz0 zz0 zz0 ?_
    refine .rx ?_
    refine .rx ?_
    refine .rx ?_
    refine .rx ?_
    refine .rx ?_
    refine .rx ?_
    refine .rx ?_
    refine .rx ?_
    refine .rx ?_
    refine .rx ?_
    refine .rx ?_
    refine .rx ?_
    refine .done ?_
    refine .seq ?_
    refine .regionL [0,1,2,3,4,5,6,7,8,9,10,11] rfl zz0 ?_
    refine .rn [0,1,2,3,4,5] [6,7,8,9,10,11] ?_
    refine .step rfl rfl (.pure rfl rfl rfl Tryz.call77 (by decide) (q77a) (by first | rfl | simp [*]) ?_)
    rintro _ rfl
    refine .rn [7,8,9,10,11] [] ?_
    refine .done ?_
    refine .seq ?_
    refine .regionL [0,1,2,3,4,5,6,7,8,9,10,11] rfl zz0 ?_
    refine .rn [0,1,2,3,4,5] [6,7,8,9,10,11] ?_
    refine .step rfl rfl (.pure rfl rfl rfl Tryz.call77 (by decide) (q77b) (by first | rfl | simp [*]) ?_)
    rintro _ rfl
    refine .rn [7,8,9,10,11] [] ?_
    refine .done ?_
    refine .seq ?_
    refine .seq ?_
    refine .regionL [0,1,2,3,4,5,6,7,8,9,10,11,12,13,14,15,16,17,18,19,20,21,22,23,24,25,26,27,28] rfl zz0 ?_
    refine .rn [0,1,2] [3,4,5,6,7,8,9,10,11,12,13,14,15,16,17,18,19,20,21,22,23,24,25,26,27,28] ?_
    refine .split (t := 92) rfl (fun c92 => ?_) (fun c92 => ?_)
    ·first | cases c92 | try rw [c92]
     try simp at c92
    ·first | cases c92 | try rw [c92]
     try simp at c92
     refine .rn [3,4,5,6] [7,8,9,10,11,12,13,14,15,16,17,18,19,20,21,22,23,24,25,26,27,28] ?_
     refine .split (t := 96) rfl (fun c96 => ?_) (fun c96 => ?_)
     ·first | cases c96 | try rw [c96]
      try simp at c96
     ·first | cases c96 | try rw [c96]
      try simp at c96
      refine .rn [7,8,9,10,11] [12,13,14,15,16,17,18,19,20,21,22,23,24,25,26,27,28] ?_
      refine .split (t := 101) rfl (fun c101 => ?_) (fun c101 => ?_)
      ·first | cases c101 | try rw [c101]
       try simp at c101
      ·first | cases c101 | try rw [c101]
       try simp at c101
       refine .rn [12,13,14,15,16] [17,18,19,20,21,22,23,24,25,26,27,28] ?_
       refine .step rfl rfl (.pure rfl rfl rfl Tryz.call78 (by decide) (q78a) (by first | rfl | simp [*]) ?_)
       rintro _ rfl
       refine .rn [18,19,20] [21,22,23,24,25,26,27,28] ?_
       refine .split (t := 110) rfl (fun c110 => ?_) (fun c110 => ?_)
       ·first | cases c110 | try rw [c110]
        try simp at c110
       ·first | cases c110 | try rw [c110]
        try simp at c110
        refine .rn [21,22,23,24,25] [26,27,28] ?_
        refine .step rfl rfl (.pure rfl rfl rfl Tryz.call78 (by decide) (q78b) (by first | rfl | simp [*]) ?_)
        rintro _ rfl
        refine .rn [27,28] [] ?_
        refine .done ?_
        refine .condS rfl (fun c118 => ?_) (fun c118 => ?_)
        ·try simp at c118
        ·try simp at c118
         refine .skip ?_
         refine .seq ?_
         refine .regionL [0,1,2,3,4,5,6,7,8,9,10,11,12,13,14] rfl zz0 ?_
         refine .rn [0,1,2,3,4] [5,6,7,8,9,10,11,12,13,14] ?_
         refine .step rfl rfl (.pure rfl rfl rfl Tryz.call78 (by decide) (q78c) (by first | rfl | simp [*]) ?_)
         rintro _ rfl
         refine .rn [6] [7,8,9,10,11,12,13,14] ?_
         refine .split (t := 125) rfl (fun c125 => ?_) (fun c125 => ?_)
         ·first | cases c125 | try rw [c125]
          try simp at c125
          refine .rn [7,8,9,10,11] [12,13,14] ?_
          refine .step rfl rfl (.pure rfl rfl rfl Tryz.call78 (by decide) (q78d) (by first | rfl | simp [*]) ?_)
          rintro _ rfl
          refine .rn [13,14] [] ?_
          refine .done ?_
          refine .seq ?_
          refine .seq ?_
          refine .regionL [0,1,2,3,4,5,6,7,8,9,10,11,12] rfl zz0 ?_
          refine .rn [0,1] [2,3,4,5,6,7,8,9,10,11,12] ?_
          refine .split (t := 134) rfl (fun c134 => ?_) (fun c134 => ?_)
          ·first | cases c134 | try rw [c134]
           try simp at c134
           obtain ⟨hn0, hab⟩ := k7 rfl rfl
           subst hab
           refine .rn [2,3,4] [5,6,7,8,9,10,11,12] ?_
           refine .split (t := 137) rfl (fun c137 => ?_) (fun c137 => ?_)
           ·first | cases c137 | try rw [c137]
            try simp at c137
            exact absurd c137 hn0
           ·first | cases c137 | try rw [c137]
            try simp at c137
            refine .rn [5,6,7,8] [9,10,11,12] ?_
            refine .step rfl rfl (.pure rfl rfl rfl Tryz.call78 (by decide) (q78e) (by first | rfl | simp [*]) ?_)
            rintro _ rfl
            refine .rn [10,11,12] [] ?_
            refine .done ?_
            refine .condS rfl (fun c145 => ?_) (fun c145 => ?_)
            ·try simp at c145
            ·try simp at c145
             refine .skip ?_
             refine .seq ?_
             refine .seq ?_
             refine .rn ?_
             refine .block ?_
             refine .loopS (fun k : Nat => ([(4, .ptr 0 0),(9, .ptr 1 0),(11, .ptr 2 0),(12, .ptr 3 0),(14, .int .i64 n),(19, .int .i64 k)], ⟨4,[(3, .box [.int .i64 s[j].id, .int .i64 s[j].known, ints s[j].slips, ints s[j].mended, ints s[j].models, .int .i64 s[j].lo, .int .i64 s[j].hi]),(2, .box [.int .i64 s[i].id, .int .i64 s[i].known, ints s[i].slips, ints s[i].mended, ints s[i].models, .int .i64 s[i].lo, .int .i64 s[i].hi]),(1, .box [ints bp, .int .i64 bn]),(0, .box [.vec (s.map encW)])]⟩)) (fun k => k ≤ s.length ∧ ∀ w ∈ s.take k, w.mended = []) (fun k => s.length - k) 0 (by simp) (.mk [] [] zz14 zz15 rfl rfl rfl) ?_
             rintro k ⟨hk, hno⟩
             simp only at hk hno ⊢
             refine .seq ?_
             refine .seq ?_
             refine .rn ?_
             refine .condS rfl (fun c150 => ?_) (fun c150 => ?_)
             ·try simp at c150
              have hw2 : IntKind.i64.wrap ((k : Int) + 1) = (k : Int) + 1 := wrap64 (by omega) (by omega)
              have hEk : encW s[k] = .agg [.int .i64 s[k].id, .int .i64 s[k].known, ints s[k].slips, ints s[k].mended, ints s[k].models, .int .i64 s[k].lo, .int .i64 s[k].hi] := rfl
              refine .skip ?_
              refine .seq ?_
              refine .block ?_
              refine .seq ?_
              refine .rn ?_
              refine .condS rfl (fun c160 => ?_) (fun c160 => ?_)
              ·try simp at c160
               refine .seq ?_
               refine .regionL [0,1] rfl zz0 ?_
               refine .step rfl rfl (.pure rfl rfl rfl Tryz.call22 (by decide) (hsan) (by first | rfl | simp [*]) ?_)
               rintro _ rfl
               refine .rn [1] [] ?_
               refine .done ?_
               refine .ret ?_
               refine ⟨_, _, zz4,zz4, ?_⟩
               first | rfl | (simp [*]; done) | (simp_all; done)
              ·try simp at c160
               refine .skip ?_
               refine .rn ?_
               refine ⟨k + 1, ⟨c150, ?_⟩, zz5,(.mk [] [] zz14 zz15 rfl rfl rfl)⟩
               intro w hw
               rw [List.take_succ_eq_append_getElem c150] at hw
               rcases List.mem_append.1 hw with hw | hw
               ·exact hno w hw
               ·rw [List.mem_singleton] at hw
                rw [hw]; first | exact c160 | (simpa using c160)
             ·try simp at c150
              have hmm : ∀ w ∈ s, w.mended = [] := fun w hw => hno w (by rw [List.take_of_length_le (by omega)]; exact hw)
              refine .exit ?_
              refine .seq ?_
              refine .seq ?_
              refine .rn ?_
              refine .block ?_
              refine .loopS (fun k : Nat => ([(4, .ptr 0 0),(9, .ptr 1 0),(11, .ptr 2 0),(12, .ptr 3 0),(14, .int .i64 n),(20, .int .i64 k)], ⟨4,[(3, .box [.int .i64 s[j].id, .int .i64 s[j].known, ints s[j].slips, ints s[j].mended, ints s[j].models, .int .i64 s[j].lo, .int .i64 s[j].hi]),(2, .box [.int .i64 s[i].id, .int .i64 s[i].known, ints s[i].slips, ints s[i].mended, ints s[i].models, .int .i64 s[i].lo, .int .i64 s[i].hi]),(1, .box [ints bp, .int .i64 bn]),(0, .box [.vec (s.map encW)])]⟩)) (fun k => k ≤ s[i].slips.length) (fun k => s[i].slips.length - k) 0 (by simp) (.mk [] [] zz14 zz15 rfl rfl rfl) ?_
              rintro k hk
              simp only at hk ⊢
              refine .seq ?_
              refine .seq ?_
              refine .rn ?_
              refine .condS rfl (fun c166 => ?_) (fun c166 => ?_)
              ·try simp at c166
               have hw2 : IntKind.i64.wrap ((k : Int) + 1) = (k : Int) + 1 := wrap64 (by omega) (by omega)
               obtain ⟨ob, hob, q79k⟩ := k9 s[i].slips[k]
               refine .skip ?_
               refine .seq ?_
               refine .block ?_
               refine .seq ?_
               refine .drawn (ms := [0,1,0,4,0,28,60,127,255,511,511,511,2559,511,14847,31231,65535,131071,262143,524287,524287,1572863,524287,7864319,16252927,33030143,524287,134217727,268435455,536870911,1073741823]) (W := [7,16,25,27]) (items := [.op 0, .op 1, .op 2, .op 3, .op 4, .op 5, .op 6, .op 7, .op 8, .op 9, .op 10, .op 11, .op 12, .op 13, .op 14, .op 15, .op 16, .op 17, .op 18, .op 19, .op 20, .op 21, .op 22, .op 23, .op 24, .op 26, .op 25, .ck 19, .op 27, .op 28, .op 29, .op 30]) rfl zz0 zz0 zz0 ?_
               refine .rx ?_
               refine .rx ?_
               refine .rx ?_
               refine .rx ?_
               refine .rx ?_
               refine .rx ?_
               refine .rx ?_
               refine .wr rfl rfl (by decide) (.pure rfl rfl rfl Tryz.call46 (by decide) (p46 s[j].slips s[i].slips[k] (by omega)) (by first | rfl | simp [*]) ?_)
               rintro _ rfl
               refine .rx ?_
               refine .split (t := 177) rfl (fun c177 => ?_) (fun c177 => ?_)
               ·first | cases c177 | try rw [c177]
                try simp at c177
                refine .rx ?_
                refine .rx ?_
                refine .rx ?_
                refine .rx ?_
                refine .rx ?_
                refine .rx ?_
                refine .rx ?_
                refine .wr rfl rfl (by decide) (.pure rfl rfl rfl Tryz.call79 (by decide) (q79k) (by first | rfl | simp [*]) ?_)
                rintro _ rfl
                refine .rx ?_
                refine .rx ?_
                refine .split (t := 187) rfl (fun c187 => ?_) (fun c187 => ?_)
                ·first | cases c187 | try rw [c187]
                 try simp at c187
                 have hk8 := k8 hmm s[i].slips[k] (List.getElem_mem c166) c177 (hob rfl)
                 have hF : freL s [s[i].slips[k]] n = [] := List.eq_nil_of_length_eq_zero (by rw [freL_one, if_pos hk8])
                 refine .rx ?_
                 refine .rx ?_
                 refine .rx ?_
                 refine .rx ?_
                 refine .rx ?_
                 refine .rx ?_
                 refine .rx ?_
                 refine .wr rfl rfl (by decide) (.vop zz1 (by decide) ?_)
                 refine .ck rfl zz0 ?_
                 refine .wr rfl rfl (by decide) (.take rfl rfl rfl Tryz.call68 (by decide) (by first | (simp <;> rfl) | (simp [*] <;> rfl) | (simp [*]; done)) (p68 s [s[i].slips[k]] n h0 (by simp)) ?_)
                 rintro _ rfl
                 refine .rx ?_
                 refine .rx ?_
                 refine .rx ?_
                 refine .done ?_
                 refine .condS rfl (fun c199 => ?_) (fun c199 => ?_)
                 ·try simp at c199
                 ·try simp at c199
                  refine .skip ?_
                  refine .rn ?_
                  refine ⟨k + 1, c166,zz5,(.mk [] [] zz14 zz15 rfl rfl rfl)⟩
                ·first | cases c187 | try rw [c187]
                 try simp at c187
                 refine .un rfl rfl (by decide) ?_
                 refine .un rfl rfl (by decide) ?_
                 refine .un rfl rfl (by decide) ?_
                 refine .un rfl rfl (by decide) ?_
                 refine .un rfl rfl (by decide) ?_
                 refine .un rfl rfl (by decide) ?_
                 refine .un rfl rfl (by decide) ?_
                 refine .un rfl rfl (by decide) ?_
                 refine .ckU rfl rfl rfl ?_
                 refine .un rfl rfl (by decide) ?_
                 refine .un rfl rfl (by decide) ?_
                 refine .un rfl rfl (by decide) ?_
                 refine .rx ?_
                 refine .done ?_
                 refine .condF rfl ?_
                 refine .skip ?_
                 refine .rn ?_
                 refine ⟨k + 1, c166,zz5,(.mk [] [] zz14 zz15 rfl rfl rfl)⟩
               ·first | cases c177 | try rw [c177]
                try simp at c177
                refine .un rfl rfl (by decide) ?_
                refine .un rfl rfl (by decide) ?_
                refine .un rfl rfl (by decide) ?_
                refine .un rfl rfl (by decide) ?_
                refine .un rfl rfl (by decide) ?_
                refine .un rfl rfl (by decide) ?_
                refine .un rfl rfl (by decide) ?_
                refine .un rfl rfl (by decide) ?_
                refine .rx ?_
                refine .rx ?_
                refine .un rfl rfl (by decide) ?_
                refine .un rfl rfl (by decide) ?_
                refine .un rfl rfl (by decide) ?_
                refine .un rfl rfl (by decide) ?_
                refine .un rfl rfl (by decide) ?_
                refine .un rfl rfl (by decide) ?_
                refine .un rfl rfl (by decide) ?_
                refine .un rfl rfl (by decide) ?_
                refine .ckU rfl rfl rfl ?_
                refine .un rfl rfl (by decide) ?_
                refine .un rfl rfl (by decide) ?_
                refine .un rfl rfl (by decide) ?_
                refine .rx ?_
                refine .done ?_
                refine .condF rfl ?_
                refine .skip ?_
                refine .rn ?_
                refine ⟨k + 1, c166,zz5,(.mk [] [] zz14 zz15 rfl rfl rfl)⟩
              ·try simp at c166
               refine .exit ?_
               refine .seq ?_
               refine .regionL [0,1] rfl zz0 ?_
               refine .step rfl rfl (.pure rfl rfl rfl Tryz.call22 (by decide) (hsan) (by first | rfl | simp [*]) ?_)
               rintro _ rfl
               refine .rn [1] [] ?_
               refine .done ?_
               refine .ret ?_
               refine ⟨_, _, zz4,zz4, ?_⟩
               first | rfl | (simp [*]; done) | (simp_all; done)
          ·first | cases c134 | try rw [c134]
           try simp at c134
           refine .rn [2,3,4,5,6,7,8,9,10,11,12] [] ?_
           refine .done ?_
           refine .condF rfl ?_
           refine .skip ?_
           refine .seq ?_
           refine .seq ?_
           refine .rn ?_
           refine .block ?_
           refine .loopS (fun k : Nat => ([(4, .ptr 0 0),(9, .ptr 1 0),(11, .ptr 2 0),(12, .ptr 3 0),(14, .int .i64 n),(19, .int .i64 k)], ⟨4,[(3, .box [.int .i64 s[j].id, .int .i64 s[j].known, ints s[j].slips, ints s[j].mended, ints s[j].models, .int .i64 s[j].lo, .int .i64 s[j].hi]),(2, .box [.int .i64 s[i].id, .int .i64 s[i].known, ints s[i].slips, ints s[i].mended, ints s[i].models, .int .i64 s[i].lo, .int .i64 s[i].hi]),(1, .box [ints bp, .int .i64 bn]),(0, .box [.vec (s.map encW)])]⟩)) (fun k => k ≤ s.length ∧ ∀ w ∈ s.take k, w.mended = []) (fun k => s.length - k) 0 (by simp) (.mk [] [] zz14 zz15 rfl rfl rfl) ?_
           rintro k ⟨hk, hno⟩
           simp only at hk hno ⊢
           refine .seq ?_
           refine .seq ?_
           refine .rn ?_
           refine .condS rfl (fun c150 => ?_) (fun c150 => ?_)
           ·try simp at c150
            have hw2 : IntKind.i64.wrap ((k : Int) + 1) = (k : Int) + 1 := wrap64 (by omega) (by omega)
            have hEk : encW s[k] = .agg [.int .i64 s[k].id, .int .i64 s[k].known, ints s[k].slips, ints s[k].mended, ints s[k].models, .int .i64 s[k].lo, .int .i64 s[k].hi] := rfl
            refine .skip ?_
            refine .seq ?_
            refine .block ?_
            refine .seq ?_
            refine .rn ?_
            refine .condS rfl (fun c160 => ?_) (fun c160 => ?_)
            ·try simp at c160
             refine .seq ?_
             refine .regionL [0,1] rfl zz0 ?_
             refine .step rfl rfl (.pure rfl rfl rfl Tryz.call22 (by decide) (hsan) (by first | rfl | simp [*]) ?_)
             rintro _ rfl
             refine .rn [1] [] ?_
             refine .done ?_
             refine .ret ?_
             refine ⟨_, _, zz4,zz4, ?_⟩
             first | rfl | (simp [*]; done) | (simp_all; done)
            ·try simp at c160
             refine .skip ?_
             refine .rn ?_
             refine ⟨k + 1, ⟨c150, ?_⟩, zz5,(.mk [] [] zz14 zz15 rfl rfl rfl)⟩
             intro w hw
             rw [List.take_succ_eq_append_getElem c150] at hw
             rcases List.mem_append.1 hw with hw | hw
             ·exact hno w hw
             ·rw [List.mem_singleton] at hw
              rw [hw]; first | exact c160 | (simpa using c160)
           ·try simp at c150
            have hmm : ∀ w ∈ s, w.mended = [] := fun w hw => hno w (by rw [List.take_of_length_le (by omega)]; exact hw)
            refine .exit ?_
            refine .seq ?_
            refine .seq ?_
            refine .rn ?_
            refine .block ?_
            refine .loopS (fun k : Nat => ([(4, .ptr 0 0),(9, .ptr 1 0),(11, .ptr 2 0),(12, .ptr 3 0),(14, .int .i64 n),(20, .int .i64 k)], ⟨4,[(3, .box [.int .i64 s[j].id, .int .i64 s[j].known, ints s[j].slips, ints s[j].mended, ints s[j].models, .int .i64 s[j].lo, .int .i64 s[j].hi]),(2, .box [.int .i64 s[i].id, .int .i64 s[i].known, ints s[i].slips, ints s[i].mended, ints s[i].models, .int .i64 s[i].lo, .int .i64 s[i].hi]),(1, .box [ints bp, .int .i64 bn]),(0, .box [.vec (s.map encW)])]⟩)) (fun k => k ≤ s[i].slips.length) (fun k => s[i].slips.length - k) 0 (by simp) (.mk [] [] zz14 zz15 rfl rfl rfl) ?_
            rintro k hk
            simp only at hk ⊢
            refine .seq ?_
            refine .seq ?_
            refine .rn ?_
            refine .condS rfl (fun c166 => ?_) (fun c166 => ?_)
            ·try simp at c166
             have hw2 : IntKind.i64.wrap ((k : Int) + 1) = (k : Int) + 1 := wrap64 (by omega) (by omega)
             obtain ⟨ob, hob, q79k⟩ := k9 s[i].slips[k]
             refine .skip ?_
             refine .seq ?_
             refine .block ?_
             refine .seq ?_
             refine .drawn (ms := [0,1,0,4,0,28,60,127,255,511,511,511,2559,511,14847,31231,65535,131071,262143,524287,524287,1572863,524287,7864319,16252927,33030143,524287,134217727,268435455,536870911,1073741823]) (W := [7,16,25,27]) (items := [.op 0, .op 1, .op 2, .op 3, .op 4, .op 5, .op 6, .op 7, .op 8, .op 9, .op 10, .op 11, .op 12, .op 13, .op 14, .op 15, .op 16, .op 17, .op 18, .op 19, .op 20, .op 21, .op 22, .op 23, .op 24, .op 26, .op 25, .ck 19, .op 27, .op 28, .op 29, .op 30]) rfl zz0 zz0 zz0 ?_
             refine .rx ?_
             refine .rx ?_
             refine .rx ?_
             refine .rx ?_
             refine .rx ?_
             refine .rx ?_
             refine .rx ?_
             refine .wr rfl rfl (by decide) (.pure rfl rfl rfl Tryz.call46 (by decide) (p46 s[j].slips s[i].slips[k] (by omega)) (by first | rfl | simp [*]) ?_)
             rintro _ rfl
             refine .rx ?_
             refine .split (t := 177) rfl (fun c177 => ?_) (fun c177 => ?_)
             ·first | cases c177 | try rw [c177]
              try simp at c177
              refine .rx ?_
              refine .rx ?_
              refine .rx ?_
              refine .rx ?_
              refine .rx ?_
              refine .rx ?_
              refine .rx ?_
              refine .wr rfl rfl (by decide) (.pure rfl rfl rfl Tryz.call79 (by decide) (q79k) (by first | rfl | simp [*]) ?_)
              rintro _ rfl
              refine .rx ?_
              refine .rx ?_
              refine .split (t := 187) rfl (fun c187 => ?_) (fun c187 => ?_)
              ·first | cases c187 | try rw [c187]
               try simp at c187
               have hk8 := k8 hmm s[i].slips[k] (List.getElem_mem c166) c177 (hob rfl)
               have hF : freL s [s[i].slips[k]] n = [] := List.eq_nil_of_length_eq_zero (by rw [freL_one, if_pos hk8])
               refine .rx ?_
               refine .rx ?_
               refine .rx ?_
               refine .rx ?_
               refine .rx ?_
               refine .rx ?_
               refine .rx ?_
               refine .wr rfl rfl (by decide) (.vop zz1 (by decide) ?_)
               refine .ck rfl zz0 ?_
               refine .wr rfl rfl (by decide) (.take rfl rfl rfl Tryz.call68 (by decide) (by first | (simp <;> rfl) | (simp [*] <;> rfl) | (simp [*]; done)) (p68 s [s[i].slips[k]] n h0 (by simp)) ?_)
               rintro _ rfl
               refine .rx ?_
               refine .rx ?_
               refine .rx ?_
               refine .done ?_
               refine .condS rfl (fun c199 => ?_) (fun c199 => ?_)
               ·try simp at c199
               ·try simp at c199
                refine .skip ?_
                refine .rn ?_
                refine ⟨k + 1, c166,zz5,(.mk [] [] zz14 zz15 rfl rfl rfl)⟩
              ·first | cases c187 | try rw [c187]
               try simp at c187
               refine .un rfl rfl (by decide) ?_
               refine .un rfl rfl (by decide) ?_
               refine .un rfl rfl (by decide) ?_
               refine .un rfl rfl (by decide) ?_
               refine .un rfl rfl (by decide) ?_
               refine .un rfl rfl (by decide) ?_
               refine .un rfl rfl (by decide) ?_
               refine .un rfl rfl (by decide) ?_
               refine .ckU rfl rfl rfl ?_
               refine .un rfl rfl (by decide) ?_
               refine .un rfl rfl (by decide) ?_
               refine .un rfl rfl (by decide) ?_
               refine .rx ?_
               refine .done ?_
               refine .condF rfl ?_
               refine .skip ?_
               refine .rn ?_
               refine ⟨k + 1, c166,zz5,(.mk [] [] zz14 zz15 rfl rfl rfl)⟩
             ·first | cases c177 | try rw [c177]
              try simp at c177
              refine .un rfl rfl (by decide) ?_
              refine .un rfl rfl (by decide) ?_
              refine .un rfl rfl (by decide) ?_
              refine .un rfl rfl (by decide) ?_
              refine .un rfl rfl (by decide) ?_
              refine .un rfl rfl (by decide) ?_
              refine .un rfl rfl (by decide) ?_
              refine .un rfl rfl (by decide) ?_
              refine .rx ?_
              refine .rx ?_
              refine .un rfl rfl (by decide) ?_
              refine .un rfl rfl (by decide) ?_
              refine .un rfl rfl (by decide) ?_
              refine .un rfl rfl (by decide) ?_
              refine .un rfl rfl (by decide) ?_
              refine .un rfl rfl (by decide) ?_
              refine .un rfl rfl (by decide) ?_
              refine .un rfl rfl (by decide) ?_
              refine .ckU rfl rfl rfl ?_
              refine .un rfl rfl (by decide) ?_
              refine .un rfl rfl (by decide) ?_
              refine .un rfl rfl (by decide) ?_
              refine .rx ?_
              refine .done ?_
              refine .condF rfl ?_
              refine .skip ?_
              refine .rn ?_
              refine ⟨k + 1, c166,zz5,(.mk [] [] zz14 zz15 rfl rfl rfl)⟩
            ·try simp at c166
             refine .exit ?_
             refine .seq ?_
             refine .regionL [0,1] rfl zz0 ?_
             refine .step rfl rfl (.pure rfl rfl rfl Tryz.call22 (by decide) (hsan) (by first | rfl | simp [*]) ?_)
             rintro _ rfl
             refine .rn [1] [] ?_
             refine .done ?_
             refine .ret ?_
             refine ⟨_, _, zz4,zz4, ?_⟩
             first | rfl | (simp [*]; done) | (simp_all; done)
         ·first | cases c125 | try rw [c125]
          try simp at c125
          refine .rn [7,8,9,10,11,12,13,14] [] ?_
          refine .done ?_
          refine .seq ?_
          refine .seq ?_
          refine .regionL [0,1,2,3,4,5,6,7,8,9,10,11,12] rfl zz0 ?_
          refine .rn [0,1,2,3,4,5,6,7,8,9,10,11,12] [] ?_
          refine .done ?_
          refine .condF rfl ?_
          refine .skip ?_
          refine .seq ?_
          refine .seq ?_
          refine .rn ?_
          refine .block ?_
          refine .loopS (fun k : Nat => ([(4, .ptr 0 0),(9, .ptr 1 0),(11, .ptr 2 0),(12, .ptr 3 0),(14, .int .i64 n),(19, .int .i64 k)], ⟨4,[(3, .box [.int .i64 s[j].id, .int .i64 s[j].known, ints s[j].slips, ints s[j].mended, ints s[j].models, .int .i64 s[j].lo, .int .i64 s[j].hi]),(2, .box [.int .i64 s[i].id, .int .i64 s[i].known, ints s[i].slips, ints s[i].mended, ints s[i].models, .int .i64 s[i].lo, .int .i64 s[i].hi]),(1, .box [ints bp, .int .i64 bn]),(0, .box [.vec (s.map encW)])]⟩)) (fun k => k ≤ s.length ∧ ∀ w ∈ s.take k, w.mended = []) (fun k => s.length - k) 0 (by simp) (.mk [] [] zz14 zz15 rfl rfl rfl) ?_
          rintro k ⟨hk, hno⟩
          simp only at hk hno ⊢
          refine .seq ?_
          refine .seq ?_
          refine .rn ?_
          refine .condS rfl (fun c150 => ?_) (fun c150 => ?_)
          ·try simp at c150
           have hw2 : IntKind.i64.wrap ((k : Int) + 1) = (k : Int) + 1 := wrap64 (by omega) (by omega)
           have hEk : encW s[k] = .agg [.int .i64 s[k].id, .int .i64 s[k].known, ints s[k].slips, ints s[k].mended, ints s[k].models, .int .i64 s[k].lo, .int .i64 s[k].hi] := rfl
           refine .skip ?_
           refine .seq ?_
           refine .block ?_
           refine .seq ?_
           refine .rn ?_
           refine .condS rfl (fun c160 => ?_) (fun c160 => ?_)
           ·try simp at c160
            refine .seq ?_
            refine .regionL [0,1] rfl zz0 ?_
            refine .step rfl rfl (.pure rfl rfl rfl Tryz.call22 (by decide) (hsan) (by first | rfl | simp [*]) ?_)
            rintro _ rfl
            refine .rn [1] [] ?_
            refine .done ?_
            refine .ret ?_
            refine ⟨_, _, zz4,zz4, ?_⟩
            first | rfl | (simp [*]; done) | (simp_all; done)
           ·try simp at c160
            refine .skip ?_
            refine .rn ?_
            refine ⟨k + 1, ⟨c150, ?_⟩, zz5,(.mk [] [] zz14 zz15 rfl rfl rfl)⟩
            intro w hw
            rw [List.take_succ_eq_append_getElem c150] at hw
            rcases List.mem_append.1 hw with hw | hw
            ·exact hno w hw
            ·rw [List.mem_singleton] at hw
             rw [hw]; first | exact c160 | (simpa using c160)
          ·try simp at c150
           have hmm : ∀ w ∈ s, w.mended = [] := fun w hw => hno w (by rw [List.take_of_length_le (by omega)]; exact hw)
           refine .exit ?_
           refine .seq ?_
           refine .seq ?_
           refine .rn ?_
           refine .block ?_
           refine .loopS (fun k : Nat => ([(4, .ptr 0 0),(9, .ptr 1 0),(11, .ptr 2 0),(12, .ptr 3 0),(14, .int .i64 n),(20, .int .i64 k)], ⟨4,[(3, .box [.int .i64 s[j].id, .int .i64 s[j].known, ints s[j].slips, ints s[j].mended, ints s[j].models, .int .i64 s[j].lo, .int .i64 s[j].hi]),(2, .box [.int .i64 s[i].id, .int .i64 s[i].known, ints s[i].slips, ints s[i].mended, ints s[i].models, .int .i64 s[i].lo, .int .i64 s[i].hi]),(1, .box [ints bp, .int .i64 bn]),(0, .box [.vec (s.map encW)])]⟩)) (fun k => k ≤ s[i].slips.length) (fun k => s[i].slips.length - k) 0 (by simp) (.mk [] [] zz14 zz15 rfl rfl rfl) ?_
           rintro k hk
           simp only at hk ⊢
           refine .seq ?_
           refine .seq ?_
           refine .rn ?_
           refine .condS rfl (fun c166 => ?_) (fun c166 => ?_)
           ·try simp at c166
            have hw2 : IntKind.i64.wrap ((k : Int) + 1) = (k : Int) + 1 := wrap64 (by omega) (by omega)
            obtain ⟨ob, hob, q79k⟩ := k9 s[i].slips[k]
            refine .skip ?_
            refine .seq ?_
            refine .block ?_
            refine .seq ?_
            refine .drawn (ms := [0,1,0,4,0,28,60,127,255,511,511,511,2559,511,14847,31231,65535,131071,262143,524287,524287,1572863,524287,7864319,16252927,33030143,524287,134217727,268435455,536870911,1073741823]) (W := [7,16,25,27]) (items := [.op 0, .op 1, .op 2, .op 3, .op 4, .op 5, .op 6, .op 7, .op 8, .op 9, .op 10, .op 11, .op 12, .op 13, .op 14, .op 15, .op 16, .op 17, .op 18, .op 19, .op 20, .op 21, .op 22, .op 23, .op 24, .op 26, .op 25, .ck 19, .op 27, .op 28, .op 29, .op 30]) rfl zz0 zz0 zz0 ?_
            refine .rx ?_
            refine .rx ?_
            refine .rx ?_
            refine .rx ?_
            refine .rx ?_
            refine .rx ?_
            refine .rx ?_
            refine .wr rfl rfl (by decide) (.pure rfl rfl rfl Tryz.call46 (by decide) (p46 s[j].slips s[i].slips[k] (by omega)) (by first | rfl | simp [*]) ?_)
            rintro _ rfl
            refine .rx ?_
            refine .split (t := 177) rfl (fun c177 => ?_) (fun c177 => ?_)
            ·first | cases c177 | try rw [c177]
             try simp at c177
             refine .rx ?_
             refine .rx ?_
             refine .rx ?_
             refine .rx ?_
             refine .rx ?_
             refine .rx ?_
             refine .rx ?_
             refine .wr rfl rfl (by decide) (.pure rfl rfl rfl Tryz.call79 (by decide) (q79k) (by first | rfl | simp [*]) ?_)
             rintro _ rfl
             refine .rx ?_
             refine .rx ?_
             refine .split (t := 187) rfl (fun c187 => ?_) (fun c187 => ?_)
             ·first | cases c187 | try rw [c187]
              try simp at c187
              have hk8 := k8 hmm s[i].slips[k] (List.getElem_mem c166) c177 (hob rfl)
              have hF : freL s [s[i].slips[k]] n = [] := List.eq_nil_of_length_eq_zero (by rw [freL_one, if_pos hk8])
              refine .rx ?_
              refine .rx ?_
              refine .rx ?_
              refine .rx ?_
              refine .rx ?_
              refine .rx ?_
              refine .rx ?_
              refine .wr rfl rfl (by decide) (.vop zz1 (by decide) ?_)
              refine .ck rfl zz0 ?_
              refine .wr rfl rfl (by decide) (.take rfl rfl rfl Tryz.call68 (by decide) (by first | (simp <;> rfl) | (simp [*] <;> rfl) | (simp [*]; done)) (p68 s [s[i].slips[k]] n h0 (by simp)) ?_)
              rintro _ rfl
              refine .rx ?_
              refine .rx ?_
              refine .rx ?_
              refine .done ?_
              refine .condS rfl (fun c199 => ?_) (fun c199 => ?_)
              ·try simp at c199
              ·try simp at c199
               refine .skip ?_
               refine .rn ?_
               refine ⟨k + 1, c166,zz5,(.mk [] [] zz14 zz15 rfl rfl rfl)⟩
             ·first | cases c187 | try rw [c187]
              try simp at c187
              refine .un rfl rfl (by decide) ?_
              refine .un rfl rfl (by decide) ?_
              refine .un rfl rfl (by decide) ?_
              refine .un rfl rfl (by decide) ?_
              refine .un rfl rfl (by decide) ?_
              refine .un rfl rfl (by decide) ?_
              refine .un rfl rfl (by decide) ?_
              refine .un rfl rfl (by decide) ?_
              refine .ckU rfl rfl rfl ?_
              refine .un rfl rfl (by decide) ?_
              refine .un rfl rfl (by decide) ?_
              refine .un rfl rfl (by decide) ?_
              refine .rx ?_
              refine .done ?_
              refine .condF rfl ?_
              refine .skip ?_
              refine .rn ?_
              refine ⟨k + 1, c166,zz5,(.mk [] [] zz14 zz15 rfl rfl rfl)⟩
            ·first | cases c177 | try rw [c177]
             try simp at c177
             refine .un rfl rfl (by decide) ?_
             refine .un rfl rfl (by decide) ?_
             refine .un rfl rfl (by decide) ?_
             refine .un rfl rfl (by decide) ?_
             refine .un rfl rfl (by decide) ?_
             refine .un rfl rfl (by decide) ?_
             refine .un rfl rfl (by decide) ?_
             refine .un rfl rfl (by decide) ?_
             refine .rx ?_
             refine .rx ?_
             refine .un rfl rfl (by decide) ?_
             refine .un rfl rfl (by decide) ?_
             refine .un rfl rfl (by decide) ?_
             refine .un rfl rfl (by decide) ?_
             refine .un rfl rfl (by decide) ?_
             refine .un rfl rfl (by decide) ?_
             refine .un rfl rfl (by decide) ?_
             refine .un rfl rfl (by decide) ?_
             refine .ckU rfl rfl rfl ?_
             refine .un rfl rfl (by decide) ?_
             refine .un rfl rfl (by decide) ?_
             refine .un rfl rfl (by decide) ?_
             refine .rx ?_
             refine .done ?_
             refine .condF rfl ?_
             refine .skip ?_
             refine .rn ?_
             refine ⟨k + 1, c166,zz5,(.mk [] [] zz14 zz15 rfl rfl rfl)⟩
           ·try simp at c166
            refine .exit ?_
            refine .seq ?_
            refine .regionL [0,1] rfl zz0 ?_
            refine .step rfl rfl (.pure rfl rfl rfl Tryz.call22 (by decide) (hsan) (by first | rfl | simp [*]) ?_)
            rintro _ rfl
            refine .rn [1] [] ?_
            refine .done ?_
            refine .ret ?_
            refine ⟨_, _, zz4,zz4, ?_⟩
            first | rfl | (simp [*]; done) | (simp_all; done)
end Go.Am.Ds
end
