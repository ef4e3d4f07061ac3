/-
 What is used in the proof of a statement (part DsF); no condition.
-/
import Derived.Test.YtnablaecbohhmaaGreatDsT
import Derived.Test.YtnablaecbohhmaaGreatVm2
import Derived.Test.YtnablaecbohhmaaGreatDsC
set_option linter.all false
section
namespace Go.Am.Ds
open Go Go.Am Go.Proofs
set_option maxRecDepth 100000
set_option maxHeartbeats 4000000
set_option linter.unusedSimpArgs false
set_option linter.unusedVariables false
attribute [local simp] vrun vwanted vyielded vop vopA vputAll VHeap.back hidI hidF backL bm veval vevals vparts vO vbuiltin vlen vappend velems vcopy vmakeSlice vbuildSlice valloc vbox vmakeMap vload vpartT vpart vstore vfieldAddr vfield vindexAddr vindex vextract vslice vsliceZ vbounds vbnd zeroO vidx vlookup vmget vmapUpdate vdelete vclear vnilq vnilp vnils vbin vsc vsc1 vscs vscl abinOp aint ashift aunOp aconvert amaxs amax2 pvcV pvc pvcs tput tget vargs VHeap.get VHeap.alloc VHeap.put VHeap.drop VHeap.empty vlook vput vdrop psplice pfill preps chunk List.range List.range.loop vresults vresult vresultV frz frzL PV.isF PV.allF PV.scal PV.allS retP subT allFT PV.one PV.ids PV.idsL dropL beq_eq ble_dec blt_dec
@[simp] theorem take_len_map (l : List Int) : List.take l.length (l.map (PV.int .i64)) = l.map (PV.int .i64) := List.take_of_length_le (by rw [List.length_map]; exact Nat.le_refl _)
@[simp] theorem all_one_int2 (l : List Int) : l.all (PV.one ∘ PV.int .i64) = true := by simp [PV.one]
end Go.Am.Ds
end
section
namespace Go.Am.Ds
open Go Go.Am Go.Proofs
set_option maxRecDepth 100000
set_option maxHeartbeats 4000000
set_option linter.unusedSimpArgs false
set_option linter.unusedVariables false
attribute [local simp] vrun vwanted vyielded vop vopA vputAll VHeap.back hidI hidF backL bm veval vevals vparts vO vbuiltin vlen vappend velems vcopy vmakeSlice vbuildSlice valloc vbox vmakeMap vload vpartT vpart vstore vfieldAddr vfield vindexAddr vindex vextract vslice vsliceZ vbounds vbnd zeroO vidx vlookup vmget vmapUpdate vdelete vclear vnilq vnilp vnils vbin vsc vsc1 vscs vscl abinOp aint ashift aunOp aconvert amaxs amax2 pvcV pvc pvcs tput tget vargs VHeap.get VHeap.alloc VHeap.put VHeap.drop VHeap.empty vlook vput vdrop psplice pfill preps chunk List.range List.range.loop vresults vresult vresultV frz frzL PV.isF PV.allF PV.scal PV.allS retP subT allFT PV.one PV.ids PV.idsL dropL beq_eq ble_dec blt_dec
def fstF (p : Int → Bool) (l : List Int) : Int := (l.find? p).getD 0
def lastS (c : Wit) (id : Int) : Int := if 0 < c.models.length ∧ id ∉ c.models then 4 else 0
def lackF (c : Wit) (n : Int) : Bool := !decide (n ∈ setK [c.slips, c.mended])
def whyP (c p : Wit) : Int × Int := if p.id = c.id then (1,0) else if c.lo ≤ p.hi then (2,0) else if 0 ≤ idxF (lackF c) 0 p.slips then (3, fstF (lackF c) p.slips) else (lastS c p.id, 0)
def tup2 (x : Int × Int) : PV := .tup [.int .i64 x.1, .int .i64 x.2]
theorem p99 (s : List Wit) (hl : s.length < 4294967296) : VPure Tryz.prog 99 [encS s] fun r => r = ints ((s.map Wit.id).mergeSort fun x y => decide (x ≤ y)) := by
 refine .of_body Tryz.func99 rfl rfl ?_
 refine .seq (.rn ?_)
 refine .seq (.rn ?_)
 refine .seq (.seq (.rn ?_))
 refine .block ?_
 refine .loopS (fun i : Nat => ([(3, .grow 1 i true),(7, .vec (s.map encW)),(8, .int .i64 s.length),(9, .int .i64 i)], ⟨2,[(1, .grow 1 (((s.take i).map Wit.id).map (.int .i64)))]⟩)) (fun i => i ≤ s.length) (fun i => s.length - i) 0 (by simp) (.mk [] [] zz6 zz7 rfl rfl rfl) ?_
 rintro i hi
 simp only at hi ⊢
 refine .seq (.rn ?_)
 refine .seq ?_
 refine .condS rfl (fun c10 => ?_) (fun c10 => ?_)
 ·try simp at c10
  have hw2 : IntKind.i64.wrap ((i : Int) + 1) = (i : Int) + 1 := wrap64 (by omega) (by omega)
  have hT := take_succ_map Wit.id s i c10
  have hb : i + 1 ≤ 4294967296 := by omega
  have hE : encW s[i] = .agg [.int .i64 s[i].id, .int .i64 s[i].known, ints s[i].slips, ints s[i].mended, ints s[i].models, .int .i64 s[i].lo, .int .i64 s[i].hi] := rfl
  refine .skip (.seq (.block (.seq (.rn ?_))))
  refine .rn ?_
  refine .rn ?_
  refine ⟨i + 1,zz5,zz5,(.mk [] [(1,4)] zz6 zz7 rfl rfl rfl)⟩
 ·try simp at c10
  have : i = s.length := by omega
  subst this
  refine .exit (.seq ?_)
  refine .regionL [0,1] rfl zz0 ?_
  refine .rn [0] [1] ?_
  refine .step rfl rfl (.call rfl rfl rfl Tryz.call159 (by decide) (((VCall.sortGrow (zs := s.map Wit.id) lsort (by simp [List.take_of_length_le]) (by simp))).mono ?_))
  rintro _ _ ⟨rfl, rfl⟩
  refine .done (.seq (.rn ?_))
  refine .ret ?_
  refine ⟨_, _, zz4,zz4, ?_⟩
  first | rfl | (simp [*]; done) | (simp_all; done)
end Go.Am.Ds
end
section
namespace Go.Am.Ds
open Go Go.Am Go.Proofs
set_option maxRecDepth 100000
set_option maxHeartbeats 4000000
set_option linter.unusedSimpArgs false
set_option linter.unusedVariables false
attribute [local simp] vrun vwanted vyielded vop vopA vputAll VHeap.back hidI hidF backL bm veval vevals vparts vO vbuiltin vlen vappend velems vcopy vmakeSlice vbuildSlice valloc vbox vmakeMap vload vpartT vpart vstore vfieldAddr vfield vindexAddr vindex vextract vslice vsliceZ vbounds vbnd zeroO vidx vlookup vmget vmapUpdate vdelete vclear vnilq vnilp vnils vbin vsc vsc1 vscs vscl abinOp aint ashift aunOp aconvert amaxs amax2 pvcV pvc pvcs tput tget vargs VHeap.get VHeap.alloc VHeap.put VHeap.drop VHeap.empty vlook vput vdrop psplice pfill preps chunk List.range List.range.loop vresults vresult vresultV frz frzL PV.isF PV.allF PV.scal PV.allS retP subT allFT PV.one PV.ids PV.idsL dropL beq_eq ble_dec blt_dec
def Soft (r v : PV) : Prop := Alt VHeap.empty 0 (fun _ => true) id r v
theorem VPure.soft {P : Program} {f : FuncId} {args : List PV} {v : PV} (hp : VPure P f args fun r => Soft r v) (hv : v.isF = true) : VPure P f args fun r => r = v := hp.alt fun r h => ⟨v, h, hv, rfl⟩
theorem soft_rfl {v : PV} (h : v.isF = true) : Soft v v := .same v h
theorem soft_tup {l l2 : List PV} (h : AltL VHeap.empty 0 (fun _ => true) id l l2) : Soft (.tup l) (.tup l2) := .tup' h
def getW (s : List Wit) (id : Int) : Option Wit := s.find? fun w => decide (w.id = id)
def zW : PV := .agg [.int .i64 0, .int .i64 0, .sl0, .sl0, .sl0, .int .i64 0, .int .i64 0]
attribute [local simp] zW tup2
inductive KinR where
  | err (e : Int)
  | text (c : Wit)
  | of (c p : Wit)
def KinR.enc : KinR → PV
 | .err e => .tup [zW, .ptr0, .int .i64 e]
 | .text c => .tup [encW c, .ptr0, .int .i64 0]
 | .of c p => .tup [encW c, .vp (encW p).cells, .int .i64 0]
theorem getW_mem {s : List Wit} {id : Int} {c : Wit} (h : getW s id = some c) : c ∈ s ∧ c.id = id := by
 unfold getW at h
 exact ⟨List.mem_of_find?_eq_some h, by simpa using List.find?_some h⟩
end Go.Am.Ds
end
section
namespace Go.Am.Ds
open Go Go.Am Go.Proofs
set_option maxRecDepth 100000
set_option maxHeartbeats 4000000
set_option linter.unusedSimpArgs false
set_option linter.unusedVariables false
attribute [local simp] vrun vwanted vyielded vop vopA vputAll VHeap.back hidI hidF backL bm Nat.testBit_eq_decide_div_mod_eq veval vevals vparts vO vbuiltin vlen vappend velems vcopy vmakeSlice vbuildSlice valloc vbox vmakeMap vload vpartT vpart vstore vfieldAddr vfield vindexAddr vindex vextract vslice vsliceZ vbounds vbnd zeroO vidx vlookup vmget vmapUpdate vdelete vclear vnilq vnilp vnils vbin vsc vsc1 vscs vscl abinOp aint ashift aunOp aconvert amaxs amax2 pvcV pvc pvcs tput tget vargs VHeap.get VHeap.alloc VHeap.put VHeap.drop VHeap.empty vlook vput vdrop psplice pfill preps chunk List.range List.range.loop vresults vresult vresultV frz frzL PV.isF PV.allF PV.scal PV.allS retP subT allFT PV.one PV.ids PV.idsL dropL beq_eq ble_dec blt_dec
attribute [local simp] zW tup2
def idsS (s : List Wit) : List Int := (s.map Wit.id).mergeSort fun x y => decide (x ≤ y)
def ariS (c p : Wit) : List Int := c.slips.filter fun n => !decide (n ∈ setK [p.slips])
def stepP (s : List Wit) (c : Wit) (id : Int) : Option (Int × Int) := match getW s id with
 | none => none
 | some p => if (whyP c p).1 = 0 then some (id, ((ariS c p).length : Int)) else none
def headP (c : Wit) : List (Int × Int) := if lastS c 0 = 0 then [(0,(c.slips.length : Int))] else []
def parS (s : List Wit) (c : Wit) : List (Int × Int) := headP c ++ (idsS s).filterMap (stepP s c)
theorem idsS_mem {s : List Wit} {id : Int} : id ∈ idsS s ↔ ∃ w ∈ s, w.id = id := by
 unfold idsS
 rw [(List.mergeSort_perm _ _).mem_iff, List.mem_map]
theorem idsS_len (s : List Wit) : (idsS s).length = s.length := by unfold idsS; simp
theorem p99' (s : List Wit) (hl : s.length < 4294967296) : VPure Tryz.prog 99 [encS s] fun r => r = ints (idsS s) := p99 s hl
end Go.Am.Ds
end
