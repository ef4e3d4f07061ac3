/-
 What is used in the proof of a statement (part DsG); no condition.
-/
import Derived.Test.YtnablaecbohhmaaGreatDsT
import Derived.Test.YtnablaecbohhmaaGreatVm2
import Derived.Test.YtnablaecbohhmaaGreatDsF
set_option linter.all false
section
namespace Go.Am.Ds
open Go Go.Am Go.Proofs
set_option maxRecDepth 100000
set_option maxHeartbeats 4000000
set_option linter.unusedSimpArgs false
set_option linter.unusedVariables false
attribute [local simp] vrun vwanted vyielded vop vopA vputAll VHeap.back hidI hidF backL bm Nat.testBit_eq_decide_div_mod_eq veval vevals vparts vO vbuiltin vlen vappend velems vcopy vmakeSlice vbuildSlice valloc vbox vmakeMap vload vpartT vpart vstore vfieldAddr vfield vindexAddr vindex vextract vslice vsliceZ vbounds vbnd zeroO vidx vlookup vmget vmapUpdate vdelete vclear vnilq vnilp vnils vbin vsc vsc1 vscs vscl abinOp aint ashift aunOp aconvert amaxs amax2 pvcV pvc pvcs tput tget vargs VHeap.get VHeap.alloc VHeap.put VHeap.drop VHeap.empty vlook vput vdrop psplice pfill preps chunk List.range List.range.loop vresults vresult vresultV frz frzL PV.isF PV.allF PV.scal PV.allS retP subT allFT PV.one PV.ids PV.idsL dropL beq_eq ble_dec blt_dec
attribute [local simp] zW tup2
def stepC (x : List Int × Int) (y : Int × Int) : List Int × Int := if x.1 ≠ [] ∧ x.2 < y.2 then x else if x.1 = [] ∨ y.2 < x.2 then ([y.1], y.2) else (x.1 ++ [y.1], x.2)
def choF (s : List Wit) (c : Wit) : List Int × Int := (parS s c).foldl stepC ([],0)
def encC (x : List Int × Int) : PV := .agg [ints x.1, .int .i64 x.2]
@[simp] theorem allSz_encC (l : List (List Int × Int)) : allSz 2 (l.map encC) = true := allSz_map (f := encC) (n := 2) (fun _ => rfl) l
@[simp] theorem allOne_encC (l : List (List Int × Int)) : allOne (l.map encC) = true := allOne_map (f := encC) (fun _ => rfl) l
def chE (s : List Wit) : Int := if checkS s = 0 then (if ∃ c ∈ s, (choF s c).1 = [] then 9 else 0) else checkS s
def chL (s : List Wit) : List (List Int × Int) := if chE s = 0 then s.map (choF s) else []
end Go.Am.Ds
end
