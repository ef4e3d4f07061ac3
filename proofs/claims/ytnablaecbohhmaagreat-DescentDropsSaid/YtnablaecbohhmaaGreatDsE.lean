/-
  What is used in the proof of a statement (part DsE); no condition.
-/
import Derived.Test.YtnablaecbohhmaaGreatVm2
import Derived.Test.YtnablaecbohhmaaGreatDsT
set_option linter.all false
section
namespace Go.Am.Ds
open Go Go.Am Go.Proofs
noncomputable def spc (f : Nat) : Option (List Value → AHeap → Option (Value × AHeap)) := cond (Nat.beq f 125) (some srtV) (cond (Nat.beq f 158) (some (cpyV 0)) none)
noncomputable def orc0 : Orc := evK Tryz.prog 0 (lookFE tabL) spc 100000 60
end Go.Am.Ds
end
