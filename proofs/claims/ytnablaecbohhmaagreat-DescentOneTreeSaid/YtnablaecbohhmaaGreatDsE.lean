/-
 What is used in the proof of a statement (part DsE); no condition.
-/
import Derived.Test.YtnablaecbohhmaaGreatVm2
import Derived.Test.YtnablaecbohhmaaGreatDsT
set_option linter.all false
set_option maxHeartbeats 40000000
set_option maxRecDepth 100000
section
namespace Go.Am.Ds
open Go Go.Am Go.Proofs Tryz
noncomputable def spc (f:Nat):Option (Orc→List Value→zaa→Option (Value×zaa)):=cond (Nat.beq f 125) (some fun _=>srtV) (cond (Nat.beq f 158) (some fun _=>cpyV 0) none)
noncomputable def orc0:Orc:=evK prog 0 (zrr tabL) spc 100000 60
end Go.Am.Ds
end
namespace Go.Am.Ds
open Go
def zn (z:Int):Value:=.int .i64 z
def zN(l:List Int):List Value:=l.map zn
def zm:Nat:=4611686018427387904
def zo:Value:=.slice none 0 0
def zs (a b c:Nat):Value:=.slice (some ⟨a,0,none⟩) b c
end Go.Am.Ds
