/-
 What is used in the proof of a statement (part SlI1); no condition.
-/
import Derived.Test.YthnmgbgmlhackaaGreatDoorSlH
set_option linter.all false
set_option maxHeartbeats 40000000
set_option maxRecDepth 100000
section
namespace Go.Am.Sl
open Go Go.Am Go.Proofs
attribute [local simp] de fQ lz dz dN jD af.back b6 dG iO bm Nat.testBit_eq_decide_div_mod_eq ct gf jB vO kN dX kO gE cJ jR jQ kK dY kL j9 jq ly j8 kM kF kC kG kD kE kH kI jM di ig dd kP jS ka kQ kR jL ls lu dW jC dy dx dA iL dK jY jO jP gX kz a7 j7 dw bA bC ja af.get af.alloc af.put af.drop af.empty bq cg gd gR fe cp chunk List.range List.range.loop iP lA jr bI bG PV.aD PV.az PV.b8 PV.dv eu dZ kc PV.one PV.ids PV.bT fJ beq_eq lQ l9
attribute [local simp] cQ bQ cw jU lD jE jN jc ef dD
attribute [local simp ↓ high] mG ma
def qK (c:aj):List (List Int):=(List.range (c.t.length+1)).map (kl c)
theorem KP (c:aj):lJ c (c.t.length+1)=(qK c).map ints:=by unfold lJ qK;rw[List.map_map];rfl
end Go.Am.Sl
end
