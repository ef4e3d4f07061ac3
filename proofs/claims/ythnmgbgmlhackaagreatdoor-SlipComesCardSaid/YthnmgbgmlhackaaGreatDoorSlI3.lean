/-
 What is used in the proof of a statement (part SlI3); no condition.
-/
import Derived.Test.YthnmgbgmlhackaaGreatDoorSlH
import Derived.Test.YthnmgbgmlhackaaGreatDoorSlI0
set_option linter.all false
set_option maxHeartbeats 40000000
set_option maxRecDepth 100000
section
namespace Go.Am.Sl
open Go Go.Am Go.Proofs Tryz
attribute [local simp] de fQ lz dz dN jD af.back b6 dG iO bm Nat.testBit_eq_decide_div_mod_eq ct gf jB vO kN dX kO gE cJ jR jQ kK dY kL j9 jq ly j8 kM kF kC kG kD kE kH kI jM di ig dd kP jS ka kQ kR jL ls lu dW jC dy dx dA iL dK jY jO jP gX kz a7 j7 dw bA bC ja af.get af.alloc af.put af.drop af.empty bq cg gd gR fe cp chunk List.range List.range.loop iP lA jr bI bG PV.aD PV.az PV.b8 PV.dv eu dZ kc PV.one PV.ids PV.bT fJ beq_eq lQ l9
attribute [local simp] cQ bQ cw jU oL lD jE jN jc ef dD
attribute [local simp ↓ high] mG ma
attribute [local simp] cQ bQ cw jU lD jE jN jc ef dD
def pR (c:aj):Bool:=decide (c.t.length≤14∧c.c.length≤14∧c.g.length≤6∧c.mx.length≤20)
variable [bE] in
theorem NU (c:aj):aI prog 19 [aA c] fun r=>r=.bool (pR c):=by
 have hC:cu c=(cQ c):=rfl
 unfold aA
 rw[hC]
 refine .bJ func19 rfl rfl ?_
 refine .sr ?_
 refine .seq (.ar K3 rfl ae (.rn fR _ ?_))
 refine .split (t:=7) rfl (fun c7=>?_) (fun c7=>?_)
 ·try rw[c7]
  try simp at c7
  refine .rn [5,6,7,8,9,10] _ ?_
  refine .split (t:=13) rfl (fun gz=>?_) (fun gz=>?_)
  ·try rw[gz]
   try simp at gz
   refine .rn [11,12,13,14,15,16] _ ?_
   refine .split (t:=19) rfl (fun gG=>?_) (fun gG=>?_)
   ·try rw[gG]
    try simp at gG
    refine .rn [17,18,19,20,21,22,23] [] ?_
    refine .done (.ret (ax ?_))
    refine congrArg PV.bool ?_
    rw[Bool.eq_iff_iff]
    simp[pR]<;>omega
   try rw[gG]
   try simp at gG
   refine .rn [17,18,19,20,21,22,23] [] ?_
   refine .done (.ret (ax ?_))
   refine congrArg PV.bool ?_
   rw[Bool.eq_iff_iff]
   simp[pR]<;>omega
  try rw[gz]
  try simp at gz
  refine .rn [11,12,13,14,15,16,17,18,19,20,21,22,23] [] ?_
  refine .done (.ret (ax ?_))
  refine congrArg PV.bool ?_
  rw[Bool.eq_iff_iff]
  simp[pR]<;>omega
 try rw[c7]
 try simp at c7
 refine .rn [5,6,7,8,9,10,11,12,13,14,15,16,17,18,19,20,21,22,23] [] ?_
 refine .done (.ret (ax ?_))
 refine congrArg PV.bool ?_
 rw[Bool.eq_iff_iff]
 simp[pR]<;>omega
end Go.Am.Sl
end
