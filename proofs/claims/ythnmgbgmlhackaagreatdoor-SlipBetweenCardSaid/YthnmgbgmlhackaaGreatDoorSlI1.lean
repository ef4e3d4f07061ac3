/-
 What is used in the proof of a statement (part SlI1); no condition.
-/
import Derived.Test.YthnmgbgmlhackaaGreatDoorSlH
import Derived.Test.YthnmgbgmlhackaaGreatDoorSlK0
import Derived.Test.YthnmgbgmlhackaaGreatDoorSlI0
set_option linter.all false
set_option maxHeartbeats 40000000
set_option maxRecDepth 100000
section
namespace Go.Am.Sl
open Go Go.Am Go.Proofs Tryz
attribute [local simp] eQ ij pV dH gk mz ai.back cS fW lg bm Nat.testBit_eq_decide_div_mod_eq cC iE mw vO ph gF pj iP cU nG nF pe gG pf n4 lZ pT n3 pg o7 o4 o8 o5 o6 o9 pa mR eZ jW eP pn nH oc po pq mQ pR pS gE my fK fy fL kV gg nS nv ny jF oR bj nZ fx bP bK lD ai.get ai.alloc ai.put ai.drop ai.empty bt cZ iw jn gA cz chunk List.range List.range.loop lh pW l9 bI b6 PV.aG PV.aF PV.dc PV.fu gY gH od PV.one PV.ids PV.cF gI beq_eq qD rE
attribute [local simp] cQ bQ fN pZ Bz ti p7 p9 pw gJ fI
attribute [local simp ↓ high] sD rJ
attribute [local simp] cQ bQ fN pZ ti p7 p9 pw gJ fI
def qo (c:aj):Bool:=decide (c.t.length≤14∧c.c.length≤14∧c.g.length≤6∧c.mx.length≤20)
variable [bF] in
theorem V6 (c:aj):aN prog 19 [aH c] fun r=>r=.bool (qo c):=by
 have hC:cR c=(cQ c):=rfl
 unfold aH
 rw[hC]
 refine .bT func19 rfl rfl ?_
 refine .sr ?_
 refine .seq (.ay [0,1,2,3,4,5,6,7,8,9,10,11,12,13,14,15,16,17,18,19,20,21,22,23] rfl ae (.rn gQ _ ?_))
 refine .split (t:=7) rfl (fun c7=>?_) (fun c7=>?_)
 ·try rw[c7]
  try simp at c7
  refine .rn [5,6,7,8,9,10] _ ?_
  refine .split (t:=13) rfl (fun jz=>?_) (fun jz=>?_)
  ·try rw[jz]
   try simp at jz
   refine .rn [11,12,13,14,15,16] _ ?_
   refine .split (t:=19) rfl (fun iU=>?_) (fun iU=>?_)
   ·try rw[iU]
    try simp at iU
    refine .rn [17,18,19,20,21,22,23] [] ?_
    refine .done (.ret (au ?_))
    refine congrArg PV.bool ?_
    rw[Bool.eq_iff_iff]
    simp[qo]<;>omega
   try rw[iU]
   try simp at iU
   refine .rn [17,18,19,20,21,22,23] [] ?_
   refine .done (.ret (au ?_))
   refine congrArg PV.bool ?_
   rw[Bool.eq_iff_iff]
   simp[qo]<;>omega
  try rw[jz]
  try simp at jz
  refine .rn [11,12,13,14,15,16,17,18,19,20,21,22,23] [] ?_
  refine .done (.ret (au ?_))
  refine congrArg PV.bool ?_
  rw[Bool.eq_iff_iff]
  simp[qo]<;>omega
 try rw[c7]
 try simp at c7
 refine .rn [5,6,7,8,9,10,11,12,13,14,15,16,17,18,19,20,21,22,23] [] ?_
 refine .done (.ret (au ?_))
 refine congrArg PV.bool ?_
 rw[Bool.eq_iff_iff]
 simp[qo]<;>omega
end Go.Am.Sl
end
