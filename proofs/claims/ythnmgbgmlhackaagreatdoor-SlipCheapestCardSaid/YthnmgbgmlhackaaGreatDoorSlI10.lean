/-
 What is used in the proof of a statement (part SlI10); no condition.
-/
import Derived.Test.YthnmgbgmlhackaaGreatDoorSlH
import Derived.Test.YthnmgbgmlhackaaGreatDoorSlI0
set_option linter.all false
set_option maxHeartbeats 40000000
set_option maxRecDepth 100000
section
namespace Go.Am.Sl
open Go Go.Am Go.Proofs Tryz
attribute [local simp] de fQ lz dz dN jD af.back b6 dG iO bm Nat.testBit_eq_decide_div_mod_eq ct gf jB vO kN dX kO gE cJ jR jQ kK dY kL j9 jq ly j8 kM kF kC kG kD kE kH kI jM di ig dd kP jS ka kQ kR jL ls lu dW jC dy dx dA iL dK jY jO jP gX kz a7 j7 dw bA bC ja af.get af.alloc af.put af.drop af.empty bq cg gd gR fe cp chunk List.range List.range.loop iP lA jr bI bG PV.aD PV.az PV.b8 PV.dv eu dZ kc PV.one PV.ids PV.bT fJ beq_eq lQ l9
attribute [local simp] cQ bQ cw jU oL lD jE jN jc ef dD
attribute [local simp ↓ high] mG ma
attribute [local simp] cQ bQ cw jU lD jE jN jc ef dD
variable [bE] in
theorem Sf (a b:List Int)(ha:a.length<4611686018427387904)(hb:b.length<4611686018427387904):aI prog 45 [ints a,ints b] fun r=>r=.bool (decide (a=b)):=by
 refine .bJ func45 rfl rfl ?_
 refine .sr ?_
 refine .seq (.sr ?_)
 refine .cs ?_ ?_<;>intro fp
 ·try simp at fp
  have db:decide (a=b)=false:=by
   rw[decide_eq_false_iff_not];intro h;rw[h] at fp;simp at fp
  refine .sr ?_
  refine .ret (ax ?_)
  rw[db]
 try simp at fp
 have hlen:b.length=a.length:=by omega
 refine .skip (.seq (.sr ?_))
 refine .block ?_
 refine .cZ (fun i:Nat=>([(0,ints a),(1,ints b),(5,.int .i64 i)],af.empty)) (fun i=>i≤a.length∧a.take i=b.take i) (fun i=>a.length - i) 0 ⟨by simp,by simp⟩ (.pure (by simp[*]) (by simp)) ?_
 rintro i ⟨hi,ht⟩
 simp only at hi ht ⊢
 refine .seq (.sr ?_)
 refine .cs ?_ ?_<;>intro iy
 ·try simp at iy
  have cR:=iQ i
  have sj:i<a.length:=by omega
  have AZ:i<b.length:=by omega
  obtain⟨x,hx⟩:∃x,a[i]?=some x:=⟨_,List.getElem?_eq_getElem sj⟩
  obtain⟨y,hy⟩:∃y,b[i]?=some y:=⟨_,List.getElem?_eq_getElem AZ⟩
  have ic:a[i]=x:=(List.getElem?_eq_some_iff.1 hx).2
  have zn:b[i]=y:=(List.getElem?_eq_some_iff.1 hy).2
  refine .skip (.seq (.block (.seq ?_)))
  refine .drawn (ms:=[0,0,3,7,0,0,48,112,255]) (W:=[]) (items:=Fu) rfl ae ae ae ?_
  iterate 9 refine .rx ?_
  refine .done ?_
  refine .cs ?_ ?_<;>intro gx
  ·try simp at gx
   have w6:¬x=y:=gx
   have db:decide (a=b)=false:=by
    rw[decide_eq_false_iff_not];intro h
    rw[h,hy] at hx;injection hx with hx;exact w6 hx.symm
   refine .sr ?_
   refine .ret (ax ?_)
   rw[db]
  try simp at gx
  have w6:x=y:=gx
  refine .skip (.rn ?_)
  refine⟨i+1,⟨ba,?_⟩,ba,.pure (by simp[*]) (by simp)⟩
  rw[List.take_succ_eq_append_getElem sj,List.take_succ_eq_append_getElem AZ,ht,ic,zn,w6]
 try simp at iy
 obtain rfl:i=a.length:=by omega
 have db:decide (a=b)=true:=by
  rw[decide_eq_true_eq]
  rw[List.take_length,← hlen,List.take_length] at ht
  exact ht
 refine .exit (.sr ?_)
 refine .ret (ax ?_)
 rw[db]
end Go.Am.Sl
end
