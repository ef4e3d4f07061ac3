/-
 What is used in the proof of a statement (part SlI14); no condition.
-/
import Derived.Test.YthnmgbgmlhackaaGreatDoorSlH
import Derived.Test.YthnmgbgmlhackaaGreatDoorSlI0
import Derived.Test.YthnmgbgmlhackaaGreatDoorSlI7
set_option linter.all false
set_option maxHeartbeats 40000000
set_option maxRecDepth 100000
section
namespace Go.Am.Sl
open Go Go.Am Go.Proofs
attribute [local simp] de fQ lz dz dN jD af.back b6 dG iO bm Nat.testBit_eq_decide_div_mod_eq ct gf jB vO kN dX kO gE cJ jR jQ kK dY kL j9 jq ly j8 kM kF kC kG kD kE kH kI jM di ig dd kP jS ka kQ kR jL ls lu dW jC dy dx dA iL dK jY jO jP gX kz a7 j7 dw bA bC ja af.get af.alloc af.put af.drop af.empty bq cg gd gR fe cp chunk List.range List.range.loop iP lA jr bI bG PV.aD PV.az PV.b8 PV.dv eu dZ kc PV.one PV.ids PV.bT fJ beq_eq lQ l9
attribute [local simp] cQ bQ cw jU Eg lD CL jE jN jc ef dD
attribute [local simp ↓ high] mG ma
attribute [local simp] cQ bQ cw oL ef dD
theorem Ss (x:ay):∃k a i l w,bZ x=.agg [.int .i64 x.i,.int .i64 x.j,.int .i64 x.i',.int .i64 x.j',.int .i64 x.n,.bool x.s.isNone,.int .i64 k,.int .i64 a,.int .i64 i,.int .i64 l,.int .i64 w]∧(∀s,kV s x=(!x.s.isNone&&(k==s.k&&a==s.a&&i==s.i&&l==s.l&&w==s.w)))∧∀s,x.s=some s→s=⟨k,a,i,l,w⟩:=by
 unfold bZ kV
 cases x.s with
 |none=>exact⟨_,_,_,_,_,rfl,fun s=>rfl,fun s h=>by cases h⟩
 |some s0=>
  refine⟨_,_,_,_,_,rfl,fun s=>?_,fun s h=>by injection h with h;rw[← h]⟩
  obtain⟨a,b,c,d,e⟩:=s
  obtain⟨a',b',c',d',e'⟩:=s0
  simp only[aB,ak.mk.injEq]
  rw[Bool.eq_iff_iff]
  simp[and_assoc]
end Go.Am.Sl
end
