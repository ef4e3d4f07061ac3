/-
 What is used in the proof of a statement (part SlI7); no condition.
-/
import Derived.Test.YthnmgbgmlhackaaGreatDoorSlH
import Derived.Test.YthnmgbgmlhackaaGreatDoorSlI2
set_option linter.all false
set_option maxHeartbeats 40000000
set_option maxRecDepth 100000
section
namespace Go.Am.Sl
open Go Go.Am Go.Proofs Tryz
theorem S7:(prog.stoodInHeld 158||prog.eqGuardType prog.depth 158)=false:=by decide +kernel
theorem n158:(match prog.underlying 158 with|some (.struct fs)=>fs.toList.map (fun f=>(f.name == "_", dH prog f.type,f.type,f.offset))|_=>[])=[(false,some 1,3,0),(false,some 1,3,1)]:=by decide +kernel
theorem Eg (a0 a1 b0 b1:Int):eB prog 158 (.agg #[.int .i64 a0,.int .i64 a1]) (.agg #[.int .i64 b0,.int .i64 b1])=some (a0==b0&&a1==b1):=by
 have hn:=n158
 have hg:=S7
 unfold eB
 simp only
 cases hu:prog.underlying 158 with
 |none=>rw[hu] at hn;simp at hn
 |some td=>
  cases td with
  |struct fs=>
   rw[hu] at hn
   simp only at hn ⊢
   rw[hg]
   simp only[bx]
   generalize fs.toList=l at hn
   rcases l with _|⟨f1,_|⟨f2,_|⟨f3,r⟩⟩⟩
   ·simp at hn
   ·simp at hn
   ·simp only[List.map_cons,List.map_nil,List.cons.injEq,bO,and_true] at hn
    obtain⟨⟨F8,F9,Ga,Gb⟩,⟨Gc,Gd,Ge,Gf⟩⟩:=hn
    simp only[wg,F8,F9,Ga,Gb,Gc,Gd,Ge,Gf,bx]
    have ha:bK prog 3=some false:=by decide +kernel
    have yO:prog.underlying 3=some (.int .i64):=by rfl
    simp[apart,ha,Df,yO]
    cases a0==b0<;>cases a1==b1<;>rfl
   simp at hn
  |_=>rw[hu] at hn;simp at hn
theorem CL:AH prog 167=some (158,3,2):=by decide +kernel
attribute [local simp] de fQ lz dz dN jD af.back b6 dG iO bm Nat.testBit_eq_decide_div_mod_eq ct gf jB vO kN dX kO gE cJ jR jQ kK dY kL j9 jq ly j8 kM kF kC kG kD kE kH kI jM di ig dd kP jS ka kQ kR jL ls lu dW jC dy dx dA iL dK jY jO jP gX kz a7 j7 dw bA bC ja af.get af.alloc af.put af.drop af.empty bq cg gd gR fe cp chunk List.range List.range.loop iP lA jr bI bG PV.aD PV.az PV.b8 PV.dv eu dZ kc PV.one PV.ids PV.bT fJ beq_eq lQ l9
attribute [local simp] cQ bQ cw jU Eg lD CL jE jN jc ef dD
attribute [local simp ↓ high] mG ma
theorem Be (c:aj):Sub c (dS c):=(Sub.graph c).filter _
end Go.Am.Sl
end
