/-
 What is used in the proof of a statement (part SlI0); no condition.
-/
import Derived.Test.YthnmgbgmlhackaaGreatDoorSlH
set_option linter.all false
set_option maxHeartbeats 40000000
set_option maxRecDepth 100000
section
namespace Go.Am.Sl
def c0:aj:=sv [5,7,8,6,6]
theorem HX:aN c0=0:=by decide +kernel
theorem XW:eR c0=8:=by decide +kernel
theorem xk4:lH c0=uh:=by decide +kernel
theorem xiu:tj c0=1:=by decide +kernel
theorem z9w:gU c0 (ql c0)=uh:=by decide +kernel
theorem xjc:o0 c0 c0.t.length=[0,1,6]:=by decide +kernel
theorem xfi:pI c0 c0.t.length=[0,1,6]:=by decide +kernel
theorem xja:ij c0 4=((2,2),0):=by decide +kernel
theorem xlx:qk c0 ⟨2,2,2,0,0⟩=some 9:=by decide +kernel
theorem xkc:ny c0 ⟨3,2,2,3,0⟩=15:=by decide +kernel
theorem xmd:aS (sv [5,7,3,11,9,7,4,6]) 7 8=2:=by decide +kernel
theorem xnf:aS (sv [5,7,3,9,7,7,4,6]) 7 8=3:=by decide +kernel
theorem xe1:u4 c0 uh 0=0:=by decide +kernel
def c1:aj:={ c0 with t:=[3,4],c:=[9],g:=[] }
theorem XX:aN c1=0:=by decide +kernel
theorem xde:tj c1=3:=by decide +kernel
theorem z9r:(gU c1 (fun _=>true)).length=7:=by decide +kernel
def Ed:List (List Int):=(List.range 8).map (kl c0)
theorem xkw:um c0 uh 8 Ed=0:=by decide +kernel
theorem xch:aN (sv [5,7,3,11,9,7,4,6])=0:=by decide +kernel
theorem xc2:aN (sv [5,7,3,9,7,7,4,6])=0:=by decide +kernel
theorem xhc:lJ c0 8=Ed.map ints:=by unfold lJ Ed;rw[List.map_map];rfl
open Go Go.Am Go.Proofs Tryz
attribute [local simp] de fQ lz dz dN jD af.back b6 dG iO bm Nat.testBit_eq_decide_div_mod_eq ct gf jB vO kN dX kO gE cJ jR jQ kK dY kL j9 jq ly j8 kM kF kC kG kD kE kH kI jM di ig dd kP jS ka kQ kR jL ls lu dW jC dy dx dA iL dK jY jO jP gX kz a7 j7 dw bA bC ja af.get af.alloc af.put af.drop af.empty bq cg gd gR fe cp chunk List.range List.range.loop iP lA jr bI bG PV.aD PV.az PV.b8 PV.dv eu dZ kc PV.one PV.ids PV.bT fJ beq_eq lQ l9
theorem g44:(prog.stoodInHeld 44||prog.eqGuardType prog.depth 44)=false:=by decide +kernel
theorem n44:(match prog.underlying 44 with|some (.struct fs)=>fs.toList.map (fun f=>(f.name == "_", dH prog f.type,f.type,f.offset))|_=>[])=[(false,some 1,3,0),(false,some 1,3,1)]:=by decide +kernel
theorem oL (a0 a1 b0 b1:Int):eB prog 44 (.agg #[.int .i64 a0,.int .i64 a1]) (.agg #[.int .i64 b0,.int .i64 b1])=some (a0==b0&&a1==b1):=by
 have hn:=n44
 have hg:=g44
 unfold eB
 simp only
 cases hu:prog.underlying 44 with
 |none=>rw[hu] at hn;simp at hn
 |some td=>
  cases td with
  |struct fs=>
   rw[hu] at hn
   simp only at hn ⊢
   rw[hg]
   simp only[bx]
   generalize fs.toList=l at hn
   rcases l with _|⟨f1,_|⟨f2,_|⟨f3,r⟩⟩⟩
   ·simp at hn
   ·simp at hn
   ·simp only[List.map_cons,List.map_nil,List.cons.injEq,bO,and_true] at hn
    obtain⟨⟨F8,F9,Ga,Gb⟩,⟨Gc,Gd,Ge,Gf⟩⟩:=hn
    simp only[wg,F8,F9,Ga,Gb,Gc,Gd,Ge,Gf,bx]
    have ha:bK prog 3=some false:=by decide +kernel
    have yO:prog.underlying 3=some (.int .i64):=by rfl
    simp[apart,ha,Df,yO]
    cases a0==b0<;>cases a1==b1<;>rfl
   simp at hn
  |_=>rw[hu] at hn;simp at hn
attribute [local simp] cQ bQ cw jU oL lD jE jN jc ef dD
attribute [local simp ↓ high] mG ma
theorem zz (l:List Int)(h:l.length<100):BC (sv l):=⟨by show 1<_;decide,by show 7<_;decide,by show l.length<_;omega,by show 1<_;decide,fun x hx=>by simp only[sv,List.mem_singleton] at hx;subst hx;show 1<_;decide⟩
theorem XY:BC c1:=⟨by show 1<_;decide,by show 2<_;decide,by show 1<_;decide,by show 0<_;decide,fun x hx=>by cases hx⟩
theorem xae:Ck c0 uh 0=[⟨1,5,5,0,8⟩,⟨4,7,7,1,0⟩]:=by decide +kernel
theorem xa2:zg c0 uh 0=sv [5,7,3,9,7,8,6,6]:=by decide +kernel
theorem CF:aA c0=.agg [.int .i64 4,.int .i64 3,.int .i64 3,.int .i64 2,.int .i64 5,.vec [bD ⟨4,8,2⟩],ints [5,7,3,9,7,4,6],.vec [cy ⟨3,[11]⟩],ints [5,7,8,6,6]]:=rfl
theorem NO:aA c1=.agg [.int .i64 4,.int .i64 3,.int .i64 3,.int .i64 2,.int .i64 5,.vec [bD ⟨4,8,2⟩],ints [3,4],.vec [],ints [9]]:=rfl
theorem hCm:aA (sv [5,7,3,9,7,8,6,6])=.agg [.int .i64 4,.int .i64 3,.int .i64 3,.int .i64 2,.int .i64 5,.vec [bD ⟨4,8,2⟩],ints [5,7,3,9,7,4,6],.vec [cy ⟨3,[11]⟩],ints [5,7,3,9,7,8,6,6]]:=rfl
theorem HY:uh.map encS=[.agg [.int .i64 3,.int .i64 2,.int .i64 2,.int .i64 3,.int .i64 0],.agg [.int .i64 1,.int .i64 5,.int .i64 2,.int .i64 0,.int .i64 8],.agg [.int .i64 4,.int .i64 7,.int .i64 4,.int .i64 1,.int .i64 0]]:=rfl
theorem xa3:Ed.length=8:=rfl
theorem xbw:∀r∈Ed,r.length<4611686018427387904:=by
 intro r hr
 obtain⟨i,_,rfl⟩:=List.mem_map.1 hr
 unfold kl
 rw[List.length_map,List.length_range]
 show 6<_;decide
section
variable [bE]
theorem r21:aI prog 21 [.agg [.int .i64 4,.int .i64 3,.int .i64 3,.int .i64 2,.int .i64 5,.vec [bD ⟨4,8,2⟩],ints [5,7,3,9,7,4,6],.vec [cy ⟨3,[11]⟩],ints [5,7,8,6,6]]] fun r=>r=.bz [.agg [.vec [.agg [.int .i64 3,.int .i64 2,.int .i64 2,.int .i64 3,.int .i64 0],.agg [.int .i64 1,.int .i64 5,.int .i64 2,.int .i64 0,.int .i64 8],.agg [.int .i64 4,.int .i64 7,.int .i64 4,.int .i64 1,.int .i64 0]],.int .i64 8,.vec (Ed.map ints)],.int .i64 0]:=by
 have h:=HT c0 (zz _ (by decide))
 rw[HX,if_pos rfl,if_pos rfl,if_pos rfl,xk4,XW,CF,HY,show c0.t.length+1=8 from rfl,xhc] at h
 exact aI.soft h (by simp[PV.aD,PV.az])
theorem r48:aI prog 48 [.agg [.int .i64 4,.int .i64 3,.int .i64 3,.int .i64 2,.int .i64 5,.vec [bD ⟨4,8,2⟩],ints [5,7,3,9,7,4,6],.vec [cy ⟨3,[11]⟩],ints [5,7,8,6,6]]] fun r=>r=.bz [.int .i64 1,.int .i64 0]:=by
 have h:=Qy c0 (zz _ (by decide))
 rw[HX,if_pos rfl,xiu,CF] at h
 exact h
theorem r26:aI prog 26 [.agg [.int .i64 4,.int .i64 3,.int .i64 3,.int .i64 2,.int .i64 5,.vec [bD ⟨4,8,2⟩],ints [5,7,3,9,7,4,6],.vec [cy ⟨3,[11]⟩],ints [5,7,8,6,6]]] fun r=>r=.bz [.vec [.agg [.int .i64 3,.int .i64 2,.int .i64 2,.int .i64 3,.int .i64 0],.agg [.int .i64 1,.int .i64 5,.int .i64 2,.int .i64 0,.int .i64 8],.agg [.int .i64 4,.int .i64 7,.int .i64 4,.int .i64 1,.int .i64 0]],.int .i64 0]:=by
 have h:=QR c0 (zz _ (by decide))
 rw[HX,if_pos rfl,z9w,CF,HY] at h
 exact aI.soft h (by simp[PV.aD,PV.az])
theorem r22:aI prog 22 [.agg [.int .i64 4,.int .i64 3,.int .i64 3,.int .i64 2,.int .i64 5,.vec [bD ⟨4,8,2⟩],ints [5,7,3,9,7,4,6],.vec [cy ⟨3,[11]⟩],ints [5,7,8,6,6]]] fun r=>r=.bz [ints [0,1,6],ints [0,1,6],.int .i64 0]:=by
 have h:=QU c0 (zz _ (by decide))
 rw[HX,if_pos rfl,if_pos rfl,xjc,xfi,CF] at h
 exact aI.soft h (by simp[PV.aD,PV.az])
theorem r24:aI prog 24 [.agg [.int .i64 4,.int .i64 3,.int .i64 3,.int .i64 2,.int .i64 5,.vec [bD ⟨4,8,2⟩],ints [5,7,3,9,7,4,6],.vec [cy ⟨3,[11]⟩],ints [5,7,8,6,6]],.int .i64 4] fun r=>r=.bz [.agg [.int .i64 2,.int .i64 2],.int .i64 0]:=by
 have h:=Qz c0 4 (zz _ (by decide))
 rw[xja,CF] at h
 exact h
theorem r30:aI prog 30 [.agg [.int .i64 4,.int .i64 3,.int .i64 3,.int .i64 2,.int .i64 5,.vec [bD ⟨4,8,2⟩],ints [5,7,3,9,7,4,6],.vec [cy ⟨3,[11]⟩],ints [5,7,8,6,6]],.agg [.int .i64 2,.int .i64 2,.int .i64 2,.int .i64 0,.int .i64 0]] fun r=>r=.bz [.int .i64 9,.int .i64 0]:=by
 have h:=Qq c0 ⟨2,2,2,0,0⟩ (zz _ (by decide))
 rw[HX,if_pos rfl,if_pos rfl,xlx,if_neg (by decide),CF] at h
 exact h
theorem r32:aI prog 32 [.agg [.int .i64 4,.int .i64 3,.int .i64 3,.int .i64 2,.int .i64 5,.vec [bD ⟨4,8,2⟩],ints [5,7,3,9,7,4,6],.vec [cy ⟨3,[11]⟩],ints [5,7,8,6,6]],.agg [.int .i64 3,.int .i64 2,.int .i64 2,.int .i64 3,.int .i64 0]] fun r=>r=.bz [.int .i64 7,.int .i64 0]:=by
 have h:=Qv c0 ⟨3,2,2,3,0⟩ (zz _ (by decide))
 rw[HX,if_pos rfl,if_pos rfl,xkc,if_pos (by decide),if_pos (by decide),show aS c0 c0.t.length c0.c.length=8 from XW,CF] at h
 exact h
theorem r54:aI prog 54 [.agg [.int .i64 4,.int .i64 3,.int .i64 3,.int .i64 2,.int .i64 5,.vec [bD ⟨4,8,2⟩],ints [5,7,3,9,7,4,6],.vec [cy ⟨3,[11]⟩],ints [5,7,8,6,6]],.vec [.agg [.int .i64 3,.int .i64 2,.int .i64 2,.int .i64 3,.int .i64 0],.agg [.int .i64 1,.int .i64 5,.int .i64 2,.int .i64 0,.int .i64 8],.agg [.int .i64 4,.int .i64 7,.int .i64 4,.int .i64 1,.int .i64 0]],.int .i64 0] fun r=>r=.bz [.agg [.int .i64 4,.int .i64 3,.int .i64 3,.int .i64 2,.int .i64 5,.vec [bD ⟨4,8,2⟩],ints [5,7,3,9,7,4,6],.vec [cy ⟨3,[11]⟩],ints [5,7,3,9,7,8,6,6]],.vec [.agg [.int .i64 1,.int .i64 5,.int .i64 5,.int .i64 0,.int .i64 8],.agg [.int .i64 4,.int .i64 7,.int .i64 7,.int .i64 1,.int .i64 0]],.int .i64 0]:=by
 have h:=Xg c0 uh 0 (zz _ (by decide)) (by decide)
 rw[xe1,xae,xa2,CF,HY,hCm] at h
 exact aI.soft h (by simp[PV.aD,PV.az,encS])
theorem r50:aI prog 50 [.agg [.int .i64 4,.int .i64 3,.int .i64 3,.int .i64 2,.int .i64 5,.vec [bD ⟨4,8,2⟩],ints [5,7,3,9,7,4,6],.vec [cy ⟨3,[11]⟩],ints [5,7,8,6,6]],.agg [.vec [.agg [.int .i64 3,.int .i64 2,.int .i64 2,.int .i64 3,.int .i64 0],.agg [.int .i64 1,.int .i64 5,.int .i64 2,.int .i64 0,.int .i64 8],.agg [.int .i64 4,.int .i64 7,.int .i64 4,.int .i64 1,.int .i64 0]],.int .i64 8,.vec (Ed.map ints)]] fun r=>r=.int .i64 0:=by
 have h:=R7 c0 uh 8 Ed (zz _ (by decide)) (by decide) (by rw[xa3];decide) xbw
 rw[xkw,CF,HY] at h
 exact h
theorem XZ:aI prog 34 [.vec [.agg [.int .i64 3,.int .i64 2,.int .i64 2,.int .i64 3,.int .i64 0],.agg [.int .i64 1,.int .i64 5,.int .i64 2,.int .i64 0,.int .i64 8],.agg [.int .i64 4,.int .i64 7,.int .i64 4,.int .i64 1,.int .i64 0]],.vec [.agg [.int .i64 3,.int .i64 2,.int .i64 2,.int .i64 3,.int .i64 0],.agg [.int .i64 1,.int .i64 5,.int .i64 2,.int .i64 0,.int .i64 8],.agg [.int .i64 4,.int .i64 7,.int .i64 4,.int .i64 1,.int .i64 0]]] fun r=>r=.bool true:=by
 have h:=Rz uh uh (by decide) (by decide)
 rw[HY] at h
 simpa using h
theorem R9 (l:List Int)(hl:l.length<100):aI prog 37 [ints l,ints l] fun r=>r=.bool true:=by
 have h:=KD l l (by omega) (by omega)
 simpa using h
theorem Sa (l:List Int):aI prog 74 [ints l] fun r=>r=.agg [.int .i64 4,.int .i64 3,.int .i64 3,.int .i64 2,.int .i64 5,.vec [bD ⟨4,8,2⟩],ints [5,7,3,9,7,4,6],.vec [cy ⟨3,[11]⟩],ints l]:=p74 l
theorem Sb:aI prog 43 [.agg [.int .i64 4,.int .i64 3,.int .i64 3,.int .i64 2,.int .i64 5,.vec [bD ⟨4,8,2⟩],ints [5,7,3,9,7,4,6],.vec [cy ⟨3,[11]⟩],ints [5,7,3,11,9,7,4,6]]] fun r=>r=.bz [.int .i64 2,.int .i64 0]:=by
 have h:=M8 (sv [5,7,3,11,9,7,4,6]) (zz _ (by decide))
 rw[xch,if_pos rfl,show aS (sv [5,7,3,11,9,7,4,6]) (sv [5,7,3,11,9,7,4,6]).t.length (sv [5,7,3,11,9,7,4,6]).c.length=2 from xmd] at h
 exact h
theorem Sc:aI prog 43 [.agg [.int .i64 4,.int .i64 3,.int .i64 3,.int .i64 2,.int .i64 5,.vec [bD ⟨4,8,2⟩],ints [5,7,3,9,7,4,6],.vec [cy ⟨3,[11]⟩],ints [5,7,3,9,7,7,4,6]]] fun r=>r=.bz [.int .i64 3,.int .i64 0]:=by
 have h:=M8 (sv [5,7,3,9,7,7,4,6]) (zz _ (by decide))
 rw[xc2,if_pos rfl,show aS (sv [5,7,3,9,7,7,4,6]) (sv [5,7,3,9,7,7,4,6]).t.length (sv [5,7,3,9,7,7,4,6]).c.length=3 from xnf] at h
 exact h
theorem Sd:aI prog 48 [.agg [.int .i64 4,.int .i64 3,.int .i64 3,.int .i64 2,.int .i64 5,.vec [bD ⟨4,8,2⟩],ints [3,4],.vec [],ints [9]]] fun r=>r=.bz [.int .i64 3,.int .i64 0]:=by
 have h:=Qy c1 XY
 rw[XX,if_pos rfl,xde,NO] at h
 exact h
theorem r28:aI prog 28 [.agg [.int .i64 4,.int .i64 3,.int .i64 3,.int .i64 2,.int .i64 5,.vec [bD ⟨4,8,2⟩],ints [3,4],.vec [],ints [9]]] fun r=>r=.bz [.vec ((gU c1 (fun _=>true)).map encS),.int .i64 0]:=by
 have h:=QS c1 XY
 rw[XX,if_pos rfl,NO] at h
 exact aI.soft h (by simp[PV.aD,PV.az])
theorem Gg (hN:Names):aI prog 20 [] fun r=>r=.bool true:=by
 have rY:=r28
 obtain⟨l7,Se⟩:∃l,gU c1 (fun _=>true)=l:=⟨_,rfl⟩
 rw[Se] at rY
 have Se:l7.length=7:=by rw[← Se];exact z9r
 have X2:=xft hN
 rw[HY] at X2
 refine .bJ func20 rfl rfl ?_
 refine .sr ?_
 refine .seq (.ar dQ rfl ae (.rn [0] _ ?_))
 refine .step rfl rfl (.take rfl rfl rfl call74 (by decide) (by first|(simp<;>rfl)|(simp[*]<;>rfl)|(simp[*];done)) (Sa [5,7,8,6,6]) ?_)
 rintro _ rfl
 refine .rn [2,3] [] ?_
 refine .done (.sr ?_)
 refine .sr ?_
 refine .seq ?_
 refine .rec (aF:=[(1,.ptr 1 0),(2,.ptr 2 0),(3,.vec [.agg [.int .i64 3,.int .i64 2,.int .i64 2,.int .i64 3,.int .i64 0],.agg [.int .i64 1,.int .i64 5,.int .i64 2,.int .i64 0,.int .i64 8],.agg [.int .i64 4,.int .i64 7,.int .i64 4,.int .i64 1,.int .i64 0]])]) (aZ:=⟨3,[(2,.box [.int .i64 3,.int .i64 2,.int .i64 2,.int .i64 3,.int .i64 0]),(1,.box [.int .i64 4,.int .i64 3,.int .i64 3,.int .i64 2,.int .i64 5,.vec [bD ⟨4,8,2⟩],ints [5,7,3,9,7,4,6],.vec [cy ⟨3,[11]⟩],ints [5,7,8,6,6]])]⟩) (.mk [3] [] gH gY rfl rfl rfl) ?_
 refine .ar js rfl ae (.rn [0] _ ?_)
 refine .pc rfl rfl rfl rfl rfl call21 (r21) ?_
 refine .rn [2,3,4,5,6,7] [] ?_
 refine .done (.seq (.ar gT rfl ae ?_))
 refine .rn [0] _ ?_
 refine .pc rfl rfl rfl rfl rfl call48 (r48) ?_
 refine .rn [2,3,4,5,6] [] ?_
 refine .done (.seq (.ar gT rfl ae ?_))
 refine .rn [0] _ ?_
 refine .pc rfl rfl rfl rfl rfl call26 (r26) ?_
 refine .rn [2,3,4,5,6] [] ?_
 refine .done (.seq (.ar oT rfl ae ?_))
 refine .rn [0] _ ?_
 refine .pc rfl rfl rfl rfl rfl call22 (r22) ?_
 refine .rn [2,3,4,5,6,7,8] [] ?_
 refine .done (.seq (.ar js rfl ae ?_))
 refine .rn [0] _ ?_
 refine .pc rfl rfl rfl rfl rfl call24 (r24) ?_
 refine .rn [2,3,4,5,6,7] [] ?_
 refine .done (.seq (.ar js rfl ae ?_))
 refine .rn [0,1] _ ?_
 refine .pc rfl rfl rfl rfl rfl call30 (r30) ?_
 refine .rn [3,4,5,6,7] [] ?_
 refine .done (.seq (.ar js rfl ae ?_))
 refine .rn [0,1] _ ?_
 refine .pc rfl rfl rfl rfl rfl call32 (r32) ?_
 refine .rn [3,4,5,6,7] [] ?_
 refine .done (.seq (.ar [0,1,2,3,4,5,6,7,8,9,10] rfl ae ?_))
 refine .rn [0,1] _ ?_
 refine .pc rfl rfl rfl rfl rfl call54 (r54) ?_
 refine .rn [3,4,5,6,7,8,9,10] [] ?_
 refine .done (.seq (.ar gT rfl ae ?_))
 refine .rn [0] _ ?_
 refine .pc rfl rfl rfl rfl rfl call75 (X2) ?_
 refine .rn [2,3,4,5,6] [] ?_
 refine .done (.seq (.seq (.ar [0,1,2,3,4,5,6,7,8,9,10,11,12,13,14,15,16,17,18,19,20,21,22,23,24,25,26,27,28,29,30,31,32,33] rfl ae ?_)))
 refine .rn [0,1,2] _ ?_
 refine .split (t:=94) rfl (fun ta=>?_) (fun ta=>?_)
 ·try subst ta
  try simp at ta
 try subst ta
 try simp at ta
 refine .rn [3,4,5,6] _ ?_
 refine .split (t:=98) rfl (fun vi=>?_) (fun vi=>?_)
 ·try subst vi
  try simp at vi
 try subst vi
 try simp at vi
 refine .rn [7,8,9,10] _ ?_
 refine .split (t:=102) rfl (fun ko=>?_) (fun ko=>?_)
 ·try subst ko
  try simp at ko
 try subst ko
 try simp at ko
 refine .rn [11,12,13,14] _ ?_
 refine .split (t:=106) rfl (fun pN=>?_) (fun pN=>?_)
 ·try subst pN
  try simp at pN
 try subst pN
 try simp at pN
 refine .rn [15,16,17,18] _ ?_
 refine .split (t:=110) rfl (fun pO=>?_) (fun pO=>?_)
 ·try subst pO
  try simp at pO
 try subst pO
 try simp at pO
 refine .rn [19,20,21,22] _ ?_
 refine .split (t:=114) rfl (fun fq=>?_) (fun fq=>?_)
 ·try subst fq
  try simp at fq
 try subst fq
 try simp at fq
 refine .rn [23,24,25,26] _ ?_
 refine .split (t:=118) rfl (fun kp=>?_) (fun kp=>?_)
 ·try subst kp
  try simp at kp
 try subst kp
 try simp at kp
 refine .rn [27,28,29,30] _ ?_
 refine .split (t:=122) rfl (fun zA=>?_) (fun zA=>?_)
 ·try subst zA
  try simp at zA
 try subst zA
 try simp at zA
 refine .rn [31,32,33] [] ?_
 refine .done ?_
 refine .cs ?_ ?_<;>intro KN
 ·try simp at KN
 try simp at KN
 refine .skip (.seq (.ar [0,1,2,3,4,5,6,7,8,9,10,11,12,13,14,15,16,17,18,19,20,21,22,23,24,25,26,27,28,29,30,31,32,33,34,35,36,37,38,39,40,41,42,43,44,45,46,47] rfl ae (.rn dQ _ ?_)))
 refine .split (t:=129) rfl (fun zB=>?_) (fun zB=>?_)
 ·try subst zB
  try simp at zB
  refine .rn [4,5,6] _ ?_
  refine .pc rfl rfl rfl rfl rfl call34 (XZ) ?_
  refine .rn [8,9] _ ?_
  refine .split (t:=135) rfl (fun pP=>?_) (fun pP=>?_)
  ·try subst pP
   try simp at pP
   refine .rn [10,11] _ ?_
   refine .pc rfl rfl rfl rfl rfl call50 (r50) ?_
   refine .rn [13,14,15] _ ?_
   refine .split (t:=141) rfl (fun zC=>?_) (fun zC=>?_)
   ·try subst zC
    try simp at zC
    refine .rn [16,17,18,19] _ ?_
    refine .split (t:=145) rfl (fun kq=>?_) (fun kq=>?_)
    ·try subst kq
     try simp at kq
     refine .rn [20,21] _ ?_
     refine .pc rfl rfl rfl rfl rfl call34 (XZ) ?_
     refine .rn [23,24] _ ?_
     refine .split (t:=150) rfl (fun zD=>?_) (fun zD=>?_)
     ·try subst zD
      try simp at zD
      refine .rn [25,26] _ ?_
      refine .step rfl rfl (.take rfl rfl rfl call37 (by decide) (by first|(simp<;>rfl)|(simp[*]<;>rfl)|(simp[*];done)) (R9 [0,1,6] (by decide)) ?_)
      rintro _ rfl
      refine .rn [28,29] _ ?_
      refine .split (t:=155) rfl (fun gV=>?_) (fun gV=>?_)
      ·try subst gV
       try simp at gV
       refine .rn [30,31] _ ?_
       refine .step rfl rfl (.take rfl rfl rfl call37 (by decide) (by first|(simp<;>rfl)|(simp[*]<;>rfl)|(simp[*];done)) (R9 [0,1,6] (by decide)) ?_)
       rintro _ rfl
       refine .rn [33,34] _ ?_
       refine .split (t:=160) rfl (fun zF=>?_) (fun zF=>?_)
       ·try subst zF
        try simp at zF
        refine .rn [35,36,37,38,39] _ ?_
        refine .split (t:=165) rfl (fun fa=>?_) (fun fa=>?_)
        ·try subst fa
         try simp at fa
         refine .rn [40,41,42,43] _ ?_
         refine .split (t:=169) rfl (fun zG=>?_) (fun zG=>?_)
         ·try subst zG
          try simp at zG
          refine .rn [44,45,46,47] [] ?_
          refine .done (.seq (.ar Je rfl ae ?_))
          refine .rn [0,1,2] _ ?_
          refine .step rfl rfl (.take rfl rfl rfl call37 (by decide) (by first|(simp<;>rfl)|(simp[*]<;>rfl)|(simp[*];done)) (R9 [5,7,3,9,7,8,6,6] (by decide)) ?_)
          rintro _ rfl
          refine .rn [4] _ ?_
          refine .split (t:=177) rfl (fun pQ=>?_) (fun pQ=>?_)
          ·try subst pQ
           try simp at pQ
           refine .rn [5,6,7,8,9] _ ?_
           refine .split (t:=182) rfl (fun zH=>?_) (fun zH=>?_)
           ·try subst zH
            try simp at zH
            refine .rn [10,11,12,13,14,15,16] _ ?_
            refine .split (t:=189) rfl (fun zI=>?_) (fun zI=>?_)
            ·try subst zI
             try simp at zI
             refine .rn [17,18,19,20,21,22,23] _ ?_
             refine .split (t:=196) rfl (fun zJ=>?_) (fun zJ=>?_)
             ·try subst zJ
              try simp at zJ
              refine .rn [24,25,26,27] [] ?_
              refine .done (.seq (.ar js rfl ae ?_))
              refine .rn [0] _ ?_
              refine .step rfl rfl (.take rfl rfl rfl call74 (by decide) (by first|(simp<;>rfl)|(simp[*]<;>rfl)|(simp[*];done)) (Sa [5,7,3,11,9,7,4,6]) ?_)
              rintro _ rfl
              refine .pc rfl rfl rfl rfl rfl call43 (Sb) ?_
              refine .rn [3,4,5,6,7] [] ?_
              refine .done (.seq (.ar js rfl ae ?_))
              refine .rn [0] _ ?_
              refine .step rfl rfl (.take rfl rfl rfl call74 (by decide) (by first|(simp<;>rfl)|(simp[*]<;>rfl)|(simp[*];done)) (Sa [5,7,3,9,7,7,4,6]) ?_)
              rintro _ rfl
              refine .pc rfl rfl rfl rfl rfl call43 (Sc) ?_
              refine .rn [3,4,5,6,7] [] ?_
              refine .done (.seq ?_)
              refine .rec (aF:=[(24,.bool true),(25,.bool true),(26,.int .i64 2),(27,.int .i64 0),(28,.int .i64 3),(29,.int .i64 0)]) (aZ:=⟨0,[]⟩) aX ?_
              refine .ar kS rfl ae ?_
              refine .pc rfl rfl rfl rfl rfl call76 (Xk) ?_
              refine .rn [1,2] _ ?_
              refine .step rfl rfl (.wT (aF:=[(214,ints [9]),(213,ints [3,4]),(212,.agg [.int .i64 4,.int .i64 3,.int .i64 3,.int .i64 2,.int .i64 5,.vec [bD ⟨4,8,2⟩]]),(24,.bool true),(25,.bool true),(26,.int .i64 2),(27,.int .i64 0),(28,.int .i64 3),(29,.int .i64 0)]) (aZ:=⟨2,[]⟩) (.mk [0,1] [] gH gY rfl rfl rfl) (.op iq (by decide) ?_))
              refine .rn [4,5] [] ?_
              refine .done (.seq ?_)
              refine .rec (aF:=[(24,.bool true),(25,.bool true),(26,.int .i64 2),(27,.int .i64 0),(28,.int .i64 3),(29,.int .i64 0),(30,.ptr 2 0)]) (aZ:=⟨3,[(2,.box [.int .i64 4,.int .i64 3,.int .i64 3,.int .i64 2,.int .i64 5,.vec [bD ⟨4,8,2⟩],ints [3,4],.vec [],ints [9]])]⟩) aX ?_
              refine .ar gT rfl ae (.rn [0] _ ?_)
              refine .pc rfl rfl rfl rfl rfl call48 (Sd) ?_
              refine .rn [2,3,4,5,6] [] ?_
              refine .done (.seq (.ar gT rfl ae ?_))
              refine .rn [0] _ ?_
              refine .pc rfl rfl rfl rfl rfl call28 (rY) ?_
              refine .rn [2,3,4,5,6] [] ?_
              refine .done (.seq (.ar KO rfl ae ?_))
              refine .rn [0,1] _ ?_
              refine .split (t:=227) rfl (fun zK=>?_) (fun zK=>?_)
              ·try subst zK
               try simp at zK
               refine .rn [2,3,4] _ ?_
               refine .split (t:=230) rfl (fun nP=>?_) (fun nP=>?_)
               ·try subst nP
                try simp at nP
                refine .rn [5,6,7,8] _ ?_
                refine .split (t:=234) rfl (fun qJ=>?_) (fun qJ=>?_)
                ·try subst qJ
                 try simp at qJ
                 refine .rn [9,10,11,12] _ ?_
                 refine .split (t:=238) rfl (fun zL=>?_) (fun zL=>?_)
                 ·try subst zL
                  try simp at zL
                  refine .rn [13,14,15,16] _ ?_
                  refine .split (t:=242) rfl (fun zM=>?_) (fun zM=>?_)
                  ·try subst zM
                   try simp at zM
                   refine .rn [17,18,19,20] _ ?_
                   refine .split (t:=246) rfl (fun zN=>?_) (fun zN=>?_)
                   ·try subst zN
                    try simp at zN
                    refine .rn [21,22,23,24] _ ?_
                    refine .split (t:=250) rfl (fun zO=>?_) (fun zO=>?_)
                    ·try subst zO
                     try simp at zO
                     refine .rn [25,26,27,28] _ ?_
                     refine .split (t:=254) rfl (fun zP=>?_) (fun zP=>?_)
                     ·try subst zP
                      try simp at zP
                      refine .rn [29,30,31,32] _ ?_
                      refine .split (t:=258) rfl (fun zQ=>?_) (fun zQ=>?_)
                      ·try subst zQ
                       try simp at zQ
                       refine .rn [33,34,35,36,37] [] ?_
                       refine .done (.ret (ax ?_))
                       exact zk
                      try subst zQ
                      try simp at zQ
                     try subst zP
                     try simp at zP
                    try subst zO
                    try simp at zO
                   try subst zN
                   try simp at zN
                  try subst zM
                  try simp at zM
                 try subst zL
                 try simp at zL
                try subst qJ
                try simp at qJ
               try subst nP
               try simp at nP
              try subst zK
              try simp at zK
             try subst zJ
             try simp at zJ
            try subst zI
            try simp at zI
           try subst zH
           try simp at zH
          try subst pQ
          try simp at pQ
         try subst zG
         try simp at zG
        try subst fa
        try simp at fa
       try subst zF
       try simp at zF
      try subst gV
      try simp at gV
     try subst zD
     try simp at zD
    try subst kq
    try simp at kq
   try subst zC
   try simp at zC
  try subst pP
  try simp at pP
 try subst zB
 try simp at zB
end
end Go.Am.Sl
end
