/-
 What is used in the proof of a statement (part SlI0); no condition.
-/
import Derived.Test.YthnmgbgmlhackaaGreatDoorSlH
import Derived.Test.YthnmgbgmlhackaaGreatDoorSlK0
set_option linter.all false
set_option maxHeartbeats 40000000
set_option maxRecDepth 100000
section
namespace Go.Am.Sl
def c0:aj:=qN [5,7,8,6,6]
theorem Gr:bl c0=0:=by decide +kernel
theorem VY:du c0=8:=by decide +kernel
theorem xfy:vk c0=sQ:=by decide +kernel
theorem xd5:xX c0=1:=by decide +kernel
theorem xbh:wy c0 (Ip c0)=sQ:=by decide +kernel
theorem xeo:wB c0 c0.t.length=[0,1,6]:=by decide +kernel
theorem xdf:wA c0 c0.t.length=[0,1,6]:=by decide +kernel
theorem xd6:vg c0 4=((2,2),0):=by decide +kernel
theorem xgo:rQ c0 ⟨2,2,2,0,0⟩=some 9:=by decide +kernel
theorem xf2:nO c0 ⟨3,2,2,3,0⟩=15:=by decide +kernel
theorem xhu:aX (qN [5,7,3,11,9,7,4,6]) 7 8=2:=by decide +kernel
theorem xg8:aX (qN [5,7,3,9,7,7,4,6]) 7 8=3:=by decide +kernel
theorem xce:zU c0 sQ 0=0:=by decide +kernel
def c1:aj:={ c0 with t:=[3,4],c:=[9],g:=[] }
theorem VZ:bl c1=0:=by decide +kernel
theorem z7u:xX c1=3:=by decide +kernel
theorem z8f:(wy c1 (fun _=>true)).length=7:=by decide +kernel
def CO:List (List Int):=(List.range 8).map (rU c0)
theorem xhj:Gp c0 sQ 8 CO=0:=by decide +kernel
theorem z7k:bl (qN [5,7,3,11,9,7,4,6])=0:=by decide +kernel
theorem z9i:bl (qN [5,7,3,9,7,7,4,6])=0:=by decide +kernel
theorem xcn:kF c0 8=CO.map ints:=by unfold kF CO;rw[List.map_map];rfl
open Go Go.Am Go.Proofs Tryz
attribute [local simp] eQ ij pV dH gk mz ai.back cS fW lg bm Nat.testBit_eq_decide_div_mod_eq cC iE mw vO ph gF pj iP cU nG nF pe gG pf n4 lZ pT n3 pg o7 o4 o8 o5 o6 o9 pa mR eZ jW eP pn nH oc po pq mQ pR pS gE my fK fy fL kV gg nS nv ny jF oR bj nZ fx bP bK lD ai.get ai.alloc ai.put ai.drop ai.empty bt cZ iw jn gA cz chunk List.range List.range.loop lh pW l9 bI b6 PV.aG PV.aF PV.dc PV.fu gY gH od PV.one PV.ids PV.cF gI beq_eq qD rE
theorem g44:(prog.stoodInHeld 44||prog.eqGuardType prog.depth 44)=false:=by decide +kernel
theorem n44:(match prog.underlying 44 with|some (.struct fs)=>fs.toList.map (fun f=>(f.name == "_", da prog f.type,f.type,f.offset))|_=>[])=[(false,some 1,3,0),(false,some 1,3,1)]:=by decide +kernel
theorem Bz (a0 a1 b0 b1:Int):dR prog 44 (.agg #[.int .i64 a0,.int .i64 a1]) (.agg #[.int .i64 b0,.int .i64 b1])=some (a0==b0&&a1==b1):=by
 have hn:=n44
 have hg:=g44
 unfold dR
 simp only
 cases hu:prog.underlying 44 with
 |none=>rw[hu] at hn;simp at hn
 |some td=>
  cases td with
  |struct fs=>
   rw[hu] at hn
   simp only at hn ⊢
   rw[hg]
   simp only[bz]
   generalize fs.toList=l at hn
   rcases l with _|⟨f1,_|⟨f2,_|⟨f3,r⟩⟩⟩
   ·simp at hn
   ·simp at hn
   ·simp only[List.map_cons,List.map_nil,List.cons.injEq,bG,and_true] at hn
    obtain⟨⟨I1,I2,I3,I4⟩,⟨I5,I6,I7,I8⟩⟩:=hn
    simp only[vL,I1,I2,I3,I4,I5,I6,I7,I8,bz]
    have ha:bD prog 3=some false:=by decide +kernel
    have DL:prog.underlying 3=some (.int .i64):=by rfl
    simp[apart,ha,Dc,DL]
    cases a0==b0<;>cases a1==b1<;>rfl
   simp at hn
  |_=>rw[hu] at hn;simp at hn
attribute [local simp] cQ bQ fN pZ Bz ti p7 p9 pw gJ fI
attribute [local simp ↓ high] sD rJ
theorem yq (l:List Int)(h:l.length<100):BC (qN l):=⟨by show 1<_;decide,by show 7<_;decide,by show l.length<_;omega,by show 1<_;decide,fun x hx=>by simp only[qN,List.mem_singleton] at hx;subst hx;show 1<_;decide⟩
theorem V0:BC c1:=⟨by show 1<_;decide,by show 2<_;decide,by show 1<_;decide,by show 0<_;decide,fun x hx=>by cases hx⟩
theorem z9x:LI c0 sQ 0=[⟨1,5,5,0,8⟩,⟨4,7,7,1,0⟩]:=by decide +kernel
theorem z8q:LH c0 sQ 0=qN [5,7,3,9,7,8,6,6]:=by decide +kernel
theorem BA:aH c0=.agg [.int .i64 4,.int .i64 3,.int .i64 3,.int .i64 2,.int .i64 5,.vec [bk ⟨4,8,2⟩],ints [5,7,3,9,7,4,6],.vec [bV ⟨3,[11]⟩],ints [5,7,8,6,6]]:=rfl
theorem Me:aH c1=.agg [.int .i64 4,.int .i64 3,.int .i64 3,.int .i64 2,.int .i64 5,.vec [bk ⟨4,8,2⟩],ints [3,4],.vec [],ints [9]]:=rfl
theorem hCm:aH (qN [5,7,3,9,7,8,6,6])=.agg [.int .i64 4,.int .i64 3,.int .i64 3,.int .i64 2,.int .i64 5,.vec [bk ⟨4,8,2⟩],ints [5,7,3,9,7,4,6],.vec [bV ⟨3,[11]⟩],ints [5,7,3,9,7,8,6,6]]:=rfl
theorem zY:sQ.map encS=[.agg [.int .i64 3,.int .i64 2,.int .i64 2,.int .i64 3,.int .i64 0],.agg [.int .i64 1,.int .i64 5,.int .i64 2,.int .i64 0,.int .i64 8],.agg [.int .i64 4,.int .i64 7,.int .i64 4,.int .i64 1,.int .i64 0]]:=rfl
theorem xau:CO.length=8:=rfl
theorem z8p:∀r∈CO,r.length<4611686018427387904:=by
 intro r hr
 obtain⟨i,_,rfl⟩:=List.mem_map.1 hr
 unfold rU
 rw[List.length_map,List.length_range]
 show 6<_;decide
section
variable [bF]
theorem r21:aN prog 21 [.agg [.int .i64 4,.int .i64 3,.int .i64 3,.int .i64 2,.int .i64 5,.vec [bk ⟨4,8,2⟩],ints [5,7,3,9,7,4,6],.vec [bV ⟨3,[11]⟩],ints [5,7,8,6,6]]] fun r=>r=.bx [.agg [.vec [.agg [.int .i64 3,.int .i64 2,.int .i64 2,.int .i64 3,.int .i64 0],.agg [.int .i64 1,.int .i64 5,.int .i64 2,.int .i64 0,.int .i64 8],.agg [.int .i64 4,.int .i64 7,.int .i64 4,.int .i64 1,.int .i64 0]],.int .i64 8,.vec (CO.map ints)],.int .i64 0]:=by
 have h:=p21 c0 (yq _ (by decide))
 rw[Gr,if_pos rfl,if_pos rfl,if_pos rfl,xfy,VY,BA,zY,show c0.t.length+1=8 from rfl,xcn] at h
 exact aN.soft h (by simp[PV.aG,PV.aF])
theorem r48:aN prog 48 [.agg [.int .i64 4,.int .i64 3,.int .i64 3,.int .i64 2,.int .i64 5,.vec [bk ⟨4,8,2⟩],ints [5,7,3,9,7,4,6],.vec [bV ⟨3,[11]⟩],ints [5,7,8,6,6]]] fun r=>r=.bx [.int .i64 1,.int .i64 0]:=by
 have h:=Ui c0 (yq _ (by decide))
 rw[Gr,if_pos rfl,xd5,BA] at h
 exact h
theorem r26:aN prog 26 [.agg [.int .i64 4,.int .i64 3,.int .i64 3,.int .i64 2,.int .i64 5,.vec [bk ⟨4,8,2⟩],ints [5,7,3,9,7,4,6],.vec [bV ⟨3,[11]⟩],ints [5,7,8,6,6]]] fun r=>r=.bx [.vec [.agg [.int .i64 3,.int .i64 2,.int .i64 2,.int .i64 3,.int .i64 0],.agg [.int .i64 1,.int .i64 5,.int .i64 2,.int .i64 0,.int .i64 8],.agg [.int .i64 4,.int .i64 7,.int .i64 4,.int .i64 1,.int .i64 0]],.int .i64 0]:=by
 have h:=p26 c0 (yq _ (by decide))
 rw[Gr,if_pos rfl,xbh,BA,zY] at h
 exact aN.soft h (by simp[PV.aG,PV.aF])
theorem r22:aN prog 22 [.agg [.int .i64 4,.int .i64 3,.int .i64 3,.int .i64 2,.int .i64 5,.vec [bk ⟨4,8,2⟩],ints [5,7,3,9,7,4,6],.vec [bV ⟨3,[11]⟩],ints [5,7,8,6,6]]] fun r=>r=.bx [ints [0,1,6],ints [0,1,6],.int .i64 0]:=by
 have h:=p22 c0 (yq _ (by decide))
 rw[Gr,if_pos rfl,if_pos rfl,xeo,xdf,BA] at h
 exact aN.soft h (by simp[PV.aG,PV.aF])
theorem r24:aN prog 24 [.agg [.int .i64 4,.int .i64 3,.int .i64 3,.int .i64 2,.int .i64 5,.vec [bk ⟨4,8,2⟩],ints [5,7,3,9,7,4,6],.vec [bV ⟨3,[11]⟩],ints [5,7,8,6,6]],.int .i64 4] fun r=>r=.bx [.agg [.int .i64 2,.int .i64 2],.int .i64 0]:=by
 have h:=p24 c0 4 (yq _ (by decide))
 rw[xd6,BA] at h
 exact h
theorem r30:aN prog 30 [.agg [.int .i64 4,.int .i64 3,.int .i64 3,.int .i64 2,.int .i64 5,.vec [bk ⟨4,8,2⟩],ints [5,7,3,9,7,4,6],.vec [bV ⟨3,[11]⟩],ints [5,7,8,6,6]],.agg [.int .i64 2,.int .i64 2,.int .i64 2,.int .i64 0,.int .i64 0]] fun r=>r=.bx [.int .i64 9,.int .i64 0]:=by
 have h:=Ug c0 ⟨2,2,2,0,0⟩ (yq _ (by decide))
 rw[Gr,if_pos rfl,if_pos rfl,xgo,if_neg (by decide),BA] at h
 exact h
theorem r32:aN prog 32 [.agg [.int .i64 4,.int .i64 3,.int .i64 3,.int .i64 2,.int .i64 5,.vec [bk ⟨4,8,2⟩],ints [5,7,3,9,7,4,6],.vec [bV ⟨3,[11]⟩],ints [5,7,8,6,6]],.agg [.int .i64 3,.int .i64 2,.int .i64 2,.int .i64 3,.int .i64 0]] fun r=>r=.bx [.int .i64 7,.int .i64 0]:=by
 have h:=Uh c0 ⟨3,2,2,3,0⟩ (yq _ (by decide))
 rw[Gr,if_pos rfl,if_pos rfl,xf2,if_pos (by decide),if_pos (by decide),show aX c0 c0.t.length c0.c.length=8 from VY,BA] at h
 exact h
theorem r54:aN prog 54 [.agg [.int .i64 4,.int .i64 3,.int .i64 3,.int .i64 2,.int .i64 5,.vec [bk ⟨4,8,2⟩],ints [5,7,3,9,7,4,6],.vec [bV ⟨3,[11]⟩],ints [5,7,8,6,6]],.vec [.agg [.int .i64 3,.int .i64 2,.int .i64 2,.int .i64 3,.int .i64 0],.agg [.int .i64 1,.int .i64 5,.int .i64 2,.int .i64 0,.int .i64 8],.agg [.int .i64 4,.int .i64 7,.int .i64 4,.int .i64 1,.int .i64 0]],.int .i64 0] fun r=>r=.bx [.agg [.int .i64 4,.int .i64 3,.int .i64 3,.int .i64 2,.int .i64 5,.vec [bk ⟨4,8,2⟩],ints [5,7,3,9,7,4,6],.vec [bV ⟨3,[11]⟩],ints [5,7,3,9,7,8,6,6]],.vec [.agg [.int .i64 1,.int .i64 5,.int .i64 5,.int .i64 0,.int .i64 8],.agg [.int .i64 4,.int .i64 7,.int .i64 7,.int .i64 1,.int .i64 0]],.int .i64 0]:=by
 have h:=p54 c0 sQ 0 (yq _ (by decide)) (by decide)
 rw[xce,z9x,z8q,BA,zY,hCm] at h
 exact aN.soft h (by simp[PV.aG,PV.aF,encS])
theorem r50:aN prog 50 [.agg [.int .i64 4,.int .i64 3,.int .i64 3,.int .i64 2,.int .i64 5,.vec [bk ⟨4,8,2⟩],ints [5,7,3,9,7,4,6],.vec [bV ⟨3,[11]⟩],ints [5,7,8,6,6]],.agg [.vec [.agg [.int .i64 3,.int .i64 2,.int .i64 2,.int .i64 3,.int .i64 0],.agg [.int .i64 1,.int .i64 5,.int .i64 2,.int .i64 0,.int .i64 8],.agg [.int .i64 4,.int .i64 7,.int .i64 4,.int .i64 1,.int .i64 0]],.int .i64 8,.vec (CO.map ints)]] fun r=>r=.int .i64 0:=by
 have h:=p50 c0 sQ 8 CO (yq _ (by decide)) (by decide) (by rw[xau];decide) z8p
 rw[xhj,BA,zY] at h
 exact h
theorem V3:aN prog 34 [.vec [.agg [.int .i64 3,.int .i64 2,.int .i64 2,.int .i64 3,.int .i64 0],.agg [.int .i64 1,.int .i64 5,.int .i64 2,.int .i64 0,.int .i64 8],.agg [.int .i64 4,.int .i64 7,.int .i64 4,.int .i64 1,.int .i64 0]],.vec [.agg [.int .i64 3,.int .i64 2,.int .i64 2,.int .i64 3,.int .i64 0],.agg [.int .i64 1,.int .i64 5,.int .i64 2,.int .i64 0,.int .i64 8],.agg [.int .i64 4,.int .i64 7,.int .i64 4,.int .i64 1,.int .i64 0]]] fun r=>r=.bool true:=by
 have h:=p34 sQ sQ (by decide) (by decide)
 rw[zY] at h
 simpa using h
theorem Qm (l:List Int)(hl:l.length<100):aN prog 37 [ints l,ints l] fun r=>r=.bool true:=by
 have h:=PJ l l (by omega) (by omega)
 simpa using h
theorem Qn (l:List Int):aN prog 74 [ints l] fun r=>r=.agg [.int .i64 4,.int .i64 3,.int .i64 3,.int .i64 2,.int .i64 5,.vec [bk ⟨4,8,2⟩],ints [5,7,3,9,7,4,6],.vec [bV ⟨3,[11]⟩],ints l]:=p74 l
theorem Qo:aN prog 43 [.agg [.int .i64 4,.int .i64 3,.int .i64 3,.int .i64 2,.int .i64 5,.vec [bk ⟨4,8,2⟩],ints [5,7,3,9,7,4,6],.vec [bV ⟨3,[11]⟩],ints [5,7,3,11,9,7,4,6]]] fun r=>r=.bx [.int .i64 2,.int .i64 0]:=by
 have h:=Ib (qN [5,7,3,11,9,7,4,6]) (yq _ (by decide))
 rw[z7k,if_pos rfl,show aX (qN [5,7,3,11,9,7,4,6]) (qN [5,7,3,11,9,7,4,6]).t.length (qN [5,7,3,11,9,7,4,6]).c.length=2 from xhu] at h
 exact h
theorem Qp:aN prog 43 [.agg [.int .i64 4,.int .i64 3,.int .i64 3,.int .i64 2,.int .i64 5,.vec [bk ⟨4,8,2⟩],ints [5,7,3,9,7,4,6],.vec [bV ⟨3,[11]⟩],ints [5,7,3,9,7,7,4,6]]] fun r=>r=.bx [.int .i64 3,.int .i64 0]:=by
 have h:=Ib (qN [5,7,3,9,7,7,4,6]) (yq _ (by decide))
 rw[z9i,if_pos rfl,show aX (qN [5,7,3,9,7,7,4,6]) (qN [5,7,3,9,7,7,4,6]).t.length (qN [5,7,3,9,7,7,4,6]).c.length=3 from xg8] at h
 exact h
theorem Qq:aN prog 48 [.agg [.int .i64 4,.int .i64 3,.int .i64 3,.int .i64 2,.int .i64 5,.vec [bk ⟨4,8,2⟩],ints [3,4],.vec [],ints [9]]] fun r=>r=.bx [.int .i64 3,.int .i64 0]:=by
 have h:=Ui c1 V0
 rw[VZ,if_pos rfl,z7u,Me] at h
 exact h
theorem r28:aN prog 28 [.agg [.int .i64 4,.int .i64 3,.int .i64 3,.int .i64 2,.int .i64 5,.vec [bk ⟨4,8,2⟩],ints [3,4],.vec [],ints [9]]] fun r=>r=.bx [.vec ((wy c1 (fun _=>true)).map encS),.int .i64 0]:=by
 have h:=p28 c1 V0
 rw[VZ,if_pos rfl,Me] at h
 exact aN.soft h (by simp[PV.aG,PV.aF])
theorem Qr (hN:Names):aN prog 20 [] fun r=>r=.bool true:=by
 have V4:=r28
 obtain⟨l7,Qt⟩:∃l,wy c1 (fun _=>true)=l:=⟨_,rfl⟩
 rw[Qt] at V4
 have Qt:l7.length=7:=by rw[← Qt];exact z8f
 have V5:=xct hN
 rw[zY] at V5
 refine .bT func20 rfl rfl ?_
 refine .sr ?_
 refine .seq (.ay eD rfl ae (.rn [0] _ ?_))
 refine .step rfl rfl (.take rfl rfl rfl call74 (by decide) (by first|(simp<;>rfl)|(simp[*]<;>rfl)|(simp[*];done)) (Qn [5,7,8,6,6]) ?_)
 rintro _ rfl
 refine .rn [2,3] [] ?_
 refine .done (.sr ?_)
 refine .sr ?_
 refine .seq ?_
 refine .rec (aA:=[(1,.ptr 1 0),(2,.ptr 2 0),(3,.vec [.agg [.int .i64 3,.int .i64 2,.int .i64 2,.int .i64 3,.int .i64 0],.agg [.int .i64 1,.int .i64 5,.int .i64 2,.int .i64 0,.int .i64 8],.agg [.int .i64 4,.int .i64 7,.int .i64 4,.int .i64 1,.int .i64 0]])]) (aV:=⟨3,[(2,.box [.int .i64 3,.int .i64 2,.int .i64 2,.int .i64 3,.int .i64 0]),(1,.box [.int .i64 4,.int .i64 3,.int .i64 3,.int .i64 2,.int .i64 5,.vec [bk ⟨4,8,2⟩],ints [5,7,3,9,7,4,6],.vec [bV ⟨3,[11]⟩],ints [5,7,8,6,6]])]⟩) (.mk [3] [] ia ix rfl rfl rfl) ?_
 refine .ay mC rfl ae (.rn [0] _ ?_)
 refine .pc rfl rfl rfl rfl rfl call21 (r21) ?_
 refine .rn [2,3,4,5,6,7] [] ?_
 refine .done (.seq (.ay ik rfl ae ?_))
 refine .rn [0] _ ?_
 refine .pc rfl rfl rfl rfl rfl call48 (r48) ?_
 refine .rn [2,3,4,5,6] [] ?_
 refine .done (.seq (.ay ik rfl ae ?_))
 refine .rn [0] _ ?_
 refine .pc rfl rfl rfl rfl rfl call26 (r26) ?_
 refine .rn [2,3,4,5,6] [] ?_
 refine .done (.seq (.ay rF rfl ae ?_))
 refine .rn [0] _ ?_
 refine .pc rfl rfl rfl rfl rfl call22 (r22) ?_
 refine .rn [2,3,4,5,6,7,8] [] ?_
 refine .done (.seq (.ay mC rfl ae ?_))
 refine .rn [0] _ ?_
 refine .pc rfl rfl rfl rfl rfl call24 (r24) ?_
 refine .rn [2,3,4,5,6,7] [] ?_
 refine .done (.seq (.ay mC rfl ae ?_))
 refine .rn [0,1] _ ?_
 refine .pc rfl rfl rfl rfl rfl call30 (r30) ?_
 refine .rn [3,4,5,6,7] [] ?_
 refine .done (.seq (.ay mC rfl ae ?_))
 refine .rn [0,1] _ ?_
 refine .pc rfl rfl rfl rfl rfl call32 (r32) ?_
 refine .rn [3,4,5,6,7] [] ?_
 refine .done (.seq (.ay [0,1,2,3,4,5,6,7,8,9,10] rfl ae ?_))
 refine .rn [0,1] _ ?_
 refine .pc rfl rfl rfl rfl rfl call54 (r54) ?_
 refine .rn [3,4,5,6,7,8,9,10] [] ?_
 refine .done (.seq (.ay ik rfl ae ?_))
 refine .rn [0] _ ?_
 refine .pc rfl rfl rfl rfl rfl call75 (V5) ?_
 refine .rn [2,3,4,5,6] [] ?_
 refine .done (.seq (.seq (.ay [0,1,2,3,4,5,6,7,8,9,10,11,12,13,14,15,16,17,18,19,20,21,22,23,24,25,26,27,28,29,30,31,32,33] rfl ae ?_)))
 refine .rn [0,1,2] _ ?_
 refine .split (t:=94) rfl (fun rI=>?_) (fun rI=>?_)
 ·try subst rI
  try simp at rI
 try subst rI
 try simp at rI
 refine .rn [3,4,5,6] _ ?_
 refine .split (t:=98) rfl (fun sS=>?_) (fun sS=>?_)
 ·try subst sS
  try simp at sS
 try subst sS
 try simp at sS
 refine .rn [7,8,9,10] _ ?_
 refine .split (t:=102) rfl (fun yr=>?_) (fun yr=>?_)
 ·try subst yr
  try simp at yr
 try subst yr
 try simp at yr
 refine .rn [11,12,13,14] _ ?_
 refine .split (t:=106) rfl (fun yt=>?_) (fun yt=>?_)
 ·try subst yt
  try simp at yt
 try subst yt
 try simp at yt
 refine .rn [15,16,17,18] _ ?_
 refine .split (t:=110) rfl (fun yu=>?_) (fun yu=>?_)
 ·try subst yu
  try simp at yu
 try subst yu
 try simp at yu
 refine .rn [19,20,21,22] _ ?_
 refine .split (t:=114) rfl (fun fX=>?_) (fun fX=>?_)
 ·try subst fX
  try simp at fX
 try subst fX
 try simp at fX
 refine .rn [23,24,25,26] _ ?_
 refine .split (t:=118) rfl (fun ee=>?_) (fun ee=>?_)
 ·try subst ee
  try simp at ee
 try subst ee
 try simp at ee
 refine .rn [27,28,29,30] _ ?_
 refine .split (t:=122) rfl (fun ef=>?_) (fun ef=>?_)
 ·try subst ef
  try simp at ef
 try subst ef
 try simp at ef
 refine .rn [31,32,33] [] ?_
 refine .done ?_
 refine .cs ?_ ?_<;>intro gN
 ·try simp at gN
 try simp at gN
 refine .skip (.seq (.ay [0,1,2,3,4,5,6,7,8,9,10,11,12,13,14,15,16,17,18,19,20,21,22,23,24,25,26,27,28,29,30,31,32,33,34,35,36,37,38,39,40,41,42,43,44,45,46,47] rfl ae (.rn eD _ ?_)))
 refine .split (t:=129) rfl (fun yv=>?_) (fun yv=>?_)
 ·try subst yv
  try simp at yv
  refine .rn [4,5,6] _ ?_
  refine .pc rfl rfl rfl rfl rfl call34 (V3) ?_
  refine .rn [8,9] _ ?_
  refine .split (t:=135) rfl (fun yx=>?_) (fun yx=>?_)
  ·try subst yx
   try simp at yx
   refine .rn [10,11] _ ?_
   refine .pc rfl rfl rfl rfl rfl call50 (r50) ?_
   refine .rn [13,14,15] _ ?_
   refine .split (t:=141) rfl (fun yy=>?_) (fun yy=>?_)
   ·try subst yy
    try simp at yy
    refine .rn [16,17,18,19] _ ?_
    refine .split (t:=145) rfl (fun oG=>?_) (fun oG=>?_)
    ·try subst oG
     try simp at oG
     refine .rn [20,21] _ ?_
     refine .pc rfl rfl rfl rfl rfl call34 (V3) ?_
     refine .rn [23,24] _ ?_
     refine .split (t:=150) rfl (fun yz=>?_) (fun yz=>?_)
     ·try subst yz
      try simp at yz
      refine .rn [25,26] _ ?_
      refine .step rfl rfl (.take rfl rfl rfl call37 (by decide) (by first|(simp<;>rfl)|(simp[*]<;>rfl)|(simp[*];done)) (Qm [0,1,6] (by decide)) ?_)
      rintro _ rfl
      refine .rn [28,29] _ ?_
      refine .split (t:=155) rfl (fun yA=>?_) (fun yA=>?_)
      ·try subst yA
       try simp at yA
       refine .rn [30,31] _ ?_
       refine .step rfl rfl (.take rfl rfl rfl call37 (by decide) (by first|(simp<;>rfl)|(simp[*]<;>rfl)|(simp[*];done)) (Qm [0,1,6] (by decide)) ?_)
       rintro _ rfl
       refine .rn [33,34] _ ?_
       refine .split (t:=160) rfl (fun ng=>?_) (fun ng=>?_)
       ·try subst ng
        try simp at ng
        refine .rn [35,36,37,38,39] _ ?_
        refine .split (t:=165) rfl (fun r6=>?_) (fun r6=>?_)
        ·try subst r6
         try simp at r6
         refine .rn [40,41,42,43] _ ?_
         refine .split (t:=169) rfl (fun yB=>?_) (fun yB=>?_)
         ·try subst yB
          try simp at yB
          refine .rn [44,45,46,47] [] ?_
          refine .done (.seq (.ay HD rfl ae ?_))
          refine .rn [0,1,2] _ ?_
          refine .step rfl rfl (.take rfl rfl rfl call37 (by decide) (by first|(simp<;>rfl)|(simp[*]<;>rfl)|(simp[*];done)) (Qm [5,7,3,9,7,8,6,6] (by decide)) ?_)
          rintro _ rfl
          refine .rn [4] _ ?_
          refine .split (t:=177) rfl (fun yC=>?_) (fun yC=>?_)
          ·try subst yC
           try simp at yC
           refine .rn [5,6,7,8,9] _ ?_
           refine .split (t:=182) rfl (fun yD=>?_) (fun yD=>?_)
           ·try subst yD
            try simp at yD
            refine .rn [10,11,12,13,14,15,16] _ ?_
            refine .split (t:=189) rfl (fun yE=>?_) (fun yE=>?_)
            ·try subst yE
             try simp at yE
             refine .rn [17,18,19,20,21,22,23] _ ?_
             refine .split (t:=196) rfl (fun yF=>?_) (fun yF=>?_)
             ·try subst yF
              try simp at yF
              refine .rn [24,25,26,27] [] ?_
              refine .done (.seq (.ay mC rfl ae ?_))
              refine .rn [0] _ ?_
              refine .step rfl rfl (.take rfl rfl rfl call74 (by decide) (by first|(simp<;>rfl)|(simp[*]<;>rfl)|(simp[*];done)) (Qn [5,7,3,11,9,7,4,6]) ?_)
              rintro _ rfl
              refine .pc rfl rfl rfl rfl rfl call43 (Qo) ?_
              refine .rn [3,4,5,6,7] [] ?_
              refine .done (.seq (.ay mC rfl ae ?_))
              refine .rn [0] _ ?_
              refine .step rfl rfl (.take rfl rfl rfl call74 (by decide) (by first|(simp<;>rfl)|(simp[*]<;>rfl)|(simp[*];done)) (Qn [5,7,3,9,7,7,4,6]) ?_)
              rintro _ rfl
              refine .pc rfl rfl rfl rfl rfl call43 (Qp) ?_
              refine .rn [3,4,5,6,7] [] ?_
              refine .done (.seq ?_)
              refine .rec (aA:=[(24,.bool true),(25,.bool true),(26,.int .i64 2),(27,.int .i64 0),(28,.int .i64 3),(29,.int .i64 0)]) (aV:=⟨0,[]⟩) bn ?_
              refine .ay kg rfl ae ?_
              refine .pc rfl rfl rfl rfl rfl call76 (Vl) ?_
              refine .rn [1,2] _ ?_
              refine .step rfl rfl (.vf (aA:=[(214,ints [9]),(213,ints [3,4]),(212,.agg [.int .i64 4,.int .i64 3,.int .i64 3,.int .i64 2,.int .i64 5,.vec [bk ⟨4,8,2⟩]]),(24,.bool true),(25,.bool true),(26,.int .i64 2),(27,.int .i64 0),(28,.int .i64 3),(29,.int .i64 0)]) (aV:=⟨2,[]⟩) (.mk [0,1] [] ia ix rfl rfl rfl) (.op eX (by decide) ?_))
              refine .rn [4,5] [] ?_
              refine .done (.seq ?_)
              refine .rec (aA:=[(24,.bool true),(25,.bool true),(26,.int .i64 2),(27,.int .i64 0),(28,.int .i64 3),(29,.int .i64 0),(30,.ptr 2 0)]) (aV:=⟨3,[(2,.box [.int .i64 4,.int .i64 3,.int .i64 3,.int .i64 2,.int .i64 5,.vec [bk ⟨4,8,2⟩],ints [3,4],.vec [],ints [9]])]⟩) bn ?_
              refine .ay ik rfl ae (.rn [0] _ ?_)
              refine .pc rfl rfl rfl rfl rfl call48 (Qq) ?_
              refine .rn [2,3,4,5,6] [] ?_
              refine .done (.seq (.ay ik rfl ae ?_))
              refine .rn [0] _ ?_
              refine .pc rfl rfl rfl rfl rfl call28 (V4) ?_
              refine .rn [2,3,4,5,6] [] ?_
              refine .done (.seq (.ay [0,1,2,3,4,5,6,7,8,9,10,11,12,13,14,15,16,17,18,19,20,21,22,23,24,25,26,27,28,29,30,31,32,33,34,35,36,37] rfl ae ?_))
              refine .rn [0,1] _ ?_
              refine .split (t:=227) rfl (fun yG=>?_) (fun yG=>?_)
              ·try subst yG
               try simp at yG
               refine .rn [2,3,4] _ ?_
               refine .split (t:=230) rfl (fun lr=>?_) (fun lr=>?_)
               ·try subst lr
                try simp at lr
                refine .rn [5,6,7,8] _ ?_
                refine .split (t:=234) rfl (fun oF=>?_) (fun oF=>?_)
                ·try subst oF
                 try simp at oF
                 refine .rn [9,10,11,12] _ ?_
                 refine .split (t:=238) rfl (fun yH=>?_) (fun yH=>?_)
                 ·try subst yH
                  try simp at yH
                  refine .rn [13,14,15,16] _ ?_
                  refine .split (t:=242) rfl (fun yI=>?_) (fun yI=>?_)
                  ·try subst yI
                   try simp at yI
                   refine .rn [17,18,19,20] _ ?_
                   refine .split (t:=246) rfl (fun yJ=>?_) (fun yJ=>?_)
                   ·try subst yJ
                    try simp at yJ
                    refine .rn [21,22,23,24] _ ?_
                    refine .split (t:=250) rfl (fun yK=>?_) (fun yK=>?_)
                    ·try subst yK
                     try simp at yK
                     refine .rn [25,26,27,28] _ ?_
                     refine .split (t:=254) rfl (fun yL=>?_) (fun yL=>?_)
                     ·try subst yL
                      try simp at yL
                      refine .rn [29,30,31,32] _ ?_
                      refine .split (t:=258) rfl (fun yM=>?_) (fun yM=>?_)
                      ·try subst yM
                       try simp at yM
                       refine .rn [33,34,35,36,37] [] ?_
                       refine .done (.ret (au ?_))
                       exact zk
                      try subst yM
                      try simp at yM
                     try subst yL
                     try simp at yL
                    try subst yK
                    try simp at yK
                   try subst yJ
                   try simp at yJ
                  try subst yI
                  try simp at yI
                 try subst yH
                 try simp at yH
                try subst oF
                try simp at oF
               try subst lr
               try simp at lr
              try subst yG
              try simp at yG
             try subst yF
             try simp at yF
            try subst yE
            try simp at yE
           try subst yD
           try simp at yD
          try subst yC
          try simp at yC
         try subst yB
         try simp at yB
        try subst r6
        try simp at r6
       try subst ng
       try simp at ng
      try subst yA
      try simp at yA
     try subst yz
     try simp at yz
    try subst oG
    try simp at oG
   try subst yy
   try simp at yy
  try subst yx
  try simp at yx
 try subst yv
 try simp at yv
end
end Go.Am.Sl
end
