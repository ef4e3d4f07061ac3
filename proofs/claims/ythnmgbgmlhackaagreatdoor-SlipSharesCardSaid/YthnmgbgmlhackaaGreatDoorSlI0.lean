/-
 What is used in the proof of a statement (part SlI0); no condition.
-/
import Derived.Test.YthnmgbgmlhackaaGreatDoorSlH
set_option linter.all false
set_option maxHeartbeats 40000000
set_option maxRecDepth 100000
section
namespace Go.Am.Sl
def c0:aq:=ov [5,7,8,6,6]
theorem DY:bP c0=0:=by decide +kernel
theorem R9:r5 c0=8:=by decide +kernel
theorem xb4:vI c0=p6:=by decide +kernel
theorem z8x:vG c0=1:=by decide +kernel
theorem z4n:uo c0 (FX c0)=p6:=by decide +kernel
theorem z9i:uu c0 c0.t.length=[0,1,6]:=by decide +kernel
theorem z8v:ur c0 c0.t.length=[0,1,6]:=by decide +kernel
theorem z8r:s6 c0 4=((2,2),0):=by decide +kernel
theorem xbj:B7 c0 ⟨2,2,2,0,0⟩=some 9:=by decide +kernel
theorem xci:uj c0 ⟨3,2,2,3,0⟩=15:=by decide +kernel
theorem xc9:aZ (ov [5,7,3,11,9,7,4,6]) 7 8=2:=by decide +kernel
theorem xbe:aZ (ov [5,7,3,9,7,7,4,6]) 7 8=3:=by decide +kernel
theorem xah:xI c0 p6 0=0:=by decide +kernel
def c1:aq:={ c0 with t:=[3,4],c:=[9],g:=[] }
theorem Sa:bP c1=0:=by decide +kernel
theorem z6w:vG c1=3:=by decide +kernel
theorem z4t:(uo c1 (fun _=>true)).length=7:=by decide +kernel
def AE:List (List Int):=(List.range 8).map (pf c0)
theorem xba:DW c0 p6 8 AE=0:=by decide +kernel
theorem z6e:bP (ov [5,7,3,11,9,7,4,6])=0:=by decide +kernel
theorem z5t:bP (ov [5,7,3,9,7,7,4,6])=0:=by decide +kernel
theorem z9c:jL c0 8=AE.map ints:=by unfold jL AE;rw[List.map_map];rfl
open Go Go.Am Go.Proofs Tryz
attribute [local simp] fx ie rS dS ig nD ah.back de gJ l8 bm Nat.testBit_eq_decide_div_mod_eq cF iX ny vO qE ja qF jw cW oX oV qB jb qC pI mW rR pH qD qv qq qw qt qu qz qA od fI kl fw qG oZ pK qH qI oc rP rQ iY nz gp fY gq lV hU pA oD oE jY qi bo pG fX bU bS l9 ah.get ah.alloc ah.put ah.drop ah.empty bh dm iF jP gI cB chunk List.range List.range.loop ma rT mX bz b9 PV.aB PV.aG PV.dy PV.fW jc jd pL PV.one PV.ids PV.cO gx beq_eq sJ tW
theorem g44:(prog.stoodInHeld 44||prog.eqGuardType prog.depth 44)=false:=by decide +kernel
theorem n44:(match prog.underlying 44 with|some (.struct fs)=>fs.toList.map (fun f=>(f.name == "_", dc prog f.type,f.type,f.offset))|_=>[])=[(false,some 1,3,0),(false,some 1,3,1)]:=by decide +kernel
theorem MY (a0 a1 b0 b1:Int):dx prog 44 (.agg #[.int .i64 a0,.int .i64 a1]) (.agg #[.int .i64 b0,.int .i64 b1])=some (a0==b0&&a1==b1):=by
 have hn:=n44
 have hg:=g44
 unfold dx
 simp only
 cases hu:prog.underlying 44 with
 |none=>rw[hu] at hn;simp at hn
 |some td=>
  cases td with
  |struct fs=>
   rw[hu] at hn
   simp only at hn ⊢
   rw[hg]
   simp only[bl]
   generalize fs.toList=l at hn
   rcases l with _|⟨f1,_|⟨f2,_|⟨f3,r⟩⟩⟩
   ·simp at hn
   ·simp at hn
   ·simp only[List.map_cons,List.map_nil,List.cons.injEq,bI,and_true] at hn
    obtain⟨⟨Gx,Gy,Gz,GA⟩,⟨GB,GC,GD,GF⟩⟩:=hn
    simp only[tJ,Gx,Gy,Gz,GA,GB,GC,GD,GF,bl]
    have ha:bB prog 3=some false:=by decide +kernel
    have Bx:prog.underlying 3=some (.int .i64):=by rfl
    simp[apart,ha,AY,Bx]
    cases a0==b0<;>cases a1==b1<;>rfl
   simp at hn
  |_=>rw[hu] at hn;simp at hn
attribute [local simp] cQ bQ jf ua MY yR rY sR pQ gz fG
attribute [local simp ↓ high] vm tZ
theorem vX (l:List Int)(h:l.length<100):BC (ov l):=⟨by show 1<_;decide,by show 7<_;decide,by show l.length<_;omega,by show 1<_;decide,fun x hx=>by simp only[ov,List.mem_singleton] at hx;subst hx;show 1<_;decide⟩
theorem Sb:BC c1:=⟨by show 1<_;decide,by show 2<_;decide,by show 1<_;decide,by show 0<_;decide,fun x hx=>by cases hx⟩
theorem z5m:IB c0 p6 0=[⟨1,5,5,0,8⟩,⟨4,7,7,1,0⟩]:=by decide +kernel
theorem z4j:IA c0 p6 0=ov [5,7,3,9,7,8,6,6]:=by decide +kernel
theorem zl:aK c0=.agg [.int .i64 4,.int .i64 3,.int .i64 3,.int .i64 2,.int .i64 5,.vec [bs ⟨4,8,2⟩],ints [5,7,3,9,7,4,6],.vec [cb ⟨3,[11]⟩],ints [5,7,8,6,6]]:=rfl
theorem Sc:aK c1=.agg [.int .i64 4,.int .i64 3,.int .i64 3,.int .i64 2,.int .i64 5,.vec [bs ⟨4,8,2⟩],ints [3,4],.vec [],ints [9]]:=rfl
theorem hCm:aK (ov [5,7,3,9,7,8,6,6])=.agg [.int .i64 4,.int .i64 3,.int .i64 3,.int .i64 2,.int .i64 5,.vec [bs ⟨4,8,2⟩],ints [5,7,3,9,7,4,6],.vec [cb ⟨3,[11]⟩],ints [5,7,3,9,7,8,6,6]]:=rfl
theorem DZ:p6.map encS=[.agg [.int .i64 3,.int .i64 2,.int .i64 2,.int .i64 3,.int .i64 0],.agg [.int .i64 1,.int .i64 5,.int .i64 2,.int .i64 0,.int .i64 8],.agg [.int .i64 4,.int .i64 7,.int .i64 4,.int .i64 1,.int .i64 0]]:=rfl
theorem z3o:AE.length=8:=rfl
theorem z6h:∀r∈AE,r.length<4611686018427387904:=by
 intro r hr
 obtain⟨i,_,rfl⟩:=List.mem_map.1 hr
 unfold pf
 rw[List.length_map,List.length_range]
 show 6<_;decide
section
variable [bE]
theorem r21:aM prog 21 [.agg [.int .i64 4,.int .i64 3,.int .i64 3,.int .i64 2,.int .i64 5,.vec [bs ⟨4,8,2⟩],ints [5,7,3,9,7,4,6],.vec [cb ⟨3,[11]⟩],ints [5,7,8,6,6]]] fun r=>r=.bp [.agg [.vec [.agg [.int .i64 3,.int .i64 2,.int .i64 2,.int .i64 3,.int .i64 0],.agg [.int .i64 1,.int .i64 5,.int .i64 2,.int .i64 0,.int .i64 8],.agg [.int .i64 4,.int .i64 7,.int .i64 4,.int .i64 1,.int .i64 0]],.int .i64 8,.vec (AE.map ints)],.int .i64 0]:=by
 have h:=p21 c0 (vX _ (by decide))
 rw[DY,if_pos rfl,if_pos rfl,if_pos rfl,xb4,R9,zl,DZ,show c0.t.length+1=8 from rfl,z9c] at h
 exact aM.soft h (by simp[PV.aB,PV.aG])
theorem r48:aM prog 48 [.agg [.int .i64 4,.int .i64 3,.int .i64 3,.int .i64 2,.int .i64 5,.vec [bs ⟨4,8,2⟩],ints [5,7,3,9,7,4,6],.vec [cb ⟨3,[11]⟩],ints [5,7,8,6,6]]] fun r=>r=.bp [.int .i64 1,.int .i64 0]:=by
 have h:=Qy c0 (vX _ (by decide))
 rw[DY,if_pos rfl,z8x,zl] at h
 exact h
theorem r26:aM prog 26 [.agg [.int .i64 4,.int .i64 3,.int .i64 3,.int .i64 2,.int .i64 5,.vec [bs ⟨4,8,2⟩],ints [5,7,3,9,7,4,6],.vec [cb ⟨3,[11]⟩],ints [5,7,8,6,6]]] fun r=>r=.bp [.vec [.agg [.int .i64 3,.int .i64 2,.int .i64 2,.int .i64 3,.int .i64 0],.agg [.int .i64 1,.int .i64 5,.int .i64 2,.int .i64 0,.int .i64 8],.agg [.int .i64 4,.int .i64 7,.int .i64 4,.int .i64 1,.int .i64 0]],.int .i64 0]:=by
 have h:=Za c0 (vX _ (by decide))
 rw[DY,if_pos rfl,z4n,zl,DZ] at h
 exact aM.soft h (by simp[PV.aB,PV.aG])
theorem r22:aM prog 22 [.agg [.int .i64 4,.int .i64 3,.int .i64 3,.int .i64 2,.int .i64 5,.vec [bs ⟨4,8,2⟩],ints [5,7,3,9,7,4,6],.vec [cb ⟨3,[11]⟩],ints [5,7,8,6,6]]] fun r=>r=.bp [ints [0,1,6],ints [0,1,6],.int .i64 0]:=by
 have h:=Zi c0 (vX _ (by decide))
 rw[DY,if_pos rfl,if_pos rfl,z9i,z8v,zl] at h
 exact aM.soft h (by simp[PV.aB,PV.aG])
theorem r24:aM prog 24 [.agg [.int .i64 4,.int .i64 3,.int .i64 3,.int .i64 2,.int .i64 5,.vec [bs ⟨4,8,2⟩],ints [5,7,3,9,7,4,6],.vec [cb ⟨3,[11]⟩],ints [5,7,8,6,6]],.int .i64 4] fun r=>r=.bp [.agg [.int .i64 2,.int .i64 2],.int .i64 0]:=by
 have h:=Yt c0 4 (vX _ (by decide))
 rw[z8r,zl] at h
 exact h
theorem r30:aM prog 30 [.agg [.int .i64 4,.int .i64 3,.int .i64 3,.int .i64 2,.int .i64 5,.vec [bs ⟨4,8,2⟩],ints [5,7,3,9,7,4,6],.vec [cb ⟨3,[11]⟩],ints [5,7,8,6,6]],.agg [.int .i64 2,.int .i64 2,.int .i64 2,.int .i64 0,.int .i64 0]] fun r=>r=.bp [.int .i64 9,.int .i64 0]:=by
 have h:=Yl c0 ⟨2,2,2,0,0⟩ (vX _ (by decide))
 rw[DY,if_pos rfl,if_pos rfl,xbj,if_neg (by decide),zl] at h
 exact h
theorem r32:aM prog 32 [.agg [.int .i64 4,.int .i64 3,.int .i64 3,.int .i64 2,.int .i64 5,.vec [bs ⟨4,8,2⟩],ints [5,7,3,9,7,4,6],.vec [cb ⟨3,[11]⟩],ints [5,7,8,6,6]],.agg [.int .i64 3,.int .i64 2,.int .i64 2,.int .i64 3,.int .i64 0]] fun r=>r=.bp [.int .i64 7,.int .i64 0]:=by
 have h:=Yn c0 ⟨3,2,2,3,0⟩ (vX _ (by decide))
 rw[DY,if_pos rfl,if_pos rfl,xci,if_pos (by decide),if_pos (by decide),show aZ c0 c0.t.length c0.c.length=8 from R9,zl] at h
 exact h
theorem r54:aM prog 54 [.agg [.int .i64 4,.int .i64 3,.int .i64 3,.int .i64 2,.int .i64 5,.vec [bs ⟨4,8,2⟩],ints [5,7,3,9,7,4,6],.vec [cb ⟨3,[11]⟩],ints [5,7,8,6,6]],.vec [.agg [.int .i64 3,.int .i64 2,.int .i64 2,.int .i64 3,.int .i64 0],.agg [.int .i64 1,.int .i64 5,.int .i64 2,.int .i64 0,.int .i64 8],.agg [.int .i64 4,.int .i64 7,.int .i64 4,.int .i64 1,.int .i64 0]],.int .i64 0] fun r=>r=.bp [.agg [.int .i64 4,.int .i64 3,.int .i64 3,.int .i64 2,.int .i64 5,.vec [bs ⟨4,8,2⟩],ints [5,7,3,9,7,4,6],.vec [cb ⟨3,[11]⟩],ints [5,7,3,9,7,8,6,6]],.vec [.agg [.int .i64 1,.int .i64 5,.int .i64 5,.int .i64 0,.int .i64 8],.agg [.int .i64 4,.int .i64 7,.int .i64 7,.int .i64 1,.int .i64 0]],.int .i64 0]:=by
 have h:=p54 c0 p6 0 (vX _ (by decide)) (by decide)
 rw[xah,z5m,z4j,zl,DZ,hCm] at h
 exact aM.soft h (by simp[PV.aB,PV.aG,encS])
theorem r50:aM prog 50 [.agg [.int .i64 4,.int .i64 3,.int .i64 3,.int .i64 2,.int .i64 5,.vec [bs ⟨4,8,2⟩],ints [5,7,3,9,7,4,6],.vec [cb ⟨3,[11]⟩],ints [5,7,8,6,6]],.agg [.vec [.agg [.int .i64 3,.int .i64 2,.int .i64 2,.int .i64 3,.int .i64 0],.agg [.int .i64 1,.int .i64 5,.int .i64 2,.int .i64 0,.int .i64 8],.agg [.int .i64 4,.int .i64 7,.int .i64 4,.int .i64 1,.int .i64 0]],.int .i64 8,.vec (AE.map ints)]] fun r=>r=.int .i64 0:=by
 have h:=p50 c0 p6 8 AE (vX _ (by decide)) (by decide) (by rw[z3o];decide) z6h
 rw[xba,zl,DZ] at h
 exact h
theorem Sd:aM prog 34 [.vec [.agg [.int .i64 3,.int .i64 2,.int .i64 2,.int .i64 3,.int .i64 0],.agg [.int .i64 1,.int .i64 5,.int .i64 2,.int .i64 0,.int .i64 8],.agg [.int .i64 4,.int .i64 7,.int .i64 4,.int .i64 1,.int .i64 0]],.vec [.agg [.int .i64 3,.int .i64 2,.int .i64 2,.int .i64 3,.int .i64 0],.agg [.int .i64 1,.int .i64 5,.int .i64 2,.int .i64 0,.int .i64 8],.agg [.int .i64 4,.int .i64 7,.int .i64 4,.int .i64 1,.int .i64 0]]] fun r=>r=.bool true:=by
 have h:=p34 p6 p6 (by decide) (by decide)
 rw[DZ] at h
 simpa using h
theorem MZ (l:List Int)(hl:l.length<100):aM prog 37 [ints l,ints l] fun r=>r=.bool true:=by
 have h:=Mm l l (by omega) (by omega)
 simpa using h
theorem M1 (l:List Int):aM prog 74 [ints l] fun r=>r=.agg [.int .i64 4,.int .i64 3,.int .i64 3,.int .i64 2,.int .i64 5,.vec [bs ⟨4,8,2⟩],ints [5,7,3,9,7,4,6],.vec [cb ⟨3,[11]⟩],ints l]:=p74 l
theorem M2:aM prog 43 [.agg [.int .i64 4,.int .i64 3,.int .i64 3,.int .i64 2,.int .i64 5,.vec [bs ⟨4,8,2⟩],ints [5,7,3,9,7,4,6],.vec [cb ⟨3,[11]⟩],ints [5,7,3,11,9,7,4,6]]] fun r=>r=.bp [.int .i64 2,.int .i64 0]:=by
 have h:=Qw (ov [5,7,3,11,9,7,4,6]) (vX _ (by decide))
 rw[z6e,if_pos rfl,show aZ (ov [5,7,3,11,9,7,4,6]) (ov [5,7,3,11,9,7,4,6]).t.length (ov [5,7,3,11,9,7,4,6]).c.length=2 from xc9] at h
 exact h
theorem M3:aM prog 43 [.agg [.int .i64 4,.int .i64 3,.int .i64 3,.int .i64 2,.int .i64 5,.vec [bs ⟨4,8,2⟩],ints [5,7,3,9,7,4,6],.vec [cb ⟨3,[11]⟩],ints [5,7,3,9,7,7,4,6]]] fun r=>r=.bp [.int .i64 3,.int .i64 0]:=by
 have h:=Qw (ov [5,7,3,9,7,7,4,6]) (vX _ (by decide))
 rw[z5t,if_pos rfl,show aZ (ov [5,7,3,9,7,7,4,6]) (ov [5,7,3,9,7,7,4,6]).t.length (ov [5,7,3,9,7,7,4,6]).c.length=3 from xbe] at h
 exact h
theorem M4:aM prog 48 [.agg [.int .i64 4,.int .i64 3,.int .i64 3,.int .i64 2,.int .i64 5,.vec [bs ⟨4,8,2⟩],ints [3,4],.vec [],ints [9]]] fun r=>r=.bp [.int .i64 3,.int .i64 0]:=by
 have h:=Qy c1 Sb
 rw[Sa,if_pos rfl,z6w,Sc] at h
 exact h
theorem r28:aM prog 28 [.agg [.int .i64 4,.int .i64 3,.int .i64 3,.int .i64 2,.int .i64 5,.vec [bs ⟨4,8,2⟩],ints [3,4],.vec [],ints [9]]] fun r=>r=.bp [.vec ((uo c1 (fun _=>true)).map encS),.int .i64 0]:=by
 have h:=Zb c1 Sb
 rw[Sa,if_pos rfl,Sc] at h
 exact aM.soft h (by simp[PV.aB,PV.aG])
theorem p20 (hN:Names):aM prog 20 [] fun r=>r=.bool true:=by
 have Se:=r28
 obtain⟨l7,M5⟩:∃l,uo c1 (fun _=>true)=l:=⟨_,rfl⟩
 rw[M5] at Se
 have M5:l7.length=7:=by rw[← M5];exact z4t
 have Sf:=z9d hN
 rw[DZ] at Sf
 refine .bV func20 rfl rfl ?_
 refine .sr ?_
 refine .seq (.aD dU rfl af (.rn [0] _ ?_))
 refine .step rfl rfl (.take rfl rfl rfl call74 (by decide) (by first|(simp<;>rfl)|(simp[*]<;>rfl)|(simp[*];done)) (M1 [5,7,8,6,6]) ?_)
 rintro _ rfl
 refine .rn [2,3] [] ?_
 refine .done (.sr ?_)
 refine .sr ?_
 refine .seq ?_
 refine .rec (ay:=[(1,.ptr 1 0),(2,.ptr 2 0),(3,.vec [.agg [.int .i64 3,.int .i64 2,.int .i64 2,.int .i64 3,.int .i64 0],.agg [.int .i64 1,.int .i64 5,.int .i64 2,.int .i64 0,.int .i64 8],.agg [.int .i64 4,.int .i64 7,.int .i64 4,.int .i64 1,.int .i64 0]])]) (aQ:=⟨3,[(2,.box [.int .i64 3,.int .i64 2,.int .i64 2,.int .i64 3,.int .i64 0]),(1,.box [.int .i64 4,.int .i64 3,.int .i64 3,.int .i64 2,.int .i64 5,.vec [bs ⟨4,8,2⟩],ints [5,7,3,9,7,4,6],.vec [cb ⟨3,[11]⟩],ints [5,7,8,6,6]])]⟩) (.mk [3] [] gK il rfl rfl rfl) ?_
 refine .aD lF rfl af (.rn [0] _ ?_)
 refine .pc rfl rfl rfl rfl rfl call21 (r21) ?_
 refine .rn [2,3,4,5,6,7] [] ?_
 refine .done (.seq (.aD iJ rfl af ?_))
 refine .rn [0] _ ?_
 refine .pc rfl rfl rfl rfl rfl call48 (r48) ?_
 refine .rn [2,3,4,5,6] [] ?_
 refine .done (.seq (.aD iJ rfl af ?_))
 refine .rn [0] _ ?_
 refine .pc rfl rfl rfl rfl rfl call26 (r26) ?_
 refine .rn [2,3,4,5,6] [] ?_
 refine .done (.seq (.aD qJ rfl af ?_))
 refine .rn [0] _ ?_
 refine .pc rfl rfl rfl rfl rfl call22 (r22) ?_
 refine .rn [2,3,4,5,6,7,8] [] ?_
 refine .done (.seq (.aD lF rfl af ?_))
 refine .rn [0] _ ?_
 refine .pc rfl rfl rfl rfl rfl call24 (r24) ?_
 refine .rn [2,3,4,5,6,7] [] ?_
 refine .done (.seq (.aD lF rfl af ?_))
 refine .rn [0,1] _ ?_
 refine .pc rfl rfl rfl rfl rfl call30 (r30) ?_
 refine .rn [3,4,5,6,7] [] ?_
 refine .done (.seq (.aD lF rfl af ?_))
 refine .rn [0,1] _ ?_
 refine .pc rfl rfl rfl rfl rfl call32 (r32) ?_
 refine .rn [3,4,5,6,7] [] ?_
 refine .done (.seq (.aD [0,1,2,3,4,5,6,7,8,9,10] rfl af ?_))
 refine .rn [0,1] _ ?_
 refine .pc rfl rfl rfl rfl rfl call54 (r54) ?_
 refine .rn [3,4,5,6,7,8,9,10] [] ?_
 refine .done (.seq (.aD iJ rfl af ?_))
 refine .rn [0] _ ?_
 refine .pc rfl rfl rfl rfl rfl call75 (Sf) ?_
 refine .rn [2,3,4,5,6] [] ?_
 refine .done (.seq (.seq (.aD [0,1,2,3,4,5,6,7,8,9,10,11,12,13,14,15,16,17,18,19,20,21,22,23,24,25,26,27,28,29,30,31,32,33] rfl af ?_)))
 refine .rn [0,1,2] _ ?_
 refine .split (t:=94) rfl (fun o0=>?_) (fun o0=>?_)
 ·try subst o0
  try simp at o0
 try subst o0
 try simp at o0
 refine .rn [3,4,5,6] _ ?_
 refine .split (t:=98) rfl (fun vW=>?_) (fun vW=>?_)
 ·try subst vW
  try simp at vW
 try subst vW
 try simp at vW
 refine .rn [7,8,9,10] _ ?_
 refine .split (t:=102) rfl (fun vY=>?_) (fun vY=>?_)
 ·try subst vY
  try simp at vY
 try subst vY
 try simp at vY
 refine .rn [11,12,13,14] _ ?_
 refine .split (t:=106) rfl (fun vZ=>?_) (fun vZ=>?_)
 ·try subst vZ
  try simp at vZ
 try subst vZ
 try simp at vZ
 refine .rn [15,16,17,18] _ ?_
 refine .split (t:=110) rfl (fun v7=>?_) (fun v7=>?_)
 ·try subst v7
  try simp at v7
 try subst v7
 try simp at v7
 refine .rn [19,20,21,22] _ ?_
 refine .split (t:=114) rfl (fun my=>?_) (fun my=>?_)
 ·try subst my
  try simp at my
 try subst my
 try simp at my
 refine .rn [23,24,25,26] _ ?_
 refine .split (t:=118) rfl (fun v8=>?_) (fun v8=>?_)
 ·try subst v8
  try simp at v8
 try subst v8
 try simp at v8
 refine .rn [27,28,29,30] _ ?_
 refine .split (t:=122) rfl (fun wa=>?_) (fun wa=>?_)
 ·try subst wa
  try simp at wa
 try subst wa
 try simp at wa
 refine .rn [31,32,33] [] ?_
 refine .done ?_
 refine .cs ?_ ?_<;>intro GG
 ·try simp at GG
 try simp at GG
 refine .skip (.seq (.aD [0,1,2,3,4,5,6,7,8,9,10,11,12,13,14,15,16,17,18,19,20,21,22,23,24,25,26,27,28,29,30,31,32,33,34,35,36,37,38,39,40,41,42,43,44,45,46,47] rfl af (.rn dU _ ?_)))
 refine .split (t:=129) rfl (fun wc=>?_) (fun wc=>?_)
 ·try subst wc
  try simp at wc
  refine .rn [4,5,6] _ ?_
  refine .pc rfl rfl rfl rfl rfl call34 (Sd) ?_
  refine .rn [8,9] _ ?_
  refine .split (t:=135) rfl (fun we=>?_) (fun we=>?_)
  ·try subst we
   try simp at we
   refine .rn [10,11] _ ?_
   refine .pc rfl rfl rfl rfl rfl call50 (r50) ?_
   refine .rn [13,14,15] _ ?_
   refine .split (t:=141) rfl (fun wg=>?_) (fun wg=>?_)
   ·try subst wg
    try simp at wg
    refine .rn [16,17,18,19] _ ?_
    refine .split (t:=145) rfl (fun wh=>?_) (fun wh=>?_)
    ·try subst wh
     try simp at wh
     refine .rn [20,21] _ ?_
     refine .pc rfl rfl rfl rfl rfl call34 (Sd) ?_
     refine .rn [23,24] _ ?_
     refine .split (t:=150) rfl (fun wj=>?_) (fun wj=>?_)
     ·try subst wj
      try simp at wj
      refine .rn [25,26] _ ?_
      refine .step rfl rfl (.take rfl rfl rfl call37 (by decide) (by first|(simp<;>rfl)|(simp[*]<;>rfl)|(simp[*];done)) (MZ [0,1,6] (by decide)) ?_)
      rintro _ rfl
      refine .rn [28,29] _ ?_
      refine .split (t:=155) rfl (fun wq=>?_) (fun wq=>?_)
      ·try subst wq
       try simp at wq
       refine .rn [30,31] _ ?_
       refine .step rfl rfl (.take rfl rfl rfl call37 (by decide) (by first|(simp<;>rfl)|(simp[*]<;>rfl)|(simp[*];done)) (MZ [0,1,6] (by decide)) ?_)
       rintro _ rfl
       refine .rn [33,34] _ ?_
       refine .split (t:=160) rfl (fun wu=>?_) (fun wu=>?_)
       ·try subst wu
        try simp at wu
        refine .rn [35,36,37,38,39] _ ?_
        refine .split (t:=165) rfl (fun wx=>?_) (fun wx=>?_)
        ·try subst wx
         try simp at wx
         refine .rn [40,41,42,43] _ ?_
         refine .split (t:=169) rfl (fun wy=>?_) (fun wy=>?_)
         ·try subst wy
          try simp at wy
          refine .rn [44,45,46,47] [] ?_
          refine .done (.seq (.aD E9 rfl af ?_))
          refine .rn [0,1,2] _ ?_
          refine .step rfl rfl (.take rfl rfl rfl call37 (by decide) (by first|(simp<;>rfl)|(simp[*]<;>rfl)|(simp[*];done)) (MZ [5,7,3,9,7,8,6,6] (by decide)) ?_)
          rintro _ rfl
          refine .rn [4] _ ?_
          refine .split (t:=177) rfl (fun wz=>?_) (fun wz=>?_)
          ·try subst wz
           try simp at wz
           refine .rn [5,6,7,8,9] _ ?_
           refine .split (t:=182) rfl (fun wA=>?_) (fun wA=>?_)
           ·try subst wA
            try simp at wA
            refine .rn [10,11,12,13,14,15,16] _ ?_
            refine .split (t:=189) rfl (fun wB=>?_) (fun wB=>?_)
            ·try subst wB
             try simp at wB
             refine .rn [17,18,19,20,21,22,23] _ ?_
             refine .split (t:=196) rfl (fun wC=>?_) (fun wC=>?_)
             ·try subst wC
              try simp at wC
              refine .rn [24,25,26,27] [] ?_
              refine .done (.seq (.aD lF rfl af ?_))
              refine .rn [0] _ ?_
              refine .step rfl rfl (.take rfl rfl rfl call74 (by decide) (by first|(simp<;>rfl)|(simp[*]<;>rfl)|(simp[*];done)) (M1 [5,7,3,11,9,7,4,6]) ?_)
              rintro _ rfl
              refine .pc rfl rfl rfl rfl rfl call43 (M2) ?_
              refine .rn [3,4,5,6,7] [] ?_
              refine .done (.seq (.aD lF rfl af ?_))
              refine .rn [0] _ ?_
              refine .step rfl rfl (.take rfl rfl rfl call74 (by decide) (by first|(simp<;>rfl)|(simp[*]<;>rfl)|(simp[*];done)) (M1 [5,7,3,9,7,7,4,6]) ?_)
              rintro _ rfl
              refine .pc rfl rfl rfl rfl rfl call43 (M3) ?_
              refine .rn [3,4,5,6,7] [] ?_
              refine .done (.seq ?_)
              refine .rec (ay:=[(24,.bool true),(25,.bool true),(26,.int .i64 2),(27,.int .i64 0),(28,.int .i64 3),(29,.int .i64 0)]) (aQ:=⟨0,[]⟩) bx ?_
              refine .aD jR rfl af ?_
              refine .pc rfl rfl rfl rfl rfl call76 (Rw) ?_
              refine .rn [1,2] _ ?_
              refine .step rfl rfl (.s5 (ay:=[(214,ints [9]),(213,ints [3,4]),(212,.agg [.int .i64 4,.int .i64 3,.int .i64 3,.int .i64 2,.int .i64 5,.vec [bs ⟨4,8,2⟩]]),(24,.bool true),(25,.bool true),(26,.int .i64 2),(27,.int .i64 0),(28,.int .i64 3),(29,.int .i64 0)]) (aQ:=⟨2,[]⟩) (.mk [0,1] [] gK il rfl rfl rfl) (.op fh (by decide) ?_))
              refine .rn [4,5] [] ?_
              refine .done (.seq ?_)
              refine .rec (ay:=[(24,.bool true),(25,.bool true),(26,.int .i64 2),(27,.int .i64 0),(28,.int .i64 3),(29,.int .i64 0),(30,.ptr 2 0)]) (aQ:=⟨3,[(2,.box [.int .i64 4,.int .i64 3,.int .i64 3,.int .i64 2,.int .i64 5,.vec [bs ⟨4,8,2⟩],ints [3,4],.vec [],ints [9]])]⟩) bx ?_
              refine .aD iJ rfl af (.rn [0] _ ?_)
              refine .pc rfl rfl rfl rfl rfl call48 (M4) ?_
              refine .rn [2,3,4,5,6] [] ?_
              refine .done (.seq (.aD iJ rfl af ?_))
              refine .rn [0] _ ?_
              refine .pc rfl rfl rfl rfl rfl call28 (Se) ?_
              refine .rn [2,3,4,5,6] [] ?_
              refine .done (.seq (.aD [0,1,2,3,4,5,6,7,8,9,10,11,12,13,14,15,16,17,18,19,20,21,22,23,24,25,26,27,28,29,30,31,32,33,34,35,36,37] rfl af ?_))
              refine .rn [0,1] _ ?_
              refine .split (t:=227) rfl (fun wD=>?_) (fun wD=>?_)
              ·try subst wD
               try simp at wD
               refine .rn [2,3,4] _ ?_
               refine .split (t:=230) rfl (fun kg=>?_) (fun kg=>?_)
               ·try subst kg
                try simp at kg
                refine .rn [5,6,7,8] _ ?_
                refine .split (t:=234) rfl (fun mF=>?_) (fun mF=>?_)
                ·try subst mF
                 try simp at mF
                 refine .rn [9,10,11,12] _ ?_
                 refine .split (t:=238) rfl (fun wE=>?_) (fun wE=>?_)
                 ·try subst wE
                  try simp at wE
                  refine .rn [13,14,15,16] _ ?_
                  refine .split (t:=242) rfl (fun wF=>?_) (fun wF=>?_)
                  ·try subst wF
                   try simp at wF
                   refine .rn [17,18,19,20] _ ?_
                   refine .split (t:=246) rfl (fun wG=>?_) (fun wG=>?_)
                   ·try subst wG
                    try simp at wG
                    refine .rn [21,22,23,24] _ ?_
                    refine .split (t:=250) rfl (fun wH=>?_) (fun wH=>?_)
                    ·try subst wH
                     try simp at wH
                     refine .rn [25,26,27,28] _ ?_
                     refine .split (t:=254) rfl (fun wI=>?_) (fun wI=>?_)
                     ·try subst wI
                      try simp at wI
                      refine .rn [29,30,31,32] _ ?_
                      refine .split (t:=258) rfl (fun wJ=>?_) (fun wJ=>?_)
                      ·try subst wJ
                       try simp at wJ
                       refine .rn [33,34,35,36,37] [] ?_
                       refine .done (.ret (aH ?_))
                       exact zk
                      try subst wJ
                      try simp at wJ
                     try subst wI
                     try simp at wI
                    try subst wH
                    try simp at wH
                   try subst wG
                   try simp at wG
                  try subst wF
                  try simp at wF
                 try subst wE
                 try simp at wE
                try subst mF
                try simp at mF
               try subst kg
               try simp at kg
              try subst wD
              try simp at wD
             try subst wC
             try simp at wC
            try subst wB
            try simp at wB
           try subst wA
           try simp at wA
          try subst wz
          try simp at wz
         try subst wy
         try simp at wy
        try subst wx
        try simp at wx
       try subst wu
       try simp at wu
      try subst wq
      try simp at wq
     try subst wj
     try simp at wj
    try subst wh
    try simp at wh
   try subst wg
   try simp at wg
  try subst we
  try simp at we
 try subst wc
 try simp at wc
end
end Go.Am.Sl
end
section
namespace Go.Am.Sl
open Go Go.Am Go.Proofs Tryz
attribute [local simp] fx ie rS dS ig nD ah.back de gJ l8 bm Nat.testBit_eq_decide_div_mod_eq cF iX ny vO qE ja qF jw cW oX oV qB jb qC pI mW rR pH qD qv qq qw qt qu qz qA od fI kl fw qG oZ pK qH qI oc rP rQ iY nz gp fY gq lV hU pA oD oE jY qi bo pG fX bU bS l9 ah.get ah.alloc ah.put ah.drop ah.empty bh dm iF jP gI cB chunk List.range List.range.loop ma rT mX bz b9 PV.aB PV.aG PV.dy PV.fW jc jd pL PV.one PV.ids PV.cO gx beq_eq sJ tW
attribute [local simp] cQ bQ jf ua yR rY sR pQ gz fG
attribute [local simp ↓ high] vm tZ
variable [bE] in
theorem p39 (l:List ai)(s:ai)(hl:l.length<4611686018427387904):aM prog 39 [.vec (l.map encS),encS s] fun r=>r=.bool (decide (s∈l)):=by
 have hE:∀s:ai,encS s=.agg [.int .i64 s.k,.int .i64 s.a,.int .i64 s.i,.int .i64 s.l,.int .i64 s.w]:=fun _=>rfl
 rw[hE s]
 refine .bV func39 rfl rfl ?_
 refine .sr ?_
 refine .seq (.sr ?_)
 refine .block ?_
 refine .dF (fun i:Nat=>([(0,.vec (l.map encS)),(3,.ptr 0 0),(5,.int .i64 i)],⟨1,[(0,.box [.int .i64 s.k,.int .i64 s.a,.int .i64 s.i,.int .i64 s.l,.int .i64 s.w])]⟩)) (fun i=>i≤l.length∧s∉l.take i) (fun i=>l.length - i) 0 (by simp) bx ?_
 rintro i ⟨hi,ht⟩
 simp only at hi ht ⊢
 refine .seq (.sr ?_)
 refine .cs ?_ ?_<;>intro c9
 ·try simp at c9
  have eP:=fy i
  have cT:i<l.length:=by omega
  obtain⟨x,hx⟩:∃x,l[i]?=some x:=⟨_,List.getElem?_eq_getElem cT⟩
  have ki:l[i]=x:=(List.getElem?_eq_some_iff.1 hx).2
  refine .skip (.seq (.block (.seq ?_)))
  refine .drawn (ms:=[0,0,3,7,0,31]) (W:=[]) (items:=[.op 0,.op 1,.op 2,.op 3,.op 4,.op 5]) rfl af af af ?_
  iterate 6 refine .rx ?_
  refine .done ?_
  refine .cs ?_ ?_<;>intro gW
  ·try simp at gW
   have nX:x=s:=by cases x;cases s;simp at gW;simp[gW]
   have cC:decide (s∈l)=true:=by rw[decide_eq_true_eq,← nX,← ki];exact List.getElem_mem cT
   refine .sr ?_
   refine .ret (aH ?_)
   rw[cC]
  try simp at gW
  have nX:¬x=s:=fun e=>by subst e;simp at gW
  refine .skip (.rn ?_)
  refine⟨i+1,⟨bt,?_⟩,bt,bx⟩
  rw[List.take_succ_eq_append_getElem cT,ki]
  simp[ht];exact fun e=>nX e.symm
 try simp at c9
 obtain rfl:i=l.length:=by omega
 have cC:decide (s∈l)=false:=by rw[decide_eq_false_iff_not];rwa [List.take_length] at ht
 refine .exit (.sr ?_)
 refine .ret (aH ?_)
 rw[cC]
end Go.Am.Sl
end
section
namespace Go.Am.Sl
def z0 (s:ai):ai:={ s with i:=0 }
def eY:ai→List ai→List ai
 |_,[]=>[]
 |p,x::r=>if x=p then eY p r else x::eY x r
def dP:List ai→List ai
 |[]=>[]
 |a::r=>a::eY a r
def zm (a b:List ai):List ai:=(a.map z0).filter fun s=>decide (s∈b.map z0)
def nQ (a b:List ai):List ai:=dP ((zm a b).mergeSort kW)
theorem xbu {a b:ai}(h:kW a b=true)(cC:b≠a):a.lt b:=by
 rw[I2] at h
 refine Decidable.by_contra fun h2=>cC ?_
 obtain⟨a1,a2,a3,a4,a5⟩:=a
 obtain⟨b1,b2,b3,b4,b5⟩:=b
 unfold ai.lt at h h2
 simp only at h h2
 simp only[ai.mk.injEq]
 omega
theorem M6 {x:ai}:∀ {l:List ai} {p:ai},x∈eY p l→x∈l
 |[],_,h=>h
 |y::r,p,h=>by
  unfold eY at h
  split at h
  ·exact List.mem_cons_of_mem _ (M6 h)
  rcases List.mem_cons.1 h with rfl|h
  ·exact List.mem_cons_self
  exact List.mem_cons_of_mem _ (M6 h)
theorem M7 {x:ai}:∀ {l:List ai} {p:ai},x∈l→x=p∨x∈eY p l
 |[],_,h=>by cases h
 |y::r,p,h=>by
  unfold eY
  split
  ·rename_i hy
   rcases List.mem_cons.1 h with rfl|h
   ·exact .inl hy
   exact M7 h
  rcases List.mem_cons.1 h with rfl|h
  ·exact .inr List.mem_cons_self
  rcases M7 (p:=y) h with rfl|h
  ·exact .inr List.mem_cons_self
  exact .inr (List.mem_cons_of_mem _ h)
theorem zzm {x:ai}{l:List ai}:x∈dP l↔x∈l:=by
 cases l with
 |nil=>exact Iff.rfl
 |cons a r=>
  unfold dP
  rw[List.mem_cons,List.mem_cons]
  exact⟨fun h=>h.imp id M6,fun h=>h.elim .inl M7⟩
theorem M8:∀ {l:List ai} {p:ai},(p::l).Pairwise (fun a b=>kW a b=true)→(p::eY p l).Pairwise ai.lt
 |[],p,_=>by unfold eY;exact List.pairwise_singleton ..
 |x::r,p,h=>by
  obtain⟨h1,h2⟩:=List.pairwise_cons.1 h
  unfold eY
  split
  ·refine M8 (List.pairwise_cons.2 ⟨fun y hy=>h1 y (List.mem_cons_of_mem _ hy),(List.pairwise_cons.1 h2).2⟩)
  rename_i hx
  have h3:=M8 h2
  have h4:=xbu (h1 x List.mem_cons_self) hx
  refine List.pairwise_cons.2 ⟨fun y hy=>?_,h3⟩
  rcases List.mem_cons.1 hy with rfl|hy
  ·exact h4
  exact ai.lt_trans h4 ((List.pairwise_cons.1 h3).1 y hy)
theorem z2z {l:List ai}(h:l.Pairwise fun a b=>kW a b=true):(dP l).Pairwise ai.lt:=by
 cases l with
 |nil=>exact .nil
 |cons a r=>exact M8 h
theorem M9 (a b:List ai):(nQ a b).Pairwise ai.lt:=z2z (xac _)
theorem GH {a b:List ai}{x:ai}:x∈nQ a b↔x∈a.map z0∧x∈b.map z0:=by
 unfold nQ zm
 rw[zzm,z3l,List.mem_filter,decide_eq_true_eq]
theorem Sh:∀ {a b:List ai},a.Pairwise ai.lt→b.Pairwise ai.lt→(∀x,x∈a↔x∈b)→a=b
 |[],[],_,_,_=>rfl
 |[],y::s,_,_,h=>absurd ((h y).2 List.mem_cons_self) (by simp)
 |x::r,[],_,_,h=>absurd ((h x).1 List.mem_cons_self) (by simp)
 |x::r,y::s,h1,h2,h=>by
  obtain⟨g1,g2⟩:=List.pairwise_cons.1 h1
  obtain⟨g3,g4⟩:=List.pairwise_cons.1 h2
  have e:x=y:=by
   rcases List.mem_cons.1 ((h x).1 List.mem_cons_self) with e|e
   ·exact e
   rcases List.mem_cons.1 ((h y).2 List.mem_cons_self) with e2|e2
   ·exact e2.symm
   exact absurd (ai.lt_trans (g1 y e2) (g3 x e)) (ai.yV x)
  subst e
  have:=Sh g2 g4 fun z=>by
   constructor
   ·intro hz
    rcases List.mem_cons.1 ((h z).1 (List.mem_cons_of_mem _ hz)) with rfl|iC
    ·exact absurd (g1 z hz) (ai.yV z)
    exact iC
   intro hz
   rcases List.mem_cons.1 ((h z).2 (List.mem_cons_of_mem _ hz)) with rfl|iC
   ·exact absurd (g3 z hz) (ai.yV z)
   exact iC
  rw[this]
theorem z1j (a b:List ai):nQ a b=nQ b a:=Sh (M9 a b) (M9 b a) fun x=>by rw[GH,GH,and_comm]
theorem xag {a b:List ai}{x:ai}(h:x∈nQ a b):x.i=0∧x∈nQ a a:=by
 obtain⟨h1,h2⟩:=GH.1 h
 refine⟨?_,GH.2 ⟨h1,h1⟩⟩
 obtain⟨y,_,rfl⟩:=List.mem_map.1 h1
 rfl
theorem z4l {a:List ai}{x:ai}(h:x∈a):z0 x∈nQ a a:=GH.2 ⟨List.mem_map_of_mem h,List.mem_map_of_mem h⟩
theorem xaa {a b:List ai}{k:Nat}{x y:ai}(h1:(nQ a b)[k]?=some x)(h2:(nQ a b)[k+1]?=some y):y≠x:=fun e=>by
 obtain⟨g1,g2⟩:=List.getElem?_eq_some_iff.1 h1
 obtain⟨g3,g4⟩:=List.getElem?_eq_some_iff.1 h2
 have:=List.pairwise_iff_getElem.1 (M9 a b) k (k+1) g1 g3 (by omega)
 rw[g2,g4,e] at this
 exact ai.yV x this
theorem Si (a b:List ai):(nQ a b).length≤a.length:=by
 have h1:∀l p,(eY p l).length≤l.length:=fun l=>by
  induction l with
  |nil=>intro p;exact Nat.le_refl _
  |cons x r ih=>
   intro p
   unfold eY
   split
   ·have:=ih p;simp only[List.length_cons];omega
   have:=ih x;simp only[List.length_cons];omega
 have h2:∀l,(dP l).length≤l.length:=fun l=>by
  cases l with
  |nil=>exact Nat.le_refl _
  |cons a r=>unfold dP;have:=h1 r a;simp only[List.length_cons];omega
 have h3:=h2 ((zm a b).mergeSort kW)
 rw[List.length_mergeSort] at h3
 have h4:(zm a b).length≤a.length:=by unfold zm;have:=List.length_filter_le (fun s=>decide (s∈b.map z0)) (a.map z0);rw[List.length_map] at this;exact this
 unfold nQ;omega
open Go Go.Am Go.Proofs Tryz
attribute [local simp] fx ie rS dS ig nD ah.back de gJ l8 bm Nat.testBit_eq_decide_div_mod_eq cF iX ny vO qE ja qF jw cW oX oV qB jb qC pI mW rR pH qD qv qq qw qt qu qz qA od fI kl fw qG oZ pK qH qI oc rP rQ iY nz gp fY gq lV hU pA oD oE jY qi bo pG fX bU bS l9 ah.get ah.alloc ah.put ah.drop ah.empty bh dm iF jP gI cB chunk List.range List.range.loop ma rT mX bz b9 PV.aB PV.aG PV.dy PV.fW jc jd pL PV.one PV.ids PV.cO gx beq_eq sJ tW
attribute [local simp] cQ bQ jf gz fG
attribute [local simp ↓ high] vm tZ
def fl (l:List ai):List PV:=(l.map encS).flatMap PV.cells
def cS (s:ai):List PV:=[.int .i64 s.k,.int .i64 s.a,.int .i64 s.i,.int .i64 s.l,.int .i64 s.w]
theorem I3 (a b:List ai):fl (a++b)=fl a++fl b:=by unfold fl;rw[List.map_append,List.flatMap_append]
theorem I4 (s:ai)(r:List ai):fl (s::r)=cS s++fl r:=rfl
theorem GI (l:List ai):(fl l).length=l.length*5:=by
 induction l with
 |nil=>rfl
 |cons a r ih=>rw[I4,List.length_append,ih,List.length_cons];show 5+_=_;omega
theorem I5 {l:List ai}{k:Nat}{s:ai}(h:l[k]?=some s):(List.drop (k*5) (fl l)).take 5=[.int .i64 s.k,.int .i64 s.a,.int .i64 s.i,.int .i64 s.l,.int .i64 s.w]:=by
 obtain⟨h1,h2⟩:=List.getElem?_eq_some_iff.1 h
 have e:l=l.take k++s::l.drop (k+1):=by rw[← h2,← List.drop_eq_getElem_cons h1,List.take_append_drop]
 have e2:fl l=fl (l.take k)++(cS s++fl (l.drop (k+1))):=by rw[← I4,← I3,← e]
 have e3:(fl (l.take k)).length=k*5:=by rw[GI,List.length_take,Nat.min_eq_left (by omega)]
 rw[e2,← e3,List.drop_left];rfl
theorem xam {A R:List ai}{s x:ai}{k:Nat}(hk:A.length=k):(fl (A++x::R)).take (k*5)++(.int .i64 s.k::.int .i64 s.a::.int .i64 s.i::.int .i64 s.l::.int .i64 s.w::(fl (A++x::R)).drop (k*5+5))=fl (A++s::R):=by
 have e3:(fl A).length=k*5:=by rw[GI,hk]
 rw[I3,I3,I4,I4,← e3,List.take_left,List.drop_append,List.drop_of_length_le (by omega),List.nil_append,Nat.add_sub_cancel_left]
 rfl
theorem z6r {A R:List ai}{k:Nat}(hk:A.length=k):(fl (A++R)).take (k*5)=fl A:=by
 have e3:(fl A).length=k*5:=by rw[GI,hk]
 rw[I3,← e3,List.take_left]
theorem z8k (l:List ai):jK 5 (l.map encS):=.map (g:=fun s=>[.int .i64 s.k,.int .i64 s.a,.int .i64 s.i,.int .i64 s.l,.int .i64 s.w]) (fun _=>rfl) (fun _=>rfl) l
theorem Sj {vh:ah}{i n:Nat}{l:List ai}{r:List PV}(hg:vh.get i=some (.arr true 5 (fl l++r)))(hn:l.length=n):bz vh (.sub i 0 n)=some (.vec (l.map encS)):=
 zr9 hg (z8k l) (by rw[List.length_map];exact hn)
theorem Sk {vh:ah}{i n:Nat}{l:List ai}(hg:vh.get i=some (.arr true 5 (fl l)))(hn:l.length=n):bz vh (.sub i 0 n)=some (.vec (l.map encS)):=
 Sj (r:=[]) (by rw[List.append_nil];exact hg) hn
def D0:ai→List ai→ai
 |p,[]=>p
 |_,y::r=>D0 y r
theorem Sm {x:ai}:∀ {m:Nat} {a:ai} {r:List ai},(a::r)[m]?=some x→D0 a (r.take m)=x
 |0,a,r,h=>by simpa[D0] using h
 |m+1,a,[],h=>by simp at h
 |m+1,a,b::r,h=>by
  rw[List.getElem?_cons_succ] at h
  rw[List.take_succ_cons]
  exact Sm h
theorem Na (p y:ai)(r:List ai):eY p (y::r)=if y=p then eY p r else y::eY y r:=rfl
theorem Nb (x:ai):∀(l:List ai) (p:ai),eY p (l++[x])=if x=D0 p l then eY p l else eY p l++[x]
 |[],p=>by
  rw[List.nil_append,Na]
  show _=if x=p then [] else [x]
  by_cases hx:x=p
  ·rw[if_pos hx,if_pos hx];rfl
  rw[if_neg hx,if_neg hx];rfl
 |y::r,p=>by
  rw[List.cons_append,Na,Na]
  show _=if x=D0 y r then _ else _
  by_cases hy:y=p
  ·subst hy
   rw[if_pos rfl,if_pos rfl];exact Nb x r y
  rw[if_neg hy,if_neg hy,Nb x r y]
  split<;>rfl
theorem Sn {l:List ai}{m:Nat}{x y:ai}(h0:l[m]?=some x)(h1:l[m+1]?=some y):dP (l.take (m+2))=if y=x then dP (l.take (m+1)) else dP (l.take (m+1))++[y]:=by
 obtain⟨g1,g2⟩:=List.getElem?_eq_some_iff.1 h0
 obtain⟨g3,g4⟩:=List.getElem?_eq_some_iff.1 h1
 cases l with
 |nil=>simp at g1
 |cons a r=>
  have hr:m<r.length:=by simpa using g3
  have e1:(a::r).take (m+2)=a::(r.take m++[y]):=by
   have:=List.take_succ_eq_append_getElem hr
   rw[List.take_succ_cons,this]
   congr 3
  have e2:(a::r).take (m+1)=a::r.take m:=rfl
  have e3:D0 a (r.take m)=x:=Sm h0
  rw[e1,e2]
  show a::eY a (r.take m++[y])=if y=x then a::eY a (r.take m) else (a::eY a (r.take m))++[y]
  rw[Nb y (r.take m) a,e3]
  split<;>simp
theorem Sp {l:List ai}(h:1≤l.length):dP (l.take 1)=l.take 1:=by
 cases l with
 |nil=>simp at h
 |cons a r=>rfl
theorem z0o (l:List ai):(dP l).length≤l.length:=by
 have h1:∀l p,(eY p l).length≤l.length:=fun l=>by
  induction l with
  |nil=>intro p;exact Nat.le_refl _
  |cons x r ih=>
   intro p
   unfold eY
   split
   ·have:=ih p;simp only[List.length_cons];omega
   have:=ih x;simp only[List.length_cons];omega
 cases l with
 |nil=>exact Nat.le_refl _
 |cons a r=>unfold dP;have:=h1 r a;simp only[List.length_cons];omega
def tm (l:List ai)(m:Nat):List ai:=dP (l.take m)++l.drop (dP (l.take m)).length
theorem Sq {l:List ai}{m j:Nat}(h:(dP (l.take m)).length≤j):(tm l m)[j]?=l[j]?:=by
 unfold tm
 rw[List.getElem?_append_right h,List.getElem?_drop];congr 1;omega
theorem Nc {x y:ai}:(x.k==y.k&&x.a==y.a&&x.i==y.i&&x.l==y.l&&x.w==y.w)=decide (x=y):=by
 rw[Bool.eq_iff_iff,decide_eq_true_eq]
 simp only[bR,beq_iff_eq]
 constructor
 ·rintro⟨⟨⟨⟨h1,h2⟩,h3⟩,h4⟩,h5⟩;exact ai.ext' h1 h2 h3 h4 h5
 rintro rfl;exact⟨⟨⟨⟨rfl,rfl⟩,rfl⟩,rfl⟩,rfl⟩
variable [bE] in
theorem Nd (zs:List ai)(BX:1≤zs.length)(hn:zs.length≤1000):cR prog 119 [.sub 0 0 zs.length] ⟨1,[(0,.arr true 5 (fl zs))]⟩ fun r _=>r.aB=true∧r=.vec ((dP zs).map encS):=by
 have kQ:=GI
 obtain⟨n,p8⟩:∃n,zs.length=n:=⟨_,rfl⟩
 rw[p8] at BX hn ⊢
 refine .zza func119 rfl rfl ?_
 refine .sr ?_
 refine .seq (.sr ?_)
 refine .cs ?_ ?_<;>intro c8
 ·try simp at c8
  have h1:n=1:=by omega
  subst h1
  have hc:dP zs=zs:=by
   have:=Sp (l:=zs) (by omega)
   rwa [← p8,List.take_length] at this
  refine .sr ?_
  refine .ret ?_
  refine⟨_,_,gj,(by exact Sk rfl p8),?_⟩
  rw[hc]
 try simp at c8
 have ug:2≤n:=by omega
 refine .skip (.seq (.sr ?_))
 refine .block ?_
 refine .dF (fun k:Nat=>([(0,.sub 0 0 n),(3,.int .i64 k)],⟨1,[(0,.arr true 5 (fl zs))]⟩)) (fun k=>1≤k∧k≤n∧dP (zs.take k)=zs.take k) (fun k=>n - k) 1 ⟨by omega,by omega,Sp (by omega)⟩ bx ?_
 rintro k ⟨j4,l5,zn⟩
 simp only at j4 l5 zn ⊢
 refine .seq (.sr ?_)
 refine .cs ?_ ?_<;>intro pW
 ·try simp at pW
  have fD:k<n:=by omega
  obtain⟨k1,rfl⟩:∃k1,k=k1+1:=⟨k - 1,by omega⟩
  obtain⟨x,hx⟩:∃x,zs[k1]?=some x:=⟨_,List.getElem?_eq_getElem (by omega)⟩
  obtain⟨y,hy⟩:∃y,zs[k1+1]?=some y:=⟨_,List.getElem?_eq_getElem (by omega)⟩
  have Cy:=Sn hx hy
  have lx:=I5 hx
  have ly:=I5 hy
  obtain⟨K,hK⟩:∃K,k1+1=K:=⟨_,rfl⟩
  rw[hK] at ly fD l5 zn j4 ⊢
  have wm:IntKind.i64.wrap ((K:Int) - 1)=(k1:Int):=by rw[wrap64 (by omega) (by omega)];omega
  have wp:=fy K
  have b1:k1<n:=by omega
  have b2:k1*5+5≤n*5:=by omega
  have b3:K*5+5≤n*5:=by omega
  have heq:=@Nc y x
  obtain⟨eb,kX⟩:∃b,decide (y=x)=b:=⟨_,rfl⟩
  rw[kX] at heq
  have bT:(fl zs).length=n*5:=by rw[GI,p8]
  refine .skip (.seq (.block (.seq ?_)))
  refine .drawn (ms:=[0,0,3,7,0,0,32,112,240,511]) (W:=[]) (items:=GJ) rfl af af af ?_
  iterate 10 refine .rx ?_
  refine .done ?_
  refine .cs ?_ ?_<;>intro fN
  ·try simp at fN
   have I6:y=x:=of_decide_eq_true (kX.trans fN)
   have yaf:K≤n:=by omega
   have hnK:K<n:=fD
   rw[hK] at Cy
   rw[show k1+2=K+1 by omega,if_pos I6,zn] at Cy
   have aU:(zs.take K).length=K:=by rw[List.length_take,p8];omega
   have Cg:tm zs (K+1)=zs:=by unfold tm;rw[Cy,aU,List.take_append_drop]
   have zo:(dP (zs.take (K+1))).length=K:=by rw[Cy];exact aU
   have Hx:¬n=K:=by omega
   clear lx ly heq kX zn hx hy I6 fN
   refine .sr ?_
   refine .seq (.sr ?_)
   refine .block ?_
   refine .dF (fun q:Nat=>([(0,.sub 0 0 n),(3,.int .i64 (dP (zs.take (K+q))).length),(4,.sub 0 (K*5) (n - K)),(5,.int .i64 q)],⟨1,[(0,.arr true 5 (fl (tm zs (K+q))))]⟩)) (fun q=>1≤q∧K+q≤n∧(dP (zs.take (K+q))).length+1≤K+q) (fun q=>n - q) 1 ⟨by omega,by omega,by rw[zo];omega⟩ (by rw[zo,Cg];exact bx) ?_
   rintro q ⟨JT,Mh,I7⟩
   simp only at JT Mh I7 ⊢
   obtain⟨M,hM⟩:∃M,K+q=M:=⟨_,rfl⟩
   rw[hM] at Mh I7 ⊢
   obtain⟨m,hm⟩:∃m,m+1=M:=⟨M - 1,by omega⟩
   have ep:=z0o (zs.take M)
   rw[List.length_take,p8] at ep
   obtain⟨C,hC⟩:∃C,dP (zs.take M)=C:=⟨_,rfl⟩
   have Ay:tm zs M=C++zs.drop C.length:=by unfold tm;rw[hC]
   rw[hC] at ep I7 ⊢
   obtain⟨c,hc⟩:∃c,C.length=c:=⟨_,rfl⟩
   rw[hc] at ep I7 Ay ⊢
   have BQ:(tm zs M).length=n:=by rw[Ay,List.length_append,List.length_drop,p8,hc];omega
   have d6:c<n:=by omega
   have d5:c*5+5≤n*5:=by omega
   have d0:K<n:=by omega
   have Nf:=Ay.symm
   clear Ay
   refine .seq (.sr ?_)
   refine .cs ?_ ?_<;>intro eX
   ·try simp at eX
    have Wz:M<n:=by omega
    obtain⟨x,hx⟩:∃x,zs[m]?=some x:=⟨_,List.getElem?_eq_getElem (by omega)⟩
    obtain⟨y,hy⟩:∃y,zs[m+1]?=some y:=⟨_,List.getElem?_eq_getElem (by omega)⟩
    have rm:=Sn hx hy
    rw[show m+2=M+1 by omega,hm,hC] at rm
    rw[hm] at hy
    have lx:=I5 ((Sq (l:=zs) (m:=M) (j:=m) (by rw[hC,hc];omega)).trans hx)
    have ly:=I5 ((Sq (l:=zs) (m:=M) (j:=M) (by rw[hC,hc];omega)).trans hy)
    have wm2:IntKind.i64.wrap ((q:Int) - 1)=((q - 1:Nat):Int):=by rw[wrap64 (by omega) (by omega)];omega
    have wp2:=fy q
    have wp3:=fy c
    have o1:K*5+q*5=M*5:=by omega
    have o2:K*5+(q - 1)*5=m*5:=by omega
    have d1:q<n - K:=by omega
    have d2:q - 1<n - K:=by omega
    have d3:M*5+5≤n*5:=by omega
    have d4:m*5+5≤n*5:=by omega
    have Cq:=@Nc y x
    obtain⟨eb,kX⟩:∃b,decide (y=x)=b:=⟨_,rfl⟩
    rw[kX] at Cq
    obtain⟨q0,zp⟩:∃q0,q - 1=q0:=⟨_,rfl⟩
    rw[zp] at wm2 o2 d2
    have Sr:zs.drop c=(zs.drop c).head (by rw[Ne,List.drop_eq_nil_iff,p8];omega)::zs.drop (c+1):=by
     rw[List.head_drop];exact List.drop_eq_getElem_cons (by omega)
    have lL:=@xam C (zs.drop (c+1)) y ((zs.drop c).head (by rw[Ne,List.drop_eq_nil_iff,p8];omega)) c hc
    rw[← Sr,Nf] at lL
    clear Sr hx hy
    refine .skip (.seq (.block (.seq ?_)))
    refine .drawn (ms:=[0,0,3,7,0,0,32,112,240,511]) (W:=[]) (items:=GJ) rfl af af af ?_
    iterate 10 refine .rx ?_
    refine .done ?_
    refine .cs ?_ ?_<;>intro o9
    ·try simp at o9
     have cC:¬y=x:=of_decide_eq_false (by rw[kX];first|exact o9|simpa using o9)
     rw[if_neg cC] at rm
     have Ng:tm zs (M+1)=C++y::zs.drop (c+1):=by unfold tm;rw[rm,List.length_append,hc,List.append_assoc];rfl
     have js:(dP (zs.take (M+1))).length=c+1:=by rw[rm,List.length_append,hc];rfl
     rw[← Ng] at lL
     refine .sr ?_
     refine .rn ?_
     refine .rn ?_
     refine⟨q+1,⟨by omega,by omega,by rw[show K+(q+1)=M+1 by omega,js];omega⟩,by omega,?_⟩
     rw[show K+(q+1)=M+1 by omega,js]
     exact bx
    try simp at o9
    have cC:y=x:=of_decide_eq_true (by rw[kX];first|exact o9|simpa using o9)
    rw[if_pos cC] at rm
    have Ng:tm zs (M+1)=tm zs M:=by rw[← Nf];unfold tm;rw[rm,hc]
    have js:(dP (zs.take (M+1))).length=c:=by rw[rm,hc]
    refine .skip (.rn ?_)
    refine⟨q+1,⟨by omega,by omega,by rw[show K+(q+1)=M+1 by omega,js];omega⟩,by omega,?_⟩
    rw[show K+(q+1)=M+1 by omega,js,Ng]
    exact bx
   try simp at eX
   have Cj:M=n:=by omega
   have Ss:dP zs=C:=by rw[← hC,Cj,← p8,List.take_length]
   have hft:=@z6r C (zs.drop c) c hc
   rw[Nf] at hft
   obtain⟨r,hr⟩:∃r,n - c=r+1:=⟨n - c - 1,by omega⟩
   have d7:c*5+(r+1)*5≤n*5:=by omega
   have d8:¬n=c:=by omega
   have d9:c≤n:=by omega
   have c0:0<c:=by
    rw[← hc,← Ss]
    cases zs with
    |nil=>simp at p8;omega
    |cons a r=>unfold dP;simp
   have d10:¬c=0:=by omega
   have d11:¬0=c:=by omega
   clear Cj
   refine .exit (.sr ?_)
   refine .sr ?_
   refine .ret ?_
   refine⟨_,_,gj,(by exact Sj rfl hc),?_⟩
   rw[Ss]
  try simp at fN
  have I6:¬y=x:=of_decide_eq_false (kX.trans fN)
  rw[hK] at Cy hy
  refine .skip (.rn ?_)
  refine⟨K+1,⟨by omega,by omega,?_⟩,by omega,bx⟩
  rw[show k1+2=K+1 by omega,if_neg I6,zn] at Cy
  rw[Cy]
  rw[List.take_succ_eq_append_getElem (by omega)]
  congr 2
  exact(List.getElem?_eq_some_iff.1 hy).2.symm
 try simp at pW
 have rO:k=n:=by omega
 rw[rO,← p8,List.take_length] at zn
 refine .exit (.sr ?_)
 refine .ret ?_
 refine⟨_,_,gj,(by exact Sk rfl p8),?_⟩
 rw[zn]
theorem St:wZ prog 190=some (48,4,5):=by decide +kernel
attribute [local simp] cQ bQ jf St sR pQ gz fG
def sV (s:ai):List Value:=[.int .i64 s.k,.int .i64 s.a,.int .i64 s.i,.int .i64 s.l,.int .i64 s.w]
def zq (ks:List ai):List (PV×PV):=ks.map fun s=>(encS s,.bool true)
def rp (ks:List ai)(s:ai):List ai:=if s∈ks then ks else ks++[s]
def xM (b:List ai)(k:Nat):List ai:=((b.take k).map z0).foldl rp []
theorem Su (x y:ai):gD (sV x) (sV y)=some (decide (x=y)):=by
 simp only[sV,gD,decide_true,aJ,Bool.and_true]
 refine congrArg some ?_
 rw[Bool.eq_iff_iff]
 simp only[bR,decide_eq_true_eq]
 constructor
 ·rintro⟨h1,h2,h3,h4,h5⟩;exact ai.ext' h1 h2 h3 h4 h5
 rintro rfl;exact⟨rfl,rfl,rfl,rfl,rfl⟩
theorem Nh (x:ai):∀ks:List ai,kq (sV x) (zq ks)=some (if x∈ks then some (.bool true) else none)
 |[]=>rfl
 |y::r=>by
  have hc:=Sv (l:=sV x) (m:=sV y) (ds:=[.int .i64 y.k,.int .i64 y.a,.int .i64 y.i,.int .i64 y.l,.int .i64 y.w]) (v:=.bool true) rfl (Su x y) (Nh x r)
  refine Eq.trans hc ?_
  by_cases h:x=y
  ·subst h;simp
  rw[decide_eq_false h,bl]
  simp[h]
theorem z9v (x y:ai):nR (sV x) (encS y)=decide (x=y):=by
 have h:=Su x y
 unfold sV at h ⊢
 simp only[nR,encS,gz,Option.map_some,h]
theorem z3n (x:ai)(ks:List ai):o7 [.int .i64 x.k,.int .i64 x.a,.int .i64 x.i,.int .i64 x.l,.int .i64 x.w] [.int .i64 x.k,.int .i64 x.a,.int .i64 x.i,.int .i64 x.l,.int .i64 x.w] (.bool true) (zq ks)=some (zq (rp ks x)):=by
 have hf:=Nh x ks
 unfold sV at hf
 unfold o7 rp
 rw[hf]
 by_cases h:x∈ks
 ·rw[if_pos h,if_pos h]
  refine congrArg some ?_
  unfold zq
  rw[List.map_map]
  refine List.map_congr_left fun p _=>?_
  have hq:=z9v x p
  unfold sV at hq
  simp only[Function.comp,D7,hq]
  by_cases hp:x=p
  ·subst hp;simp[encS]
  rw[decide_eq_false hp,bl]
 rw[if_neg h,if_neg h]
 refine congrArg some ?_
 unfold zq
 rw[List.map_append];rfl
theorem zzi {ks:List ai}{s x:ai}:x∈rp ks s↔x∈ks∨x=s:=by
 unfold rp
 by_cases h:s∈ks
 ·rw[if_pos h]
  exact⟨.inl,fun hh=>hh.elim id fun e=>e▸h⟩
 rw[if_neg h,List.mem_append,List.mem_singleton]
theorem Sw {x:ai}:∀ {l ks:List ai},x∈l.foldl rp ks↔x∈ks∨x∈l
 |[],ks=>by simp
 |a::r,ks=>by
  rw[List.foldl_cons,Sw,zzi,List.mem_cons,or_assoc]
theorem z6q {b:List ai}{x:ai}:x∈xM b b.length↔x∈b.map z0:=by
 unfold xM
 rw[List.take_length,Sw]
 simp
theorem zzt {b:List ai}{k:Nat}{s:ai}(h:b[k]?=some s):xM b (k+1)=rp (xM b k) (z0 s):=by
 unfold xM
 rw[List.take_add_one,h,Option.toList_some,List.map_append,List.foldl_append];rfl
def uA (a H:List ai)(k:Nat):List ai:=((a.take k).map z0).filter fun s=>decide (s∈H)
theorem zze {a H:List ai}{k:Nat}{s:ai}(h:a[k]?=some s):uA a H (k+1)=uA a H k++if z0 s∈H then [z0 s] else []:=by
 unfold uA
 rw[List.take_add_one,h,Option.toList_some,List.map_append,List.filter_append]
 refine congrArg _ ?_
 show List.filter _ [z0 s]=_
 by_cases hh:z0 s∈H
 ·rw[if_pos hh,List.filter_cons_of_pos (by rw[decide_eq_true hh])];rfl
 rw[if_neg hh,List.filter_cons_of_neg (by rw[decide_eq_false hh];decide)];rfl
theorem Sx (a H:List ai)(k:Nat):(uA a H k).length≤k:=by
 unfold uA
 have:=List.length_filter_le (fun s=>decide (s∈H)) ((a.take k).map z0)
 rw[List.length_map,List.length_take] at this
 omega
theorem z5l (a b:List ai):uA a (xM b b.length) a.length=zm a b:=by
 unfold uA zm
 rw[List.take_length]
 exact List.filter_congr fun s _=>decide_eq_decide.2 z6q
theorem xa8 (x:ai)(ks:List ai)(vh:ah)(h:bh 0 vh.be=some (.map (zq ks))):rY prog vh 190 (.aY 0) [.int .i64 x.k,.int .i64 x.a,.int .i64 x.i,.int .i64 x.l,.int .i64 x.w] false=some (.bool (decide (x∈ks))):=by
 have hf:=Nh x ks
 unfold sV at hf
 unfold rY
 rw[St]
 by_cases hx:x∈ks
 ·rw[if_pos hx] at hf
  simp[pQ,gz,fG,h,hf,hx]
 rw[if_neg hx] at hf
 simp[pQ,gz,fG,h,hf,hx]
section
variable [bE]
theorem xcc  : aM prog 119 [.vec []] fun r=>r=.vec []:=by
 refine .bV func119 rfl rfl ?_
 refine .sr ?_
 refine .seq (.sr ?_)
 refine .cs ?_ ?_<;>intro c8
 ·try simp at c8
  refine .sr ?_
  refine .ret (aH ?_)
  exact zk
 try simp at c8
theorem xcl {vh:ah}{n:Nat}{S:List ai}(hg:vh.get 1=some (.grow 5 (S.map encS)))(hn:S.length=n)(hl:n≤1000):cR prog 119 [.grow 1 n true] vh fun v ak=>v=.vec ((dP S).map encS)∧ak=vh.drop 1:=by
 by_cases h0:S=[]
 ·subst h0
  have BX:n=0:=hn.symm
  subst BX
  exact(xcc.FJ (vh:=vh) (args:=[.grow 1 0 true]) (by have h1:bh 1 vh.be=some (.grow 5 []):=hg;simp[h1])).mono fun v ak hh=>⟨hh.2,hh.1⟩
 have sv:0<n:=by rw[← hn];exact List.length_pos_iff.2 h0
 refine(cR.Ni (x:=.grow 5 (S.map encS)) (x0:=.arr true 5 (fl S)) hg ?_ ?_ ?_ (hn▸Nd S (by omega) (by omega))).mono fun v ak hh=>⟨hh.2,hh.1⟩
 ·cases S with
  |nil=>exact absurd rfl h0
  |cons a r=>rfl
 ·cases S with
  |nil=>exact absurd rfl h0
  |cons a r=>exact⟨rfl,⟨_,_,rfl⟩,rfl⟩
 exact aA.cons (Alt.r7 1 0 n true 5 (S.map encS) (by decide) rfl hg (by rw[List.length_map];exact hn) sv) aA.nil
theorem Nj (a b:List ai)(ha:a.length<4611686018427387904)(hb:b.length<4611686018427387904):aM prog 57 [.vec (a.map encS),.vec (b.map encS)] fun r=>et r (.bp [.vec ((if a.length≤100∧b.length≤100 then nQ a b else []).map encS),.int .i64 (if a.length≤100∧b.length≤100 then 0 else 2)]):=by
 have hE:∀s:ai,encS s=.agg [.int .i64 s.k,.int .i64 s.a,.int .i64 s.i,.int .i64 s.l,.int .i64 s.w]:=fun _=>rfl
 obtain⟨y1,Az⟩:∃y,decide (100<(a.length:Int))=y:=⟨_,rfl⟩
 have tn:decide (100<a.length)=y1:=by rw[← Az];exact decide_eq_decide.2 (by omega)
 obtain⟨y2,AF⟩:∃y,decide (100<(b.length:Int))=y:=⟨_,rfl⟩
 have tq:decide (100<b.length)=y2:=by rw[← AF];exact decide_eq_decide.2 (by omega)
 have lW:zq []=[]:=rfl
 have hH0:xM b 0=[]:=rfl
 have hO0:∀H,uA a H 0=[]:=fun _=>rfl
 refine .bV func57 rfl rfl ?_
 refine .sr ?_
 refine .seq (.seq (.aD lF rfl af (.rn dU _ ?_)))
 refine .split (t:=15) rfl (fun cq=>?_) (fun cq=>?_)
 ·try subst cq
  try simp at cq
  have fL:¬(a.length≤100∧b.length≤100):=fun h=>by have:=of_decide_eq_true tn;omega
  refine .rn [4,5,6,7] [] ?_
  refine .done (.eK rfl (.sr ?_))
  refine .ret (aH ?_)
  rw[if_neg fL,if_neg fL];exact BT (.cons .dJ (.cons (.same _ rfl) .nil))
 try subst cq
 try simp at cq
 refine .rn [4,5,6,7] [] ?_
 refine .done ?_
 refine .cs ?_ ?_<;>intro jJ
 ·try simp at jJ
  have fL:¬(a.length≤100∧b.length≤100):=fun h=>by have:=of_decide_eq_true (tq.trans jJ);omega
  refine .sr ?_
  refine .ret (aH ?_)
  rw[if_neg fL,if_neg fL];exact BT (.cons .dJ (.cons (.same _ rfl) .nil))
 try simp at jJ
 have tf:a.length≤100:=by have:=of_decide_eq_false tn;omega
 have gG:b.length≤100:=by have:=of_decide_eq_false (tq.trans jJ);omega
 clear Az AF tn tq
 refine .skip (.sr ?_)
 refine .seq (.sr ?_)
 refine .block ?_
 refine .dF (fun k:Nat=>([(0,.vec (a.map encS)),(6,.aY 0),(21,.vec (b.map encS)),(22,.int .i64 b.length),(23,.int .i64 k)],⟨1,[(0,.map (zq (xM b k)))]⟩)) (fun k=>k≤b.length) (fun k=>b.length - k) 0 (Nat.zero_le _) bx ?_
 rintro k hk
 simp only at hk ⊢
 refine .sr ?_
 refine .seq ?_
 refine .cs ?_ ?_<;>intro lD
 ·try simp at lD
  have fD:k<b.length:=by omega
  obtain⟨s,hs⟩:∃s,b[k]?=some s:=⟨_,List.getElem?_eq_getElem fD⟩
  obtain⟨rK,ft⟩:=List.getElem?_eq_some_iff.1 hs
  have hS:=zzt hs
  have Nk:=z3n (z0 s) (xM b k)
  rw[← hS] at Nk
  unfold z0 at Nk
  simp only at Nk
  have yF:=fy k
  refine .skip (.seq (.block (.sr ?_)))
  refine .sr ?_
  refine .rn ?_
  refine .rn ?_
  refine⟨k+1,bt,bt,bx⟩
 try simp at lD
 obtain rfl:k=b.length:=by omega
 have bg:=z5l a b
 obtain⟨H,hH⟩:∃H,xM b b.length=H:=⟨_,rfl⟩
 rw[hH] at bg ⊢
 refine .exit (.sr ?_)
 refine .seq (.sr ?_)
 refine .block ?_
 refine .dF (fun k:Nat=>([(6,.aY 0),(9,.grow 1 (uA a H k).length true),(31,.vec (a.map encS)),(32,.int .i64 a.length),(33,.int .i64 k)],⟨2,[(1,.grow 5 ((uA a H k).map encS)),(0,.map (zq H))]⟩)) (fun k=>k≤a.length) (fun k=>a.length - k) 0 (Nat.zero_le _) bx ?_
 rintro k hk
 simp only at hk ⊢
 refine .sr ?_
 refine .seq ?_
 refine .cs ?_ ?_<;>intro na
 ·try simp at na
  have fD:k<a.length:=by omega
  obtain⟨s,hs⟩:∃s,a[k]?=some s:=⟨_,List.getElem?_eq_getElem fD⟩
  obtain⟨rK,ft⟩:=List.getElem?_eq_some_iff.1 hs
  have hS:=zze (H:=H) hs
  have BB:=xa8 (z0 s) H
  have hzE:encS (z0 s)=.agg [.int .i64 s.k,.int .i64 s.a,.int .i64 0,.int .i64 s.l,.int .i64 s.w]:=rfl
  obtain⟨mb,Nl⟩:∃b,decide (z0 s∈H)=b:=⟨_,rfl⟩
  rw[Nl] at BB
  unfold z0 at BB
  simp only at BB
  have yF:=fy k
  have Ds:=Sx a H k
  have Zl:(uA a H k).length+1≤4294967296:=by omega
  have Zm:(uA a H k).length≤4294967295:=by omega
  refine .skip (.seq (.block (.sr ?_)))
  refine .sr ?_
  refine .sr ?_
  refine .cs ?_ ?_<;>intro ka
  ·try simp at ka
   rw[if_pos (of_decide_eq_true (Nl.trans ka))] at hS
   refine .rn ?_
   refine .rn ?_
   refine⟨k+1,bt,bt,by rw[hS,List.map_append,List.map_cons,List.map_nil,hzE];exact(.mk [] [(1,4)] gK il rfl rfl rfl)⟩
  try simp at ka
  rw[if_neg (of_decide_eq_false (Nl.trans ka)),List.append_nil] at hS
  refine .skip (.rn ?_)
  refine⟨k+1,bt,bt,by rw[hS];exact bx⟩
 try simp at na
 obtain rfl:k=a.length:=by omega
 rw[bg]
 have fa:(zm a b).length≤100:=by
  have:=Sx a H a.length
  rw[bg] at this;omega
 obtain⟨F,hF⟩:∃F,zm a b=F:=⟨_,rfl⟩
 have Nn:nQ a b=dP (F.mergeSort kW):=by unfold nQ;rw[hF]
 rw[hF] at fa ⊢
 have C8:(F.mergeSort kW).length=F.length:=List.length_mergeSort ..
 refine .exit (.seq (.aD [0,1] rfl af (.rn [0] _ ?_)))
 refine .step rfl rfl (.call rfl rfl rfl call117 (by decide) (((FV (zs:=F) (i:=1) (nl:=true) (n:=F.length) (by simp[*]) rfl)).mono ?_))
 rintro _ _ ⟨rfl,rfl⟩
 refine .done (.seq (.aD dU rfl af ?_))
 refine .rn [0] _ ?_
 refine .step rfl rfl (.call rfl rfl rfl call119 (by decide) (((xcl (S:=F.mergeSort kW) (n:=F.length) (by simp[*]) C8 (by omega))).mono ?_))
 rintro _ _ ⟨rfl,rfl⟩
 refine .rn [2,3] [] ?_
 refine .done (.ret (aH ?_))
 rw[if_pos ⟨tf,gG⟩,if_pos ⟨tf,gG⟩,Nn];exact q7 (by simp[PV.aB,PV.aG])
end
structure ShF (a X O:List ai):Prop where
  Sy:∀x∈X,x.i=0∧x∈O
  ne:∀(k:Nat) (x y:ai),X[k]?=some x→X[k+1]?=some y→y≠x
  own:∀x∈a,z0 x∈O
variable [bE] in
theorem p13 (hN:Names)(a b:List ai)(ha:a.length<4611686018427387904)(hb:b.length<4611686018427387904):aM prog 13 [.vec (a.map encS),.vec (b.map encS)] fun r=>r=.bool true:=by
 have No:=p20 hN
 have hE:∀s:ai,encS s=.agg [.int .i64 s.k,.int .i64 s.a,.int .i64 s.i,.int .i64 s.l,.int .i64 s.w]:=fun _=>rfl
 have qx:=aM.soft (Nj a b ha hb) (by simp[PV.aB,PV.aG])
 have qy:=aM.soft (Nj b a hb ha) (by simp[PV.aB,PV.aG])
 have qo:=aM.soft (Nj a a ha ha) (by simp[PV.aB,PV.aG])
 obtain⟨y1,Az⟩:∃y,decide (100<(a.length:Int))=y:=⟨_,rfl⟩
 have tn:decide (100<a.length)=y1:=by rw[← Az];exact decide_eq_decide.2 (by omega)
 obtain⟨y2,AF⟩:∃y,decide (100<(b.length:Int))=y:=⟨_,rfl⟩
 have tq:decide (100<b.length)=y2:=by rw[← AF];exact decide_eq_decide.2 (by omega)
 refine .bV func13 rfl rfl ?_
 refine .sr ?_
 refine .seq (.seq (.aD lF rfl af (.rn dU _ ?_)))
 refine .split (t:=17) rfl (fun gW=>?_) (fun gW=>?_)
 ·try subst gW
  try simp at gW
  refine .rn [4,5,6,7] [] ?_
  refine .done (.eK rfl (.seq ?_))
  refine .aD [0,1] rfl af ?_
  refine .pc rfl rfl rfl rfl rfl call20 (No) ?_
  refine .rn [1] [] ?_
  refine .done (.ret (aH ?_))
  exact zk
 try subst gW
 try simp at gW
 refine .rn [4,5,6,7] [] ?_
 refine .done ?_
 refine .cs ?_ ?_<;>intro dG
 ·try simp at dG
  refine .seq (.aD [0,1] rfl af ?_)
  refine .pc rfl rfl rfl rfl rfl call20 (No) ?_
  refine .rn [1] [] ?_
  refine .done (.ret (aH ?_))
  exact zk
 try simp at dG
 have tf:a.length≤100:=by have:=of_decide_eq_false tn;omega
 have gG:b.length≤100:=by have:=of_decide_eq_false (tq.trans dG);omega
 clear Az AF tn tq
 rw[if_pos ⟨tf,gG⟩,if_pos ⟨tf,gG⟩] at qx
 rw[if_pos ⟨gG,tf⟩,if_pos ⟨gG,tf⟩,← z1j a b] at qy
 rw[if_pos ⟨tf,tf⟩,if_pos ⟨tf,tf⟩] at qo
 have hF:ShF a (nQ a b) (nQ a a):=⟨fun x=>xag,fun k x y=>xaa,fun x=>z4l⟩
 have hXl:=Si a b
 have hOl:=Si a a
 obtain⟨X,hX⟩:∃X,nQ a b=X:=⟨_,rfl⟩
 obtain⟨O,hO⟩:∃X,nQ a a=X:=⟨_,rfl⟩
 rw[hX] at qx qy hXl
 rw[hO] at qo hOl
 rw[hX,hO] at hF
 have uB:=fun s=>p39 O s (by omega)
 clear hX hO
 refine .skip (.seq (.aD lF rfl af (.rn [0,1] _ ?_)))
 refine .pc rfl rfl rfl rfl rfl call57 (qx) ?_
 refine .rn [3,4,5,6,7] [] ?_
 refine .done (.seq (.aD lF rfl af ?_))
 refine .rn [0,1] _ ?_
 refine .pc rfl rfl rfl rfl rfl call57 (qy) ?_
 refine .rn [3,4,5,6,7] [] ?_
 refine .done (.seq (.aD lF rfl af ?_))
 refine .rn [0,1] _ ?_
 refine .pc rfl rfl rfl rfl rfl call57 (qo) ?_
 refine .rn [3,4,5,6,7] [] ?_
 refine .done (.seq (.seq (.aD Gt rfl af ?_)))
 refine .rn [0,1,2] _ ?_
 refine .split (t:=43) rfl (fun xL=>?_) (fun xL=>?_)
 ·try subst xL
  try simp at xL
 try subst xL
 try simp at xL
 refine .rn [3,4,5,6] _ ?_
 refine .split (t:=47) rfl (fun tX=>?_) (fun tX=>?_)
 ·try subst tX
  try simp at tX
 try subst tX
 try simp at tX
 refine .rn [7,8,9,10] _ ?_
 refine .split (t:=51) rfl (fun GK=>?_) (fun GK=>?_)
 ·try subst GK
  try simp at GK
 try subst GK
 try simp at GK
 refine .rn [11,12,13,14,15,16] [] ?_
 refine .done ?_
 refine .cs ?_ ?_<;>intro DQ
 ·try simp at DQ
 try simp at DQ
 refine .skip (.seq (.sr ?_))
 refine .block ?_
 refine .dF (fun i:Nat=>([(0,.vec (a.map encS)),(5,.vec (X.map encS)),(7,.vec (X.map encS)),(9,.vec (O.map encS)),(11,.int .i64 i)],⟨0,[]⟩)) (fun i=>i≤X.length) (fun i=>X.length - i) 0 (Nat.zero_le _) bx ?_
 rintro i hi
 simp only at hi ⊢
 refine .seq (.sr ?_)
 refine .cs ?_ ?_<;>intro rU
 ·try simp at rU
  have cT:i<X.length:=by omega
  obtain⟨s,hs⟩:∃s,X[i]?=some s:=⟨_,List.getElem?_eq_getElem cT⟩
  have l6:=(hF.Sy s (List.mem_of_getElem? hs)).1
  have GL:decide (s∈O)=true:=decide_eq_true (hF.Sy s (List.mem_of_getElem? hs)).2
  have uB:=uB s
  rw[GL,hE] at uB
  have Sz:∀p,0<i→X[i - 1]?=some p→decide (s=p)=false:=fun p h0 hp=>by
   refine decide_eq_false (hF.ne (i - 1) p s hp ?_)
   rw[show i - 1+1=i by omega];exact hs
  obtain⟨sk,sa,si,sl,sw⟩:=s
  simp only at l6 uB
  subst l6
  obtain⟨rK,ft⟩:=List.getElem?_eq_some_iff.1 hs
  obtain⟨i0,Cf⟩:∃b,decide (0<i)=b:=⟨_,rfl⟩
  have yag:decide (0<(i:Int))=i0:=by rw[← Cf];exact decide_eq_decide.2 (by omega)
  have yF:=fy i
  obtain⟨j,hj⟩:∃j,i - 1=j:=⟨_,rfl⟩
  obtain⟨p,hp⟩:∃p,X.getD j ⟨0,0,0,0,0⟩=p:=⟨_,rfl⟩
  have pR:i0=false∨(j<X.length∧X[j]?=some p):=by
   cases h:i0 with
   |false=>exact .inl rfl
   |true=>
    have dE:j<X.length:=by omega
    refine .inr ⟨dE,?_⟩
    rw[List.getD_eq_getElem?_getD,List.getElem?_eq_getElem dE,Option.getD_some] at hp
    rw[List.getElem?_eq_getElem dE,hp]
  obtain⟨eb,kX⟩:∃eb,decide ((⟨sk,sa,0,sl,sw⟩:ai)=p)=eb:=⟨_,rfl⟩
  have vF:i0=false∨eb=false:=by
   cases h:i0 with
   |false=>exact .inl rfl
   |true=>
    refine .inr ?_
    rw[← kX]
    refine Sz p (of_decide_eq_true (Cf.trans h)) ?_
    rw[hj];exact(pR.resolve_left (by rw[h];decide)).2
  have SA:=@Nc ⟨sk,sa,0,sl,sw⟩ p
  rw[kX] at SA
  simp only at SA
  have wm:i0=false∨IntKind.i64.wrap ((i:Int) - 1)=(j:Int):=by
   cases h:i0 with
   |false=>exact .inl rfl
   |true=>
    have h0:=of_decide_eq_true (Cf.trans h)
    exact .inr (by rw[wrap64 (by omega) (by omega)];omega)
  clear GL hs Sz hp kX hj
  refine .skip (.seq (.block (.seq ?_)))
  refine .drawn (ms:=[0,0,3,7,0,0,48,112,255,511,1023,1023,4095,8191,16383,32767,65535,131071,262143,524287,1048575,2097151,2097151,8388607,16777215,2097151,2097151,69206015,236978175,505413631,1073741823,2147483647,4294967295,8589934591,17179869183,17179869183,17179869183,120259084287,257698037759,549755813887,1099511627775,2199023255551]) (W:=[39]) (items:=[.op 0,.op 1,.op 2,.op 3,.op 4,.op 5,.op 6,.op 7,.op 8,.op 9,.op 10,.op 11,.op 12,.op 13,.op 14,.op 15,.op 16,.op 17,.op 18,.op 19,.op 20,.op 21,.op 22,.op 23,.op 24,.op 25,.op 26,.op 27,.op 28,.op 29,.op 30,.op 31,.op 32,.op 33,.op 34,.op 35,.op 36,.op 37,.op 38,.op 39,.op 40,.op 41]) rfl af af af ?_
  iterate 10 refine .rx ?_
  refine .split (t:=73) rfl (fun GM=>?_) (fun GM=>?_)
  ·try subst GM
   try simp at GM
  try subst GM
  try simp at GM
  iterate 8 refine .rx ?_
  refine .split (t:=81) rfl (fun GN=>?_) (fun GN=>?_)
  ·try subst GN
   try simp at GN
  try subst GN
  try simp at GN
  iterate 3 refine .rx ?_
  refine .split (t:=84) rfl (fun xq=>?_) (fun xq=>?_)
  ·try subst xq
   try simp at xq
   have h1:=pR.resolve_left (by decide)
   have h2:=h1.1
   have h3:=(List.getElem?_eq_some_iff.1 h1.2).2
   have h4:=vF.resolve_left (by decide)
   have h5:=wm.resolve_left (by decide)
   clear pR vF wm
   iterate 13 refine .rx ?_
   refine .split (t:=97) rfl (fun kp=>?_) (fun kp=>?_)
   ·try subst kp
    try simp at kp
   try subst kp
   try simp at kp
   iterate 5 refine .rx ?_
   refine .wp rfl rfl rfl rfl rfl call39 (uB) ?_
   iterate 2 refine .rx ?_
   refine .done ?_
   refine .cs ?_ ?_<;>intro lC
   ·try simp at lC
   try simp at lC
   refine .skip (.rn ?_)
   refine⟨i+1,bt,bt,bx⟩
  try subst xq
  try simp at xq
  clear pR vF wm
  iterate 10 refine .ux ?_
  iterate 8 refine .rx ?_
  refine .wp rfl rfl rfl rfl rfl call39 (uB) ?_
  iterate 2 refine .rx ?_
  refine .done ?_
  refine .cs ?_ ?_<;>intro lC
  ·try simp at lC
  try simp at lC
  refine .skip (.rn ?_)
  refine⟨i+1,bt,bt,bx⟩
 try simp at rU
 refine .exit (.seq (.sr ?_))
 refine .block ?_
 refine .dF (fun i:Nat=>([(0,.vec (a.map encS)),(9,.vec (O.map encS)),(12,.int .i64 i)],⟨0,[]⟩)) (fun i=>i≤a.length) (fun i=>a.length - i) 0 (Nat.zero_le _) bx ?_
 rintro i hi
 simp only at hi ⊢
 refine .seq (.sr ?_)
 refine .cs ?_ ?_<;>intro qK
 ·try simp at qK
  have cT:i<a.length:=by omega
  obtain⟨s,hs⟩:∃s,a[i]?=some s:=⟨_,List.getElem?_eq_getElem cT⟩
  have GL:decide (z0 s∈O)=true:=decide_eq_true (hF.own s (List.mem_of_getElem? hs))
  have uB:=uB (z0 s)
  rw[GL,hE] at uB
  unfold z0 at uB
  simp only at uB
  obtain⟨rK,ft⟩:=List.getElem?_eq_some_iff.1 hs
  have yF:=fy i
  clear GL hs
  refine .skip (.seq (.block (.sr ?_)))
  refine .sr ?_
  refine .seq (.aD dU rfl af (.rn [0,1] _ ?_))
  refine .pc rfl rfl rfl rfl rfl call39 (uB) ?_
  refine .rn [3] [] ?_
  refine .done ?_
  refine .cs ?_ ?_<;>intro GO
  ·try simp at GO
  try simp at GO
  refine .skip (.rn ?_)
  refine⟨i+1,bt,bt,bx⟩
 try simp at qK
 refine .exit (.seq (.aD [0,1] rfl af ?_))
 refine .pc rfl rfl rfl rfl rfl call20 (No) ?_
 refine .rn [1] [] ?_
 refine .done (.ret (aH ?_))
 exact zk
end Go.Am.Sl
end
