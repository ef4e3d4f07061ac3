/-
 What is used in the proof of a statement (part SlI); no condition.
-/
import Derived.Test.YthnmgbgmlhackaaGreatDoorSlF
import Derived.Test.YthnmgbgmlhackaaGreatDoorSlH
import Derived.Test.YthnmgbgmlhackaaGreatDoorSlZ
import Derived.Test.YthnmgbgmlhackaaGreatDoorVm2
import Derived.Test.YthnmgbgmlhackaaGreatDoorSlT
set_option linter.all false
set_option maxHeartbeats 40000000
set_option maxRecDepth 100000
section
namespace Go.Am.Sl
def c0:ao:=oH [5,7,8,6,6]
theorem DZ:bf c0=0:=by decide +kernel
theorem R8:rI c0=8:=by decide +kernel
theorem xa8:vI c0=pZ:=by decide +kernel
theorem z9i:vG c0=1:=by decide +kernel
theorem z4t:um c0 (F3 c0)=pZ:=by decide +kernel
theorem z8y:ur c0 c0.t.length=[0,1,6]:=by decide +kernel
theorem z8w:uq c0 c0.t.length=[0,1,6]:=by decide +kernel
theorem z8a:s6 c0 4=((2,2),0):=by decide +kernel
theorem xc8:Ci c0 ⟨2,2,2,0,0⟩=some 9:=by decide +kernel
theorem xcr:uj c0 ⟨3,2,2,3,0⟩=15:=by decide +kernel
theorem xbi:aZ (oH [5,7,3,11,9,7,4,6]) 7 8=2:=by decide +kernel
theorem xcg:aZ (oH [5,7,3,9,7,7,4,6]) 7 8=3:=by decide +kernel
theorem xaa:xO c0 pZ 0=0:=by decide +kernel
def c1:ao:={ c0 with t:=[3,4],c:=[9],g:=[] }
theorem R9:bf c1=0:=by decide +kernel
theorem z4c:vG c1=3:=by decide +kernel
theorem z5d:(um c1 (fun _=>true)).length=7:=by decide +kernel
def AL:List (List Int):=(List.range 8).map (pz c0)
theorem xbx:DY c0 pZ 8 AL=0:=by decide +kernel
theorem z3v:bf (oH [5,7,3,11,9,7,4,6])=0:=by decide +kernel
theorem z6h:bf (oH [5,7,3,9,7,7,4,6])=0:=by decide +kernel
theorem z8t:jR c0 8=AL.map ints:=by unfold jR AL;rw[List.map_map];rfl
open Go Go.Am Go.Proofs Tryz
attribute [local simp] fZ jh tW eo jM pg ai.back dE ji nr bm Nat.testBit_eq_decide_div_mod_eq cN jL o9 vO sy kh sA jY dh qq qo ss ki su rp oz tU rm sv sg sd sh se sf sj sn pO gz lq fY sB qt rq sC sD pN tR tS kg pa iz gO iA nc jF qZ qe qf kL rY bp rl gN bZ cm nR ai.get ai.alloc ai.put ai.drop ai.empty bs dN jz kx gA cG chunk List.range List.range.loop ns tX oA bK cA PV.aH PV.aJ PV.dU PV.gM kQ kj ru PV.one PV.ids PV.di ia beq_eq vc xq
theorem g44:(prog.stoodInHeld 44||prog.eqGuardType prog.depth 44)=false:=by decide +kernel
theorem n44:(match prog.underlying 44 with|some (.struct fs)=>fs.toList.map (fun f=>(f.name == "_", cW prog f.type,f.type,f.offset))|_=>[])=[(false,some 1,3,0),(false,some 1,3,1)]:=by decide +kernel
theorem M6 (a0 a1 b0 b1:Int):dC prog 44 (.agg #[.int .i64 a0,.int .i64 a1]) (.agg #[.int .i64 b0,.int .i64 b1])=some (a0==b0&&a1==b1):=by
 have hn:=n44
 have hg:=g44
 unfold dC
 simp only
 cases hu:prog.underlying 44 with
 |none=>rw[hu] at hn;simp at hn
 |some td=>
  cases td with
  |struct fs=>
   rw[hu] at hn
   simp only at hn ⊢
   rw[hg]
   simp only[bq]
   generalize fs.toList=l at hn
   rcases l with _|⟨f1,_|⟨f2,_|⟨f3,r⟩⟩⟩
   ·simp at hn
   ·simp at hn
   ·simp only[List.map_cons,List.map_nil,List.cons.injEq,bO,and_true] at hn
    obtain⟨⟨GG,GH,GI,GJ⟩,⟨GK,GL,GM,GN⟩⟩:=hn
    simp only[tC,GG,GH,GI,GJ,GK,GL,GM,GN,bq]
    have ha:bB prog 3=some false:=by decide +kernel
    have BB:prog.underlying 3=some (.int .i64):=by rfl
    simp[apart,ha,A3,BB]
    cases a0==b0<;>cases a1==b1<;>rfl
   simp at hn
  |_=>rw[hu] at hn;simp at hn
attribute [local simp] cQ bQ km tZ M6 y1 ue uf sU jk gr
attribute [local simp ↓ high] xu vi
theorem vZ (l:List Int)(h:l.length<100):BC (oH l):=⟨by show 1<_;decide,by show 7<_;decide,by show l.length<_;omega,by show 1<_;decide,fun x hx=>by simp only[oH,List.mem_singleton] at hx;subst hx;show 1<_;decide⟩
theorem Sa:BC c1:=⟨by show 1<_;decide,by show 2<_;decide,by show 1<_;decide,by show 0<_;decide,fun x hx=>by cases hx⟩
theorem z5w:II c0 pZ 0=[⟨1,5,5,0,8⟩,⟨4,7,7,1,0⟩]:=by decide +kernel
theorem z5u:IH c0 pZ 0=oH [5,7,3,9,7,8,6,6]:=by decide +kernel
theorem zy:aD c0=.agg [.int .i64 4,.int .i64 3,.int .i64 3,.int .i64 2,.int .i64 5,.vec [bu ⟨4,8,2⟩],ints [5,7,3,9,7,4,6],.vec [cn ⟨3,[11]⟩],ints [5,7,8,6,6]]:=rfl
theorem Sb:aD c1=.agg [.int .i64 4,.int .i64 3,.int .i64 3,.int .i64 2,.int .i64 5,.vec [bu ⟨4,8,2⟩],ints [3,4],.vec [],ints [9]]:=rfl
theorem hCm:aD (oH [5,7,3,9,7,8,6,6])=.agg [.int .i64 4,.int .i64 3,.int .i64 3,.int .i64 2,.int .i64 5,.vec [bu ⟨4,8,2⟩],ints [5,7,3,9,7,4,6],.vec [cn ⟨3,[11]⟩],ints [5,7,3,9,7,8,6,6]]:=rfl
theorem D0:pZ.map encS=[.agg [.int .i64 3,.int .i64 2,.int .i64 2,.int .i64 3,.int .i64 0],.agg [.int .i64 1,.int .i64 5,.int .i64 2,.int .i64 0,.int .i64 8],.agg [.int .i64 4,.int .i64 7,.int .i64 4,.int .i64 1,.int .i64 0]]:=rfl
theorem z5p:AL.length=8:=rfl
theorem z3o:∀r∈AL,r.length<4611686018427387904:=by
 intro r hr
 obtain⟨i,_,rfl⟩:=List.mem_map.1 hr
 unfold pz
 rw[List.length_map,List.length_range]
 show 6<_;decide
section
variable [bG]
theorem r21:aN prog 21 [.agg [.int .i64 4,.int .i64 3,.int .i64 3,.int .i64 2,.int .i64 5,.vec [bu ⟨4,8,2⟩],ints [5,7,3,9,7,4,6],.vec [cn ⟨3,[11]⟩],ints [5,7,8,6,6]]] fun r=>r=.bn [.agg [.vec [.agg [.int .i64 3,.int .i64 2,.int .i64 2,.int .i64 3,.int .i64 0],.agg [.int .i64 1,.int .i64 5,.int .i64 2,.int .i64 0,.int .i64 8],.agg [.int .i64 4,.int .i64 7,.int .i64 4,.int .i64 1,.int .i64 0]],.int .i64 8,.vec (AL.map ints)],.int .i64 0]:=by
 have h:=p21 c0 (vZ _ (by decide))
 rw[DZ,if_pos rfl,if_pos rfl,if_pos rfl,xa8,R8,zy,D0,show c0.t.length+1=8 from rfl,z8t] at h
 exact aN.soft h (by simp[PV.aH,PV.aJ])
theorem r48:aN prog 48 [.agg [.int .i64 4,.int .i64 3,.int .i64 3,.int .i64 2,.int .i64 5,.vec [bu ⟨4,8,2⟩],ints [5,7,3,9,7,4,6],.vec [cn ⟨3,[11]⟩],ints [5,7,8,6,6]]] fun r=>r=.bn [.int .i64 1,.int .i64 0]:=by
 have h:=Qv c0 (vZ _ (by decide))
 rw[DZ,if_pos rfl,z9i,zy] at h
 exact h
theorem r26:aN prog 26 [.agg [.int .i64 4,.int .i64 3,.int .i64 3,.int .i64 2,.int .i64 5,.vec [bu ⟨4,8,2⟩],ints [5,7,3,9,7,4,6],.vec [cn ⟨3,[11]⟩],ints [5,7,8,6,6]]] fun r=>r=.bn [.vec [.agg [.int .i64 3,.int .i64 2,.int .i64 2,.int .i64 3,.int .i64 0],.agg [.int .i64 1,.int .i64 5,.int .i64 2,.int .i64 0,.int .i64 8],.agg [.int .i64 4,.int .i64 7,.int .i64 4,.int .i64 1,.int .i64 0]],.int .i64 0]:=by
 have h:=Zl c0 (vZ _ (by decide))
 rw[DZ,if_pos rfl,z4t,zy,D0] at h
 exact aN.soft h (by simp[PV.aH,PV.aJ])
theorem r22:aN prog 22 [.agg [.int .i64 4,.int .i64 3,.int .i64 3,.int .i64 2,.int .i64 5,.vec [bu ⟨4,8,2⟩],ints [5,7,3,9,7,4,6],.vec [cn ⟨3,[11]⟩],ints [5,7,8,6,6]]] fun r=>r=.bn [ints [0,1,6],ints [0,1,6],.int .i64 0]:=by
 have h:=Zt c0 (vZ _ (by decide))
 rw[DZ,if_pos rfl,if_pos rfl,z8y,z8w,zy] at h
 exact aN.soft h (by simp[PV.aH,PV.aJ])
theorem r24:aN prog 24 [.agg [.int .i64 4,.int .i64 3,.int .i64 3,.int .i64 2,.int .i64 5,.vec [bu ⟨4,8,2⟩],ints [5,7,3,9,7,4,6],.vec [cn ⟨3,[11]⟩],ints [5,7,8,6,6]],.int .i64 4] fun r=>r=.bn [.agg [.int .i64 2,.int .i64 2],.int .i64 0]:=by
 have h:=YE c0 4 (vZ _ (by decide))
 rw[z8a,zy] at h
 exact h
theorem r30:aN prog 30 [.agg [.int .i64 4,.int .i64 3,.int .i64 3,.int .i64 2,.int .i64 5,.vec [bu ⟨4,8,2⟩],ints [5,7,3,9,7,4,6],.vec [cn ⟨3,[11]⟩],ints [5,7,8,6,6]],.agg [.int .i64 2,.int .i64 2,.int .i64 2,.int .i64 0,.int .i64 0]] fun r=>r=.bn [.int .i64 9,.int .i64 0]:=by
 have h:=Yw c0 ⟨2,2,2,0,0⟩ (vZ _ (by decide))
 rw[DZ,if_pos rfl,if_pos rfl,xc8,if_neg (by decide),zy] at h
 exact h
theorem r32:aN prog 32 [.agg [.int .i64 4,.int .i64 3,.int .i64 3,.int .i64 2,.int .i64 5,.vec [bu ⟨4,8,2⟩],ints [5,7,3,9,7,4,6],.vec [cn ⟨3,[11]⟩],ints [5,7,8,6,6]],.agg [.int .i64 3,.int .i64 2,.int .i64 2,.int .i64 3,.int .i64 0]] fun r=>r=.bn [.int .i64 7,.int .i64 0]:=by
 have h:=Yy c0 ⟨3,2,2,3,0⟩ (vZ _ (by decide))
 rw[DZ,if_pos rfl,if_pos rfl,xcr,if_pos (by decide),if_pos (by decide),show aZ c0 c0.t.length c0.c.length=8 from R8,zy] at h
 exact h
theorem r54:aN prog 54 [.agg [.int .i64 4,.int .i64 3,.int .i64 3,.int .i64 2,.int .i64 5,.vec [bu ⟨4,8,2⟩],ints [5,7,3,9,7,4,6],.vec [cn ⟨3,[11]⟩],ints [5,7,8,6,6]],.vec [.agg [.int .i64 3,.int .i64 2,.int .i64 2,.int .i64 3,.int .i64 0],.agg [.int .i64 1,.int .i64 5,.int .i64 2,.int .i64 0,.int .i64 8],.agg [.int .i64 4,.int .i64 7,.int .i64 4,.int .i64 1,.int .i64 0]],.int .i64 0] fun r=>r=.bn [.agg [.int .i64 4,.int .i64 3,.int .i64 3,.int .i64 2,.int .i64 5,.vec [bu ⟨4,8,2⟩],ints [5,7,3,9,7,4,6],.vec [cn ⟨3,[11]⟩],ints [5,7,3,9,7,8,6,6]],.vec [.agg [.int .i64 1,.int .i64 5,.int .i64 5,.int .i64 0,.int .i64 8],.agg [.int .i64 4,.int .i64 7,.int .i64 7,.int .i64 1,.int .i64 0]],.int .i64 0]:=by
 have h:=p54 c0 pZ 0 (vZ _ (by decide)) (by decide)
 rw[xaa,z5w,z5u,zy,D0,hCm] at h
 exact aN.soft h (by simp[PV.aH,PV.aJ,encS])
theorem r50:aN prog 50 [.agg [.int .i64 4,.int .i64 3,.int .i64 3,.int .i64 2,.int .i64 5,.vec [bu ⟨4,8,2⟩],ints [5,7,3,9,7,4,6],.vec [cn ⟨3,[11]⟩],ints [5,7,8,6,6]],.agg [.vec [.agg [.int .i64 3,.int .i64 2,.int .i64 2,.int .i64 3,.int .i64 0],.agg [.int .i64 1,.int .i64 5,.int .i64 2,.int .i64 0,.int .i64 8],.agg [.int .i64 4,.int .i64 7,.int .i64 4,.int .i64 1,.int .i64 0]],.int .i64 8,.vec (AL.map ints)]] fun r=>r=.int .i64 0:=by
 have h:=p50 c0 pZ 8 AL (vZ _ (by decide)) (by decide) (by rw[z5p];decide) z3o
 rw[xbx,zy,D0] at h
 exact h
theorem Sc:aN prog 34 [.vec [.agg [.int .i64 3,.int .i64 2,.int .i64 2,.int .i64 3,.int .i64 0],.agg [.int .i64 1,.int .i64 5,.int .i64 2,.int .i64 0,.int .i64 8],.agg [.int .i64 4,.int .i64 7,.int .i64 4,.int .i64 1,.int .i64 0]],.vec [.agg [.int .i64 3,.int .i64 2,.int .i64 2,.int .i64 3,.int .i64 0],.agg [.int .i64 1,.int .i64 5,.int .i64 2,.int .i64 0,.int .i64 8],.agg [.int .i64 4,.int .i64 7,.int .i64 4,.int .i64 1,.int .i64 0]]] fun r=>r=.bool true:=by
 have h:=RD pZ pZ (by decide) (by decide)
 rw[D0] at h
 simpa using h
theorem M7 (l:List Int)(hl:l.length<100):aN prog 37 [ints l,ints l] fun r=>r=.bool true:=by
 have h:=IZ l l (by omega) (by omega)
 simpa using h
theorem M8 (l:List Int):aN prog 74 [ints l] fun r=>r=.agg [.int .i64 4,.int .i64 3,.int .i64 3,.int .i64 2,.int .i64 5,.vec [bu ⟨4,8,2⟩],ints [5,7,3,9,7,4,6],.vec [cn ⟨3,[11]⟩],ints l]:=p74 l
theorem M9:aN prog 43 [.agg [.int .i64 4,.int .i64 3,.int .i64 3,.int .i64 2,.int .i64 5,.vec [bu ⟨4,8,2⟩],ints [5,7,3,9,7,4,6],.vec [cn ⟨3,[11]⟩],ints [5,7,3,11,9,7,4,6]]] fun r=>r=.bn [.int .i64 2,.int .i64 0]:=by
 have h:=Qt (oH [5,7,3,11,9,7,4,6]) (vZ _ (by decide))
 rw[z3v,if_pos rfl,show aZ (oH [5,7,3,11,9,7,4,6]) (oH [5,7,3,11,9,7,4,6]).t.length (oH [5,7,3,11,9,7,4,6]).c.length=2 from xbi] at h
 exact h
theorem Na:aN prog 43 [.agg [.int .i64 4,.int .i64 3,.int .i64 3,.int .i64 2,.int .i64 5,.vec [bu ⟨4,8,2⟩],ints [5,7,3,9,7,4,6],.vec [cn ⟨3,[11]⟩],ints [5,7,3,9,7,7,4,6]]] fun r=>r=.bn [.int .i64 3,.int .i64 0]:=by
 have h:=Qt (oH [5,7,3,9,7,7,4,6]) (vZ _ (by decide))
 rw[z6h,if_pos rfl,show aZ (oH [5,7,3,9,7,7,4,6]) (oH [5,7,3,9,7,7,4,6]).t.length (oH [5,7,3,9,7,7,4,6]).c.length=3 from xcg] at h
 exact h
theorem Nb:aN prog 48 [.agg [.int .i64 4,.int .i64 3,.int .i64 3,.int .i64 2,.int .i64 5,.vec [bu ⟨4,8,2⟩],ints [3,4],.vec [],ints [9]]] fun r=>r=.bn [.int .i64 3,.int .i64 0]:=by
 have h:=Qv c1 Sa
 rw[R9,if_pos rfl,z4c,Sb] at h
 exact h
theorem r28:aN prog 28 [.agg [.int .i64 4,.int .i64 3,.int .i64 3,.int .i64 2,.int .i64 5,.vec [bu ⟨4,8,2⟩],ints [3,4],.vec [],ints [9]]] fun r=>r=.bn [.vec ((um c1 (fun _=>true)).map encS),.int .i64 0]:=by
 have h:=Zm c1 Sa
 rw[R9,if_pos rfl,Sb] at h
 exact aN.soft h (by simp[PV.aH,PV.aJ])
theorem p20 (hN:Names):aN prog 20 [] fun r=>r=.bool true:=by
 have Sd:=r28
 obtain⟨l7,Nc⟩:∃l,um c1 (fun _=>true)=l:=⟨_,rfl⟩
 rw[Nc] at Sd
 have Nc:l7.length=7:=by rw[← Nc];exact z5d
 have Se:=z8f hN
 rw[D0] at Se
 refine .bP func20 rfl rfl ?_
 refine .sr ?_
 refine .seq (.au dt rfl af (.rn [0] _ ?_))
 refine .step rfl rfl (.take rfl rfl rfl call74 (by decide) (by first|(simp<;>rfl)|(simp[*]<;>rfl)|(simp[*];done)) (M8 [5,7,8,6,6]) ?_)
 rintro _ rfl
 refine .rn [2,3] [] ?_
 refine .done (.sr ?_)
 refine .sr ?_
 refine .seq ?_
 refine .rec (ax:=[(1,.ptr 1 0),(2,.ptr 2 0),(3,.vec [.agg [.int .i64 3,.int .i64 2,.int .i64 2,.int .i64 3,.int .i64 0],.agg [.int .i64 1,.int .i64 5,.int .i64 2,.int .i64 0,.int .i64 8],.agg [.int .i64 4,.int .i64 7,.int .i64 4,.int .i64 1,.int .i64 0]])]) (aP:=⟨3,[(2,.box [.int .i64 3,.int .i64 2,.int .i64 2,.int .i64 3,.int .i64 0]),(1,.box [.int .i64 4,.int .i64 3,.int .i64 3,.int .i64 2,.int .i64 5,.vec [bu ⟨4,8,2⟩],ints [5,7,3,9,7,4,6],.vec [cn ⟨3,[11]⟩],ints [5,7,8,6,6]])]⟩) (.mk [3] [] ib iQ rfl rfl rfl) ?_
 refine .au lV rfl af (.rn [0] _ ?_)
 refine .pc rfl rfl rfl rfl rfl call21 (r21) ?_
 refine .rn [2,3,4,5,6,7] [] ?_
 refine .done (.seq (.au gE rfl af ?_))
 refine .rn [0] _ ?_
 refine .pc rfl rfl rfl rfl rfl call48 (r48) ?_
 refine .rn [2,3,4,5,6] [] ?_
 refine .done (.seq (.au gE rfl af ?_))
 refine .rn [0] _ ?_
 refine .pc rfl rfl rfl rfl rfl call26 (r26) ?_
 refine .rn [2,3,4,5,6] [] ?_
 refine .done (.seq (.au pQ rfl af ?_))
 refine .rn [0] _ ?_
 refine .pc rfl rfl rfl rfl rfl call22 (r22) ?_
 refine .rn [2,3,4,5,6,7,8] [] ?_
 refine .done (.seq (.au lV rfl af ?_))
 refine .rn [0] _ ?_
 refine .pc rfl rfl rfl rfl rfl call24 (r24) ?_
 refine .rn [2,3,4,5,6,7] [] ?_
 refine .done (.seq (.au lV rfl af ?_))
 refine .rn [0,1] _ ?_
 refine .pc rfl rfl rfl rfl rfl call30 (r30) ?_
 refine .rn [3,4,5,6,7] [] ?_
 refine .done (.seq (.au lV rfl af ?_))
 refine .rn [0,1] _ ?_
 refine .pc rfl rfl rfl rfl rfl call32 (r32) ?_
 refine .rn [3,4,5,6,7] [] ?_
 refine .done (.seq (.au [0,1,2,3,4,5,6,7,8,9,10] rfl af ?_))
 refine .rn [0,1] _ ?_
 refine .pc rfl rfl rfl rfl rfl call54 (r54) ?_
 refine .rn [3,4,5,6,7,8,9,10] [] ?_
 refine .done (.seq (.au gE rfl af ?_))
 refine .rn [0] _ ?_
 refine .pc rfl rfl rfl rfl rfl call75 (Se) ?_
 refine .rn [2,3,4,5,6] [] ?_
 refine .done (.seq (.seq (.au [0,1,2,3,4,5,6,7,8,9,10,11,12,13,14,15,16,17,18,19,20,21,22,23,24,25,26,27,28,29,30,31,32,33] rfl af ?_)))
 refine .rn [0,1,2] _ ?_
 refine .split (t:=94) rfl (fun ph=>?_) (fun ph=>?_)
 ·try subst ph
  try simp at ph
 try subst ph
 try simp at ph
 refine .rn [3,4,5,6] _ ?_
 refine .split (t:=98) rfl (fun vY=>?_) (fun vY=>?_)
 ·try subst vY
  try simp at vY
 try subst vY
 try simp at vY
 refine .rn [7,8,9,10] _ ?_
 refine .split (t:=102) rfl (fun v7=>?_) (fun v7=>?_)
 ·try subst v7
  try simp at v7
 try subst v7
 try simp at v7
 refine .rn [11,12,13,14] _ ?_
 refine .split (t:=106) rfl (fun ma=>?_) (fun ma=>?_)
 ·try subst ma
  try simp at ma
 try subst ma
 try simp at ma
 refine .rn [15,16,17,18] _ ?_
 refine .split (t:=110) rfl (fun v8=>?_) (fun v8=>?_)
 ·try subst v8
  try simp at v8
 try subst v8
 try simp at v8
 refine .rn [19,20,21,22] _ ?_
 refine .split (t:=114) rfl (fun mJ=>?_) (fun mJ=>?_)
 ·try subst mJ
  try simp at mJ
 try subst mJ
 try simp at mJ
 refine .rn [23,24,25,26] _ ?_
 refine .split (t:=118) rfl (fun mb=>?_) (fun mb=>?_)
 ·try subst mb
  try simp at mb
 try subst mb
 try simp at mb
 refine .rn [27,28,29,30] _ ?_
 refine .split (t:=122) rfl (fun wc=>?_) (fun wc=>?_)
 ·try subst wc
  try simp at wc
 try subst wc
 try simp at wc
 refine .rn [31,32,33] [] ?_
 refine .done ?_
 refine .cs ?_ ?_<;>intro GO
 ·try simp at GO
 try simp at GO
 refine .skip (.seq (.au [0,1,2,3,4,5,6,7,8,9,10,11,12,13,14,15,16,17,18,19,20,21,22,23,24,25,26,27,28,29,30,31,32,33,34,35,36,37,38,39,40,41,42,43,44,45,46,47] rfl af (.rn dt _ ?_)))
 refine .split (t:=129) rfl (fun we=>?_) (fun we=>?_)
 ·try subst we
  try simp at we
  refine .rn [4,5,6] _ ?_
  refine .pc rfl rfl rfl rfl rfl call34 (Sc) ?_
  refine .rn [8,9] _ ?_
  refine .split (t:=135) rfl (fun wg=>?_) (fun wg=>?_)
  ·try subst wg
   try simp at wg
   refine .rn [10,11] _ ?_
   refine .pc rfl rfl rfl rfl rfl call50 (r50) ?_
   refine .rn [13,14,15] _ ?_
   refine .split (t:=141) rfl (fun wh=>?_) (fun wh=>?_)
   ·try subst wh
    try simp at wh
    refine .rn [16,17,18,19] _ ?_
    refine .split (t:=145) rfl (fun wj=>?_) (fun wj=>?_)
    ·try subst wj
     try simp at wj
     refine .rn [20,21] _ ?_
     refine .pc rfl rfl rfl rfl rfl call34 (Sc) ?_
     refine .rn [23,24] _ ?_
     refine .split (t:=150) rfl (fun wm=>?_) (fun wm=>?_)
     ·try subst wm
      try simp at wm
      refine .rn [25,26] _ ?_
      refine .step rfl rfl (.take rfl rfl rfl call37 (by decide) (by first|(simp<;>rfl)|(simp[*]<;>rfl)|(simp[*];done)) (M7 [0,1,6] (by decide)) ?_)
      rintro _ rfl
      refine .rn [28,29] _ ?_
      refine .split (t:=155) rfl (fun wq=>?_) (fun wq=>?_)
      ·try subst wq
       try simp at wq
       refine .rn [30,31] _ ?_
       refine .step rfl rfl (.take rfl rfl rfl call37 (by decide) (by first|(simp<;>rfl)|(simp[*]<;>rfl)|(simp[*];done)) (M7 [0,1,6] (by decide)) ?_)
       rintro _ rfl
       refine .rn [33,34] _ ?_
       refine .split (t:=160) rfl (fun wu=>?_) (fun wu=>?_)
       ·try subst wu
        try simp at wu
        refine .rn [35,36,37,38,39] _ ?_
        refine .split (t:=165) rfl (fun wx=>?_) (fun wx=>?_)
        ·try subst wx
         try simp at wx
         refine .rn [40,41,42,43] _ ?_
         refine .split (t:=169) rfl (fun wy=>?_) (fun wy=>?_)
         ·try subst wy
          try simp at wy
          refine .rn [44,45,46,47] [] ?_
          refine .done (.seq (.au Fe rfl af ?_))
          refine .rn [0,1,2] _ ?_
          refine .step rfl rfl (.take rfl rfl rfl call37 (by decide) (by first|(simp<;>rfl)|(simp[*]<;>rfl)|(simp[*];done)) (M7 [5,7,3,9,7,8,6,6] (by decide)) ?_)
          rintro _ rfl
          refine .rn [4] _ ?_
          refine .split (t:=177) rfl (fun wz=>?_) (fun wz=>?_)
          ·try subst wz
           try simp at wz
           refine .rn [5,6,7,8,9] _ ?_
           refine .split (t:=182) rfl (fun wA=>?_) (fun wA=>?_)
           ·try subst wA
            try simp at wA
            refine .rn [10,11,12,13,14,15,16] _ ?_
            refine .split (t:=189) rfl (fun wB=>?_) (fun wB=>?_)
            ·try subst wB
             try simp at wB
             refine .rn [17,18,19,20,21,22,23] _ ?_
             refine .split (t:=196) rfl (fun wC=>?_) (fun wC=>?_)
             ·try subst wC
              try simp at wC
              refine .rn [24,25,26,27] [] ?_
              refine .done (.seq (.au lV rfl af ?_))
              refine .rn [0] _ ?_
              refine .step rfl rfl (.take rfl rfl rfl call74 (by decide) (by first|(simp<;>rfl)|(simp[*]<;>rfl)|(simp[*];done)) (M8 [5,7,3,11,9,7,4,6]) ?_)
              rintro _ rfl
              refine .pc rfl rfl rfl rfl rfl call43 (M9) ?_
              refine .rn [3,4,5,6,7] [] ?_
              refine .done (.seq (.au lV rfl af ?_))
              refine .rn [0] _ ?_
              refine .step rfl rfl (.take rfl rfl rfl call74 (by decide) (by first|(simp<;>rfl)|(simp[*]<;>rfl)|(simp[*];done)) (M8 [5,7,3,9,7,7,4,6]) ?_)
              rintro _ rfl
              refine .pc rfl rfl rfl rfl rfl call43 (Na) ?_
              refine .rn [3,4,5,6,7] [] ?_
              refine .done (.seq ?_)
              refine .rec (ax:=[(24,.bool true),(25,.bool true),(26,.int .i64 2),(27,.int .i64 0),(28,.int .i64 3),(29,.int .i64 0)]) (aP:=⟨0,[]⟩) bT ?_
              refine .au iB rfl af ?_
              refine .pc rfl rfl rfl rfl rfl call76 (Rr) ?_
              refine .rn [1,2] _ ?_
              refine .step rfl rfl (.qy (ax:=[(214,ints [9]),(213,ints [3,4]),(212,.agg [.int .i64 4,.int .i64 3,.int .i64 3,.int .i64 2,.int .i64 5,.vec [bu ⟨4,8,2⟩]]),(24,.bool true),(25,.bool true),(26,.int .i64 2),(27,.int .i64 0),(28,.int .i64 3),(29,.int .i64 0)]) (aP:=⟨2,[]⟩) (.mk [0,1] [] ib iQ rfl rfl rfl) (.op fA (by decide) ?_))
              refine .rn [4,5] [] ?_
              refine .done (.seq ?_)
              refine .rec (ax:=[(24,.bool true),(25,.bool true),(26,.int .i64 2),(27,.int .i64 0),(28,.int .i64 3),(29,.int .i64 0),(30,.ptr 2 0)]) (aP:=⟨3,[(2,.box [.int .i64 4,.int .i64 3,.int .i64 3,.int .i64 2,.int .i64 5,.vec [bu ⟨4,8,2⟩],ints [3,4],.vec [],ints [9]])]⟩) bT ?_
              refine .au gE rfl af (.rn [0] _ ?_)
              refine .pc rfl rfl rfl rfl rfl call48 (Nb) ?_
              refine .rn [2,3,4,5,6] [] ?_
              refine .done (.seq (.au gE rfl af ?_))
              refine .rn [0] _ ?_
              refine .pc rfl rfl rfl rfl rfl call28 (Sd) ?_
              refine .rn [2,3,4,5,6] [] ?_
              refine .done (.seq (.au [0,1,2,3,4,5,6,7,8,9,10,11,12,13,14,15,16,17,18,19,20,21,22,23,24,25,26,27,28,29,30,31,32,33,34,35,36,37] rfl af ?_))
              refine .rn [0,1] _ ?_
              refine .split (t:=227) rfl (fun wD=>?_) (fun wD=>?_)
              ·try subst wD
               try simp at wD
               refine .rn [2,3,4] _ ?_
               refine .split (t:=230) rfl (fun kr=>?_) (fun kr=>?_)
               ·try subst kr
                try simp at kr
                refine .rn [5,6,7,8] _ ?_
                refine .split (t:=234) rfl (fun mS=>?_) (fun mS=>?_)
                ·try subst mS
                 try simp at mS
                 refine .rn [9,10,11,12] _ ?_
                 refine .split (t:=238) rfl (fun wE=>?_) (fun wE=>?_)
                 ·try subst wE
                  try simp at wE
                  refine .rn [13,14,15,16] _ ?_
                  refine .split (t:=242) rfl (fun wF=>?_) (fun wF=>?_)
                  ·try subst wF
                   try simp at wF
                   refine .rn [17,18,19,20] _ ?_
                   refine .split (t:=246) rfl (fun wG=>?_) (fun wG=>?_)
                   ·try subst wG
                    try simp at wG
                    refine .rn [21,22,23,24] _ ?_
                    refine .split (t:=250) rfl (fun wH=>?_) (fun wH=>?_)
                    ·try subst wH
                     try simp at wH
                     refine .rn [25,26,27,28] _ ?_
                     refine .split (t:=254) rfl (fun wI=>?_) (fun wI=>?_)
                     ·try subst wI
                      try simp at wI
                      refine .rn [29,30,31,32] _ ?_
                      refine .split (t:=258) rfl (fun wJ=>?_) (fun wJ=>?_)
                      ·try subst wJ
                       try simp at wJ
                       refine .rn [33,34,35,36,37] [] ?_
                       refine .done (.ret (aA ?_))
                       exact zk
                      try subst wJ
                      try simp at wJ
                     try subst wI
                     try simp at wI
                    try subst wH
                    try simp at wH
                   try subst wG
                   try simp at wG
                  try subst wF
                  try simp at wF
                 try subst wE
                 try simp at wE
                try subst mS
                try simp at mS
               try subst kr
               try simp at kr
              try subst wD
              try simp at wD
             try subst wC
             try simp at wC
            try subst wB
            try simp at wB
           try subst wA
           try simp at wA
          try subst wz
          try simp at wz
         try subst wy
         try simp at wy
        try subst wx
        try simp at wx
       try subst wu
       try simp at wu
      try subst wq
      try simp at wq
     try subst wm
     try simp at wm
    try subst wj
    try simp at wj
   try subst wh
   try simp at wh
  try subst wg
  try simp at wg
 try subst we
 try simp at we
end
attribute [local simp] cQ bQ km tZ y1 ue uf sU jk gr
def CG (c:ao):Bool:=decide ((c.t.length≤60∧c.c.length≤60∧c.g.length≤10∧c.mx.length≤30)∧((c.t.length≤7∧c.c.length≤7)∨bf c≠0))
section
variable [bG]
theorem p25 (c:ao)(hB:BC c):aN prog 25 [aD c] fun r=>r=.bool (CG c):=by
 have gh:=CB c hB
 have hC:cw c=(cQ c):=rfl
 have hF:CG c=decide ((c.t.length≤60∧c.c.length≤60∧c.g.length≤10∧c.mx.length≤30)∧((c.t.length≤7∧c.c.length≤7)∨bf c≠0)):=rfl
 obtain⟨e,he⟩:∃e,bf c=e:=⟨_,rfl⟩
 rw[he] at gh hF
 unfold aD at gh ⊢
 rw[hC] at gh ⊢
 refine .bP func25 rfl rfl ?_
 refine .sr ?_
 refine .seq (.seq (.au [0,1,2,3,4,5,6,7,8,9,10,11,12,13,14,15,16,17,18,19,20,21,22] rfl af (.rn fe _ ?_)))
 refine .split (t:=7) rfl (fun c7=>?_) (fun c7=>?_)
 ·try rw[c7]
  try simp at c7
  refine .rn [5,6,7,8,9,10,11,12,13,14,15,16,17,18,19,20,21,22] [] ?_
  refine .done (.ep rfl (.sr ?_))
  refine .ret (aA ?_)
  refine congrArg PV.bool ?_
  rw[hF,Bool.eq_iff_iff]
  simp<;>omega
 try rw[c7]
 try simp at c7
 refine .rn [5,6,7,8,9,10] _ ?_
 refine .split (t:=13) rfl (fun gg=>?_) (fun gg=>?_)
 ·try rw[gg]
  try simp at gg
  refine .rn [11,12,13,14,15,16,17,18,19,20,21,22] [] ?_
  refine .done (.ep rfl (.sr ?_))
  refine .ret (aA ?_)
  refine congrArg PV.bool ?_
  rw[hF,Bool.eq_iff_iff]
  simp<;>omega
 try rw[gg]
 try simp at gg
 refine .rn [11,12,13,14,15,16] _ ?_
 refine .split (t:=19) rfl (fun jC=>?_) (fun jC=>?_)
 ·try rw[jC]
  try simp at jC
  refine .rn [17,18,19,20,21,22] [] ?_
  refine .done (.ep rfl (.sr ?_))
  refine .ret (aA ?_)
  refine congrArg PV.bool ?_
  rw[hF,Bool.eq_iff_iff]
  simp<;>omega
 try rw[jC]
 try simp at jC
 refine .rn [17,18,19,20,21,22] [] ?_
 refine .done ?_
 refine .cs ?_ ?_<;>intro fx
 ·try simp at fx
  refine .sr ?_
  refine .ret (aA ?_)
  refine congrArg PV.bool ?_
  rw[hF,Bool.eq_iff_iff]
  simp<;>omega
 try simp at fx
 refine .skip (.seq (.au BO rfl af (.rn fe _ ?_)))
 refine .split (t:=30) rfl (fun xR=>?_) (fun xR=>?_)
 ·try rw[xR]
  try simp at xR
  refine .rn [5,6,7,8,9,10] _ ?_
  refine .split (t:=36) rfl (fun gT=>?_) (fun gT=>?_)
  ·try rw[gT]
   try simp at gT
   refine .rn [11,12,13,14,15] [] ?_
   refine .done (.ret (aA ?_))
   refine congrArg PV.bool ?_
   rw[hF,Bool.eq_iff_iff]
   simp<;>omega
  try rw[gT]
  try simp at gT
  refine .rn [11] _ ?_
  refine .pc rfl rfl rfl rfl rfl call66 (gh) ?_
  refine .rn [13,14,15] [] ?_
  refine .done (.ret (aA ?_))
  refine congrArg PV.bool ?_
  rw[hF,Bool.eq_iff_iff]
  simp<;>omega
 try rw[xR]
 try simp at xR
 refine .rn [5,6,7,8,9,10,11] _ ?_
 refine .pc rfl rfl rfl rfl rfl call66 (gh) ?_
 refine .rn [13,14,15] [] ?_
 refine .done (.ret (aA ?_))
 refine congrArg PV.bool ?_
 rw[hF,Bool.eq_iff_iff]
 simp<;>omega
theorem p38 (l:List aq):aN prog 38 [.vec (l.map encS)] fun r=>r=.bool (decide (l.length≤120)):=by
 refine .bP func38 rfl rfl ?_
 refine .sr ?_
 refine .sr ?_
 refine .ret (aA ?_)
 refine congrArg PV.bool ?_
 rw[Bool.eq_iff_iff]
 simp only[decide_eq_true_eq]
 omega
end
attribute [local simp ↓ high] xu vi IX
theorem D7 {b:PV}(hb:b.aH=true):dO (.agg [.aG,b]) (.agg [.vec [],b]):=.j7 (.cons .dV (.cons (.same _ hb) .nil))
section
variable [bG]
theorem p62 (c:ao)(i0 j0:Int)(hB:BC c):aN prog 62 [aD c,.int .i64 i0,.int .i64 j0] fun r=>dO r (.agg [.vec ((vv c i0 j0).map encS),.int .i64 (Aw c i0 j0)]):=by
 have gh:=CB c hB
 have GP:=qJ i0 0 (c.t.length:Int)
 have l5:=qJ j0 0 (c.c.length:Int)
 have hC:cw c=(cQ c):=rfl
 have hV:vv c i0 j0=if bf c=0∧vu c i0 j0=true then kF c i0.toNat j0.toNat else []:=rfl
 have gW:Aw c i0 j0=if bf c=0 then (if vu c i0 j0=true then 0 else 1) else bf c:=rfl
 have jS:=fun hk i j hi hj=>RV c i j hk hi hj
 have iw:vu c i0 j0=((decide (0≤i0)&&decide (i0≤(c.t.length:Int)))&&(decide (0≤j0)&&decide (j0≤(c.c.length:Int)))):=rfl
 obtain⟨wa,BT⟩:∃b,(decide (0≤i0)&&decide (i0≤(c.t.length:Int)))=b:=⟨_,rfl⟩
 obtain⟨wb,rK⟩:∃b,(decide (0≤j0)&&decide (j0≤(c.c.length:Int)))=b:=⟨_,rfl⟩
 rw[BT] at GP iw
 rw[rK] at l5 iw
 rw[iw] at hV gW
 obtain⟨e,he⟩:∃e,bf c=e:=⟨_,rfl⟩
 rw[he] at gh hV gW jS
 unfold aD at gh jS ⊢
 rw[hC] at gh jS ⊢
 refine .bP func62 rfl rfl ?_
 refine .sr ?_
 refine .seq (.au [0,1,2] rfl af (.rn [0] _ ?_))
 refine .pc rfl rfl rfl rfl rfl call66 (gh) ?_
 refine .rn [2] [] ?_
 refine .done (.seq (.sr ?_))
 refine .cs ?_ ?_<;>intro gg
 ·try simp at gg
  rw[if_neg (by simp[gg])] at hV
  rw[if_neg gg] at gW
  refine .sr ?_
  refine .ret (aA ?_)
  rw[hV,gW];exact D7 rfl
 try simp at gg
 obtain rfl:e=0:=by simpa using gg
 rw[if_pos rfl] at gW
 refine .skip (.seq (.au iB rfl af (.rn dt _ ?_)))
 refine .pc rfl rfl rfl rfl rfl call99 (GP) ?_
 refine .rn [5] [] ?_
 refine .done (.seq (.au iB rfl af ?_))
 refine .rn dt _ ?_
 refine .pc rfl rfl rfl rfl rfl call99 (l5) ?_
 refine .rn [5] [] ?_
 refine .done (.seq (.seq (.au iB rfl af ?_)))
 refine .rn [0,1,2] _ ?_
 refine .split (t:=28) rfl (fun jr=>?_) (fun jr=>?_)
 ·try subst jr
  try simp at jr
  have zx:wa=false:=by first|exact jr|simpa using jr
  have hf:(wa&&wb)=false:=by rw[zx];rfl
  rw[if_neg (by simp[hf])] at hV gW
  refine .rn [3,4,5] [] ?_
  refine .done (.ep rfl (.sr ?_))
  refine .ret (aA ?_)
  rw[hV,gW];exact D7 rfl
 try subst jr
 try simp at jr
 have zx:wa=true:=by simpa using jr
 refine .rn [3,4,5] [] ?_
 refine .done ?_
 refine .cs ?_ ?_<;>intro n4
 ·try simp at n4
  have xI:wb=false:=by first|exact n4|simpa using n4
  have hf:(wa&&wb)=false:=by rw[xI,Bool.and_false]
  rw[if_neg (by simp[hf])] at hV gW
  refine .sr ?_
  refine .ret (aA ?_)
  rw[hV,gW];exact D7 rfl
 try simp at n4
 have xI:wb=true:=by simpa using n4
 rw[if_pos (by simp[zx,xI])] at hV gW
 rw[zx] at BT
 rw[xI] at rK
 simp only[bV,decide_eq_true_eq] at BT rK
 obtain⟨i,rfl⟩:∃i:Nat,i0=i:=⟨i0.toNat,by omega⟩
 obtain⟨j,rfl⟩:∃j:Nat,j0=j:=⟨j0.toNat,by omega⟩
 have jS:=jS rfl i j (by omega) (by omega)
 refine .skip (.seq (.au iB rfl af (.rn [0,1,2] _ ?_)))
 refine .pc rfl rfl rfl rfl rfl call125 (jS) ?_
 refine .rn [4,5] [] ?_
 refine .done (.ret (aA ?_))
 rw[hV,gW];exact ly (by simp[PV.aH,PV.aJ])
theorem p63 (c:ao)(s:aq)(hB:BC c):aN prog 63 [aD c,encS s] fun r=>r=.agg [.int .i64 (F9 c s),.int .i64 (Ga c s)]:=by
 have gh:=CB c hB
 have oJ:=qJ s.i 0 (c.c.length:Int)
 have bU:=fun hk=>zf c s hk
 have hC:cw c=(cQ c):=rfl
 have hE:∀s:aq,encS s=.agg [.int .i64 s.k,.int .i64 s.a,.int .i64 s.i,.int .i64 s.l,.int .i64 s.w]:=fun _=>rfl
 have hN:F9 c s=if bf c=0 then (match aK c s with|some (n,_,_)=>if s.i≤(c.c.length:Int) then n else 0|none=>0) else 0:=rfl
 have gW:Ga c s=if bf c=0 then (match aK c s with|some _=>if s.i≤(c.c.length:Int) then 0 else 5|none=>5) else bf c:=rfl
 obtain⟨wi,dW⟩:∃b,(decide (0≤s.i)&&decide (s.i≤(c.c.length:Int)))=b:=⟨_,rfl⟩
 rw[dW] at oJ
 obtain⟨e,he⟩:∃e,bf c=e:=⟨_,rfl⟩
 have er:=he
 rw[he] at gh hN gW bU
 rw[hE] at bU ⊢
 unfold aD at gh bU ⊢
 rw[hC] at gh bU ⊢
 refine .bP func63 rfl rfl ?_
 refine .sr ?_
 refine .seq (.au [0,1,2] rfl af (.rn [0] _ ?_))
 refine .pc rfl rfl rfl rfl rfl call66 (gh) ?_
 refine .rn [2] [] ?_
 refine .done (.seq (.sr ?_))
 refine .cs ?_ ?_<;>intro jq
 ·try simp at jq
  rw[if_neg jq] at hN gW
  refine .sr ?_
  refine .ret (aA ?_)
  rw[hN,gW]
 try simp at jq
 obtain rfl:e=0:=by simpa using jq
 rw[if_pos rfl] at hN gW
 have bj:=iC er
 have bU:=bU rfl
 obtain⟨d0,d1,d2,w3,d4,hd,Sf⟩:∃d0 d1 d2 w3 d4,Cv c s=.agg [.int .i64 d0,.int .i64 d1,.int .i64 d2,eW w3,.bool d4]∧((d4=true∧∃i' w,aK c s=some (d2,i',w))∨(d4=false∧aK c s=none)):=by
  rcases hd:aK c s with _|⟨n,i',w⟩
  ·exact⟨0,0,0,[],false,by unfold Cv;rw[hd];rfl,.inr ⟨rfl,rfl⟩⟩
  exact⟨i',iV s w,n,w,true,ig hd,.inl ⟨rfl,i',w,rfl⟩⟩
 rw[hd] at bU
 refine .skip (.seq (.au gE rfl af (.rn fe _ ?_)))
 refine .pc rfl rfl rfl rfl rfl call99 (oJ) ?_
 refine .rn [6] [] ?_
 refine .done (.seq (.au fe rfl af ?_))
 refine .rn [0,1] _ ?_
 refine .pc rfl rfl rfl rfl rfl call126 (bU) ?_
 refine .rn [3,4] [] ?_
 refine .done (.seq (.seq (.au gE rfl af ?_)))
 refine .rn [0,1,2] _ ?_
 refine .split (t:=25) rfl (fun fx=>?_) (fun fx=>?_)
 ·try subst fx
  try simp at fx
  have hwf:wi=false:=by simpa using fx
  have tM:(match aK c s with|some (n,_,_)=>if s.i≤(c.c.length:Int) then n else 0|none=>0)=0∧(match aK c s with|some _=>if s.i≤(c.c.length:Int) then (0:Int) else 5|none=>5)=5:=by
   rcases od:aK c s with _|⟨n,i',w⟩
   ·exact⟨rfl,rfl⟩
   have h3:=(kS bj od).2.1.2.2
   rw[hwf] at dW
   have h4:¬s.i≤(c.c.length:Int):=fun h=>by simp[h3,h] at dW
   simp[h4]
  rw[tM.1] at hN
  rw[tM.2] at gW
  refine .rn [3,4,5,6] [] ?_
  refine .done (.ep rfl (.sr ?_))
  refine .ret (aA ?_)
  rw[hN,gW]
 try subst fx
 try simp at fx
 have mn:wi=true:=by simpa using fx
 rw[mn] at dW
 simp only[bV,decide_eq_true_eq] at dW
 refine .rn [3,4,5,6] [] ?_
 refine .done ?_
 refine .cs ?_ ?_<;>intro mL
 ·try simp at mL
  have tM:aK c s=none:=by
   rcases Sf with⟨h,_⟩|⟨_,h⟩
   ·simp[h] at mL
   exact h
  rw[tM] at hN gW
  refine .sr ?_
  refine .ret (aA ?_)
  rw[hN,gW]
 try simp at mL
 obtain⟨i',w,uJ⟩:∃i' w,aK c s=some (d2,i',w):=by
  rcases Sf with⟨_,h⟩|⟨h,_⟩
  ·exact h
  simp[h] at mL
 rw[uJ] at hN gW
 simp only[if_pos dW.2] at hN gW
 refine .skip (.sr ?_)
 refine .ret (aA ?_)
 rw[hN,gW]
theorem p64 (c:ao)(l:List aq)(hB:BC c)(da:l.length≤200):aN prog 64 [aD c,.vec (l.map encS)] fun r=>dO r (.agg [ints (y8 c l),.int .i64 (F8 c l)]):=by
 have gh:=CB c hB
 have gV:=fun hk=>aN.soft (Gw c l hk da) (RC c l)
 have hC:cw c=(cQ c):=rfl
 have hO:y8 c l=if bf c=0 then (if 100<l.length then [] else match dF c l with|some (o,_)=>o|none=>[]) else []:=rfl
 have gW:F8 c l=if bf c=0 then (if 100<l.length then 2 else match dF c l with|some _=>0|none=>7) else bf c:=rfl
 obtain⟨e,he⟩:∃e,bf c=e:=⟨_,rfl⟩
 rw[he] at gh hO gW gV
 unfold aD at gh gV ⊢
 rw[hC] at gh gV ⊢
 refine .bP func64 rfl rfl ?_
 refine .sr ?_
 refine .seq (.au [0,1,2] rfl af (.rn [0] _ ?_))
 refine .pc rfl rfl rfl rfl rfl call66 (gh) ?_
 refine .rn [2] [] ?_
 refine .done (.seq (.sr ?_))
 refine .cs ?_ ?_<;>intro fc
 ·try simp at fc
  rw[if_neg fc] at hO gW
  refine .sr ?_
  refine .ret (aA ?_)
  rw[hO,gW];exact D7 rfl
 try simp at fc
 obtain rfl:e=0:=by simpa using fc
 rw[if_pos rfl] at hO gW
 have gV:=gV rfl
 refine .skip (.seq (.sr ?_))
 refine .cs ?_ ?_<;>intro cb
 ·try simp at cb
  rw[if_pos (by omega)] at hO gW
  refine .sr ?_
  refine .ret (aA ?_)
  rw[hO,gW];exact D7 rfl
 try simp at cb
 rw[if_neg (by omega)] at hO gW
 obtain⟨o,n,b,hx,lA⟩:∃o n b,xQ c l=.agg [ints o,.int .i64 n,.bool b]∧((b=true∧dF c l=some (o,n))∨(b=false∧dF c l=none)):=by
  unfold xQ
  rcases dF c l with _|⟨o,n⟩
  ·exact⟨[],0,false,rfl,.inr ⟨rfl,rfl⟩⟩
  exact⟨o,n,true,rfl,.inl ⟨rfl,rfl⟩⟩
 rw[hx] at gV
 refine .skip (.seq (.au fe rfl af (.rn [0,1] _ ?_)))
 refine .pc rfl rfl rfl rfl rfl call127 (gV) ?_
 refine .rn [3,4] [] ?_
 refine .done (.seq (.sr ?_))
 refine .cs ?_ ?_<;>intro pj
 ·try simp at pj
  have hw:dF c l=none:=by
   rcases lA with⟨h,_⟩|⟨_,h⟩
   ·simp[h] at pj
   exact h
  rw[hw] at hO gW
  refine .sr ?_
  refine .ret (aA ?_)
  rw[hO,gW];exact D7 rfl
 try simp at pj
 have hw:dF c l=some (o,n):=by
  rcases lA with⟨_,h⟩|⟨h,_⟩
  ·exact h
  simp[h] at pj
 rw[hw] at hO gW
 refine .skip (.sr ?_)
 refine .ret (aA ?_)
 rw[hO,gW];exact ly rfl
end
theorem z3i (c:ao)(l:List aq):∃xn xb xe,(PV.bn [.int .i64 (if bf c=0 then (cF c l).getD 0 else 0),.bool (if bf c=0 then (cF c l).isSome else false),.int .i64 (bf c)])=.bn [.int .i64 xn,.bool xb,.int .i64 xe]∧zw c l=.agg [.int .i64 xn,.bool xb,.int .i64 xe]:=by
 unfold zw
 by_cases hk:bf c=0
 ·rw[if_pos hk,if_pos hk,if_neg (by simp[hk])]
  cases cF c l with
  |none=>exact⟨0,false,bf c,rfl,by rw[hk]⟩
  |some n=>exact⟨n,true,bf c,rfl,by rw[hk]⟩
 rw[if_neg hk,if_neg hk,if_pos hk]
 exact⟨0,false,bf c,rfl,rfl⟩
theorem Sh (c:ao)(i j:Int):(vv c i j).length<4611686018427387904:=by
 unfold vv
 split
 ·rename_i h
  have hr:=iC h.1
  have h1:=h.2
  unfold vu at h1
  simp only[bV,decide_eq_true_eq] at h1
  have h2:=Si c i.toNat j.toNat (by omega)
  have h3:=List.length_filter_le (jj c) (kE c i.toNat j.toNat)
  have:=hr.tl;have:=hr.sH
  unfold kF
  omega
 simp
theorem Sj (c:ao)(l:List aq)(hl:l.length≤200):(y8 c l).length<4611686018427387904:=by
 unfold y8
 split
 ·rename_i hk
  split
  ·simp
  cases hw:dF c l with
  |none=>simp
  |some x=>
   obtain⟨o,n⟩:=x
   have:=(IG (iC hk) hw).1
   simp only
   omega
 simp
variable [bG] in
theorem p16 (hN:Names)(c:ao)(i0 j0:Int)(s:aq)(l:List aq)(hB:BC c)(hl:l.length<4611686018427387904):aN prog 16 [aD c,.int .i64 i0,.int .i64 j0,encS s,.vec (l.map encS)] fun r=>r=.bool true:=by
 have Nd:=p20 hN
 have Jb:=p25 c hB
 have q38:=p38 l
 have Jc:=aN.soft (XX c i0 j0 hB) (by simp[PV.aH,PV.aJ])
 have Jd:=aN.soft (p62 c i0 j0 hB) (by simp[PV.aH,PV.aJ])
 have GQ:=ZE c s hB
 have GR:=p63 c s hB
 have D8:=fun da=>aN.soft (ZD c l hB da) (by simp[PV.aH,PV.aJ])
 have Ea:=fun da=>aN.soft (p64 c l hB da) (by simp[PV.aH,PV.aJ])
 have Eb:=fun da=>ZC c l hB da
 have Ec:=fun da=>p65 c l hB da
 have cK:=rz c hB
 have gh:=CB c hB
 have Nf:=RD (vv c i0 j0) (vv c i0 j0) (Sh c i0 j0) (Sh c i0 j0)
 have xS:=fun da=>IZ (y8 c l) (y8 c l) (Sj c l da) (Sj c l da)
 simp only[decide_true] at Nf xS
 obtain⟨xn,xb,xe,Ed,Sk⟩:=z3i c l
 rw[Ed] at Eb
 rw[Sk] at Ec
 clear Ed Sk
 have hC:cw c=(cQ c):=rfl
 have hE:∀s:aq,encS s=.agg [.int .i64 s.k,.int .i64 s.a,.int .i64 s.i,.int .i64 s.l,.int .i64 s.w]:=fun _=>rfl
 obtain⟨fb,Sm⟩:∃b,CG c=b:=⟨_,rfl⟩
 obtain⟨LS,Ng⟩:∃L,vv c i0 j0=L:=⟨_,rfl⟩
 obtain⟨e1,fG⟩:∃L,Aw c i0 j0=L:=⟨_,rfl⟩
 obtain⟨n2,rG⟩:∃L,F9 c s=L:=⟨_,rfl⟩
 obtain⟨e2,yQ⟩:∃L,Ga c s=L:=⟨_,rfl⟩
 obtain⟨O,hO⟩:∃L,y8 c l=L:=⟨_,rfl⟩
 obtain⟨e3,Sn⟩:∃L,F8 c l=L:=⟨_,rfl⟩
 obtain⟨e,he⟩:∃L,bf c=L:=⟨_,rfl⟩
 rw[Sm] at Jb
 rw[Ng,fG] at Jc Jd
 rw[Ng] at Nf
 rw[rG,yQ] at GQ GR
 rw[hO,Sn] at D8 Ea
 rw[hO] at xS
 rw[he] at cK gh
 rw[hE s] at GQ GR ⊢
 unfold aD at Jb Jc Jd GQ GR D8 Ea Eb Ec cK gh ⊢
 rw[hC] at Jb Jc Jd GQ GR D8 Ea Eb Ec cK gh ⊢
 clear Sm Ng fG rG yQ hO Sn he hC hE
 refine .bP func16 rfl rfl ?_
 refine .sr ?_
 refine .seq (.seq (.au lV rfl af (.rn [0] _ ?_)))
 refine .pc rfl rfl rfl rfl rfl call25 (Jb) ?_
 refine .rn [2,3] _ ?_
 refine .split (t:=28) rfl (fun jr=>?_) (fun jr=>?_)
 ·try subst jr
  try simp at jr
  refine .rn [4,5,6,7] [] ?_
  refine .done (.ep rfl (.seq ?_))
  refine .au [0,1] rfl af ?_
  refine .pc rfl rfl rfl rfl rfl call20 (Nd) ?_
  refine .rn [1] [] ?_
  refine .done (.ret (aA ?_))
  exact zk
 try subst jr
 try simp at jr
 refine .rn [4] _ ?_
 refine .pc rfl rfl rfl rfl rfl call38 (q38) ?_
 refine .rn [6,7] [] ?_
 refine .done ?_
 refine .cs ?_ ?_<;>intro eC
 ·try simp at eC
  refine .seq (.au [0,1] rfl af ?_)
  refine .pc rfl rfl rfl rfl rfl call20 (Nd) ?_
  refine .rn [1] [] ?_
  refine .done (.ret (aA ?_))
  exact zk
 try simp at eC
 have da:l.length≤200:=by omega
 have D8:=D8 da
 have Ea:=Ea da
 have Eb:=Eb da
 have Ec:=Ec da
 have xS:=xS da
 refine .skip (.seq (.au pQ rfl af (.rn [0,1,2] _ ?_)))
 refine .pc rfl rfl rfl rfl rfl call61 (Jc) ?_
 refine .rn [4,5,6,7,8] [] ?_
 refine .done (.seq (.au iB rfl af ?_))
 refine .rn [0,1,2] _ ?_
 refine .pc rfl rfl rfl rfl rfl call62 (Jd) ?_
 refine .rn [4,5] [] ?_
 refine .done (.seq (.au lV rfl af ?_))
 refine .rn [0,1] _ ?_
 refine .pc rfl rfl rfl rfl rfl call52 (GQ) ?_
 refine .rn [3,4,5,6,7] [] ?_
 refine .done (.seq (.au fe rfl af ?_))
 refine .rn [0,1] _ ?_
 refine .pc rfl rfl rfl rfl rfl call63 (GR) ?_
 refine .rn [3,4] [] ?_
 refine .done (.seq (.au lV rfl af ?_))
 refine .rn [0,1] _ ?_
 refine .pc rfl rfl rfl rfl rfl call53 (D8) ?_
 refine .rn [3,4,5,6,7] [] ?_
 refine .done (.seq (.au fe rfl af ?_))
 refine .rn [0,1] _ ?_
 refine .pc rfl rfl rfl rfl rfl call64 (Ea) ?_
 refine .rn [3,4] [] ?_
 refine .done (.seq (.au fw rfl af ?_))
 refine .rn [0,1] _ ?_
 refine .pc rfl rfl rfl rfl rfl call40 (Eb) ?_
 refine .rn [3,4,5,6,7,8,9] [] ?_
 refine .done (.seq (.au fe rfl af ?_))
 refine .rn [0,1] _ ?_
 refine .pc rfl rfl rfl rfl rfl call65 (Ec) ?_
 refine .rn [3,4] [] ?_
 refine .done (.seq ?_)
 refine .drawn (ms:=[0,1,0,7,15,31,63,63,191,511,1023,2047,4095,4095,12287,32767,65535,131071,262143,262143,786431,2097151,4194303,8388607,16777215,16777215,50331647,134217727,268435455,536870911]) (W:=[1,3,9]) (items:=[.op 0,.op 2,.op 1,.ck 2,.op 3,.op 4,.op 5,.op 6,.op 7,.op 8,.op 9,.op 10,.op 11,.op 12,.op 13,.op 14,.op 15,.op 16,.op 17,.op 18,.op 19,.op 20,.op 21,.op 22,.op 23,.op 24,.op 25,.op 26,.op 27,.op 28,.op 29]) rfl af af af ?_
 iterate 2 refine .rx ?_
 refine .wp rfl rfl rfl rfl rfl call55 (cK) ?_
 refine .ck rfl eQ ?_
 refine .wp rfl rfl rfl rfl rfl call66 (gh) ?_
 iterate 2 refine .rx ?_
 refine .split (t:=78) rfl (fun th=>?_) (fun th=>?_)
 ·try subst th
  try simp at th
  iterate 3 refine .rx ?_
  refine .wp rfl rfl rfl rfl rfl call34 (Nf) ?_
  iterate 2 refine .rx ?_
  refine .split (t:=84) rfl (fun xA=>?_) (fun xA=>?_)
  ·try subst xA
   try simp at xA
   iterate 6 refine .rx ?_
   refine .split (t:=90) rfl (fun GS=>?_) (fun GS=>?_)
   ·try subst GS
    try simp at GS
    iterate 6 refine .rx ?_
    refine .split (t:=96) rfl (fun GU=>?_) (fun GU=>?_)
    ·try subst GU
     try simp at GU
     iterate 6 refine .rx ?_
     refine .done (.seq (.au [0,1,2,3,4,5,6,7,8,9,10,11,12,13,14,15,16,17,18,19,20,21,22,23,24,25,26,27,28,29,30,31,32,33,34] rfl af ?_))
     refine .pc rfl rfl rfl rfl rfl call20 (Nd) ?_
     refine .rn [1] _ ?_
     refine .split (t:=103) rfl (fun wK=>?_) (fun wK=>?_)
     ·try subst wK
      try simp at wK
      refine .rn [2,3,4] _ ?_
      refine .split (t:=106) rfl (fun ma=>?_) (fun ma=>?_)
      ·try subst ma
       try simp at ma
       refine .rn [5,6,7] _ ?_
       refine .pc rfl rfl rfl rfl rfl call37 (xS) ?_
       refine .rn [9,10] _ ?_
       refine .split (t:=112) rfl (fun wL=>?_) (fun wL=>?_)
       ·try subst wL
        try simp at wL
        refine .rn [11,12,13,14,15,16] _ ?_
        refine .split (t:=118) rfl (fun mb=>?_) (fun mb=>?_)
        ·try subst mb
         try simp at mb
         refine .rn [17,18,19,20,21,22] _ ?_
         refine .split (t:=124) rfl (fun gQ=>?_) (fun gQ=>?_)
         ·try subst gQ
          try simp at gQ
          refine .rn [23,24,25,26,27,28] _ ?_
          refine .split (t:=130) rfl (fun wM=>?_) (fun wM=>?_)
          ·try subst wM
           try simp at wM
           refine .rn [29,30,31,32,33,34] [] ?_
           refine .done (.ret (aA ?_))
           exact zk
          try subst wM
          try simp at wM
         try subst gQ
         try simp at gQ
        try subst mb
        try simp at mb
       try subst wL
       try simp at wL
      try subst ma
      try simp at ma
     try subst wK
     try simp at wK
    try subst GU
    try simp at GU
   try subst GS
   try simp at GS
  try subst xA
  try simp at xA
 try subst th
 try simp at th
end Go.Am.Sl
end
