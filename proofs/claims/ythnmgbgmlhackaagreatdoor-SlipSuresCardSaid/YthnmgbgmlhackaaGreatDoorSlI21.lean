/-
 What is used in the proof of a statement (part SlI21); no condition.
-/
import Derived.Test.YthnmgbgmlhackaaGreatDoorSlH
import Derived.Test.YthnmgbgmlhackaaGreatDoorSlI0
import Derived.Test.YthnmgbgmlhackaaGreatDoorSlI2
import Derived.Test.YthnmgbgmlhackaaGreatDoorSlI7
import Derived.Test.YthnmgbgmlhackaaGreatDoorSlI8
import Derived.Test.YthnmgbgmlhackaaGreatDoorSlI9
import Derived.Test.YthnmgbgmlhackaaGreatDoorSlI13
import Derived.Test.YthnmgbgmlhackaaGreatDoorSlI14
set_option linter.all false
set_option maxHeartbeats 40000000
set_option maxRecDepth 100000
section
namespace Go.Am.Sl
theorem z3u (c:aj){q q':ay→Bool}(h:∀x∈dS c,∀s,x.s=some s→q x=q' x):gU c q=gU c q':=by
 unfold gU
 have:∀(l:List ay) (d:List ak),(∀x∈l,∀s,x.s=some s→q x=q' x)→l.foldl (oE q) d=l.foldl (oE q') d:=by
  intro l
  induction l with
  |nil=>exact fun _ _=>rfl
  |cons x r ih=>
   intro d h
   rw[List.foldl_cons,List.foldl_cons]
   have e:oE q d x=oE q' d x:=by
    unfold oE
    cases hs:x.s with
    |none=>rfl
    |some s=>simp only;rw[h x List.mem_cons_self s hs]
   rw[e]
   exact ih _ fun y hy=>h y (List.mem_cons_of_mem _ hy)
 exact this _ _ h
def vn (c:aj)(x:ay):Bool:=match x.s with|some s=>decide (cP≤gn ((dS c).filter fun y=>!kV s y) c.t.length c.c.length)|none=>false
theorem z5f {c:aj}(hr:Rt c):CK c (vn c)=gU c (ql c):=by
 rw[Sq]
 refine z3u c fun x _ s hs=>?_
 unfold vn ql FM ny
 rw[hs]
 exact(Ye hr _).symm
def Gv (c:aj)(s:ak):Option Int:=((graph c).find? fun x=>kV s x).map fun x=>gn (graph c) x.i x.j+x.n+jG c.t.length c.c.length (graph c) x.i' x.j' - gn (graph c) c.t.length c.c.length
theorem z6v {c:aj}(hr:Rt c)(s:ak):Gv c s=qk c s:=by
 unfold Gv
 cases hf:(graph c).find? fun x=>kV s x with
 |none=>
  have h0:=List.find?_eq_none.1 hf
  unfold qk
  rcases hd:aM c s with _|⟨n,i',w⟩
  ·rfl
  cases hb:hasB c s.i.toNat w with
  |false=>simp[hb]
  |true=>
   exfalso
   refine h0 _ (Sr hr hd hb) ?_
   unfold kV;simp
 |some x=>
  have h1:=List.find?_some hf
  have hx:=List.mem_of_find?_eq_some hf
  unfold kV at h1
  obtain⟨n,i',w,hd,hb,e⟩:=Yh hr hx (of_decide_eq_true h1)
  obtain⟨g1,g2,g3⟩:=rQ hr hx
  have ho:=iz hr g1
  unfold qk
  rw[hd]
  simp only[hb,if_true,Option.map_some]
  rw[SY hr g2 g3,YT hr ho.it ho.jt,Oa hr,e]
  rfl
open Go Go.Am Go.Proofs Tryz
attribute [local simp] de fQ lz dz dN jD af.back b6 dG iO bm Nat.testBit_eq_decide_div_mod_eq ct gf jB vO kN dX kO gE cJ jR jQ kK dY kL j9 jq ly j8 kM kF kC kG kD kE kH kI jM di ig dd kP jS ka kQ kR jL ls lu dW jC dy dx dA iL dK jY jO jP gX kz a7 j7 dw bA bC ja af.get af.alloc af.put af.drop af.empty bq cg gd gR fe cp chunk List.range List.range.loop iP lA jr bI bG PV.aD PV.az PV.b8 PV.dv eu dZ kc PV.one PV.ids PV.bT fJ beq_eq lQ l9
attribute [local simp] cQ bQ cw jU Eg lD CL jE jN jc ef dD
attribute [local simp ↓ high] mG ma
attribute [local simp] cQ bQ cw oL ef dD
theorem YU (c:aj)(x:ay):∃k a i l w,bZ x=.agg [.int .i64 x.i,.int .i64 x.j,.int .i64 x.i',.int .i64 x.j',.int .i64 x.n,.bool x.s.isNone,.int .i64 k,.int .i64 a,.int .i64 i,.int .i64 l,.int .i64 w]∧(∀q D,tF q D x=if x.s.isNone then D else if q x then eC D ⟨k,a,i,l,w⟩ else D)∧vn c x=(!x.s.isNone&&decide (cP≤gn ((dS c).filter fun y=>!kV ⟨k,a,i,l,w⟩ y) c.t.length c.c.length)):=by
 unfold bZ tF vn
 cases x.s with
 |none=>exact⟨0,0,0,0,0,rfl,fun q D=>rfl,rfl⟩
 |some s0=>exact⟨_,_,_,_,_,rfl,fun q D=>rfl,rfl⟩
theorem YV {q:ay→Bool}{L:List ay}{k:Nat}{x:ay}(h:L[k]?=some x){D:List ak}(hD:(L.take k).foldl (tF q) []=D):(L.take (k+1)).foldl (tF q) []=tF q D x:=by
 rw[List.take_add_one,h,Option.toList_some,List.foldl_append,hD];rfl
section
variable [bE]
theorem SZ (L:List ay)(s:ak)(hL:L.length≤139258):aI prog 92 [.vec (L.map bZ),encS s] fun r=>ec r ((.vec ((L.filter fun x=>!kV s x).map bZ))):=by
 unfold encS
 refine .bJ func92 rfl rfl ?_
 refine .sr ?_
 refine .sr ?_
 refine .seq (.sr ?_)
 refine .block ?_
 refine .cZ (fun z:Nat×List ay=>([(0,.vec (L.map bZ)),(3,.ptr 0 0),(5,.grow 1 z.2.length true),(6,.int .i64 z.1)],⟨2,[(1,.grow 11 (z.2.map bZ)),(0,.box [.int .i64 s.k,.int .i64 s.a,.int .i64 s.i,.int .i64 s.l,.int .i64 s.w])]⟩)) (fun z=>z.1≤L.length∧(L.take z.1).filter (fun x=>!kV s x)=z.2) (fun z=>L.length - z.1) (0,[]) ⟨Nat.zero_le _,rfl⟩ aX ?_
 rintro⟨k,D⟩ ⟨ee,kh⟩
 simp only at ee kh ⊢
 refine .seq (.sr ?_)
 refine .cs ?_ ?_<;>intro fp
 ·try simp at fp
  skip
  have qA:IntKind.i64.wrap ((k:Int)+1)=((k+1:Nat):Int):=by rw[wrap64 (by omega) (by omega)];omega
  have dm:k<L.length:=by omega
  obtain⟨x,hx⟩:∃x,L[k]?=some x:=⟨_,List.getElem?_eq_getElem dm⟩
  have ic:L[k]=x:=(List.getElem?_eq_some_iff.1 hx).2
  have dp:(L.take (k+1)).filter (fun x=>!kV s x)=D++(if kV s x then [] else [x]):=by
   rw[List.take_add_one,hx,List.filter_append,kh]
   cases hp:kV s x<;>simp[hp]
  have ue:D.length≤k:=by rw[← kh];exact Nat.le_trans (List.length_filter_le _ _) (by rw[List.length_take];omega)
  have qV:D.length+1≤4294967296:=by omega
  obtain⟨xk,xa,xi,xl,xw,hD,iW,_⟩:=Ss x
  have iW:=iW s
  obtain⟨b0,oY⟩:∃b,(xk==s.k)=b:=⟨_,rfl⟩
  obtain⟨b1,eM⟩:∃b,(xa==s.a)=b:=⟨_,rfl⟩
  obtain⟨b2,cr⟩:∃b,(xi==s.i)=b:=⟨_,rfl⟩
  obtain⟨b3,nq⟩:∃b,(xl==s.l)=b:=⟨_,rfl⟩
  obtain⟨b4,wD⟩:∃b,(xw==s.w)=b:=⟨_,rfl⟩
  rw[oY,eM,cr,nq,wD] at iW
  obtain⟨xb,lU⟩:∃b,x.s.isNone=b:=⟨_,rfl⟩
  rw[lU] at hD iW
  obtain⟨kb,qx⟩:∃b,kV s x=b:=⟨_,rfl⟩
  rw[qx] at dp iW
  clear qx lU
  refine .skip (.seq (.block (.seq ?_)))
  refine .drawn (ms:=[0,0,3,7,15,31,63,63,255,511,1023,63,4095,8191]) (W:=[]) (items:=xO) rfl ae ae ae ?_
  iterate 6 refine .rx ?_
  refine .split (t:=18) rfl (fun nu=>?_) (fun nu=>?_)
  ·try subst nu
   try simp at nu
   iterate 7 refine .ux ?_
   refine .rx ?_
   refine .done (.dR rfl (.rn ?_))
   refine .rn ?_
   obtain rfl:kb=false:=by rw[iW];rfl
   clear iW
   refine⟨(k+1,D++[x]),⟨by omega,by rw[dp];rfl⟩,ba,?_⟩
   exact(.mk [] [(1,3)] gH gY rfl rfl rfl)
  try subst nu
  try simp at nu
  iterate 8 refine .rx ?_
  refine .done ?_
  refine .cs ?_ ?_<;>intro jb
  ·try simp at jb
   refine .rn ?_
   refine .rn ?_
   obtain rfl:kb=false:=by rw[iW];revert jb;cases b0<;>cases b1<;>cases b2<;>cases b3<;>cases b4<;>simp
   clear iW
   refine⟨(k+1,D++[x]),⟨by omega,by rw[dp];rfl⟩,ba,?_⟩
   exact(.mk [] [(1,3)] gH gY rfl rfl rfl)
  try simp at jb
  refine .skip (.rn ?_)
  obtain rfl:kb=true:=by rw[iW];revert jb;cases b0<;>cases b1<;>cases b2<;>cases b3<;>cases b4<;>simp
  clear iW
  refine⟨(k+1,D),⟨by omega,by rw[dp];simp⟩,ba,?_⟩
  exact aX
 try simp at fp
 obtain rfl:k=L.length:=by omega
 rw[List.take_length] at kh
 refine .exit (.sr ?_)
 refine .ret (ax ?_)
 show ec _ _
 rw[kh];exact oF (rj _)
theorem p29 (c:aj)(hB:BC c)(hq:aN c=0→(dS c).length≤100000):aI prog 29 [aA c] fun r=>ec r ((.agg [.vec ((if aN c=0 then gU c (fun _=>true) else []).map encS),.int .i64 (aN c)])):=by
 have fY:=A8 c hB
 have jy:=fun hk:aN c=0=>aI.soft (Lb c hk) (rj _)
 have fE:=fun (hk:aN c=0) L hs=>Gt c L hk hs
 have sB:=fun (D:List ak) (k a i l w:Int) hl=>RJ D ⟨k,a,i,l,w⟩ hl
 have vW:=fun (L:List ay) (k a i l w:Int) hl=>aI.soft (SZ L ⟨k,a,i,l,w⟩ hl) (rj _)
 have hC:cu c=(cQ c):=rfl
 obtain⟨e,he⟩:∃e,aN c=e:=⟨_,rfl⟩
 have bR:=he
 rw[he] at fY ⊢
 unfold aA at fY jy fE ⊢
 unfold encS at vW sB
 rw[hC] at fY jy fE ⊢
 refine .bJ func29 rfl rfl ?_
 refine .sr ?_
 refine .seq (.ar [0,1,2] rfl ae (.rn [0] _ ?_))
 refine .pc rfl rfl rfl rfl rfl call66 (fY) ?_
 refine .rn [2] [] ?_
 refine .done (.seq (.sr ?_))
 refine .cs ?_ ?_<;>intro fp
 ·try simp at fp
  refine .sr ?_
  refine .ret (ax ?_)
  rw[if_neg fp];exact Alt.lW (.cons .eH (.cons (.same _ rfl) .nil))
 try simp at fp
 subst fp
 have aP:=fC bR
 have jy:=jy bR
 have fE:=fE bR
 have hq:=hq bR
 rw[Lc aP] at jy
 have kB:gU c (fun _=>true)=(dS c).foldl (tF (fun _=>true)) []:=(Sq c _).symm
 have mK:∀p:ay→Bool,Sub c ((dS c).filter p):=fun p=>(Be c).filter p
 have En:=YU c
 have da:(dS c).length≤139258:=by omega
 obtain⟨L,hL⟩:∃L,dS c=L:=⟨_,rfl⟩
 rw[hL] at jy hq kB mK En da
 simp only[if_true]
 rw[kB]
 clear hL kB
 refine .skip (.seq (.ar [0,1,2] rfl ae (.rn [0] _ ?_)))
 refine .pc rfl rfl rfl rfl rfl call90 (jy) ?_
 refine .rn [2] [] ?_
 refine .done (.sr ?_)
 refine .seq (.sr ?_)
 refine .block ?_
 refine .cZ (fun z:Nat×List ak=>([(1,.ptr 0 0),(2,.ptr 1 0),(4,.vec (L.map bZ)),(5,.vec (z.2.map encS)),(6,.int .i64 z.1)],⟨2,[(1,.box [.aJ,.int .i64 0]),(0,.box (cQ c))]⟩)) (fun z=>z.1≤L.length∧(L.take z.1).foldl (tF (fun _=>true)) []=z.2) (fun z=>L.length - z.1) (0,[]) ⟨Nat.zero_le _,rfl⟩ aX ?_
 rintro⟨k,D⟩ ⟨ee,kh⟩
 simp only at ee kh ⊢
 refine .seq (.sr ?_)
 refine .cs ?_ ?_<;>intro nu
 ·try simp at nu
  skip
  have qA:IntKind.i64.wrap ((k:Int)+1)=((k+1:Nat):Int):=by rw[wrap64 (by omega) (by omega)];omega
  have dm:k<L.length:=by omega
  obtain⟨x,hx⟩:∃x,L[k]?=some x:=⟨_,List.getElem?_eq_getElem dm⟩
  have ic:L[k]=x:=(List.getElem?_eq_some_iff.1 hx).2
  have dp:=YV hx kh
  have ue:D.length≤k:=by
   have:=NS (fun _=>true) (L.take k) []
   rw[kh,List.length_take,List.length_nil] at this
   omega
  obtain⟨xk,xa,xi,xl,xw,hD,Lm,An⟩:=En x
  rw[Lm] at dp
  have sB:=sB D xk xa xi xl xw (by omega)
  obtain⟨xb,lU⟩:∃b,x.s.isNone=b:=⟨_,rfl⟩
  rw[lU] at hD dp An
  clear Lm An lU En mK
  refine .skip (.seq (.block (.sr ?_)))
  refine .cs ?_ ?_<;>intro jb
  ·try simp at jb
   refine .ar js rfl ae (.rn kS _ ?_)
   refine .pc rfl rfl rfl rfl rfl call93 (sB) ?_
   refine .rn [7] [] ?_
   refine .done (.rn ?_)
   refine⟨(k+1,eC D ⟨xk,xa,xi,xl,xw⟩),⟨by omega,by rw[dp];simp[*]⟩,ba,?_⟩
   exact aX
  try simp at jb
  refine .skip (.rn ?_)
  refine⟨(k+1,D),⟨by omega,by rw[dp];simp[*]⟩,ba,?_⟩
  exact aX
 try simp at nu
 obtain rfl:k=L.length:=by omega
 rw[List.take_length] at kh
 refine .exit (.sr ?_)
 refine .ret (ax ?_)
 show ec _ _
 rw[kh];exact oF (by simp[PV.aD,PV.az])
theorem p27 (c:aj)(hB:BC c)(hq:aN c=0→(dS c).length≤100000):aI prog 27 [aA c] fun r=>ec r ((.agg [.vec ((if aN c=0 then gU c (ql c) else []).map encS),.int .i64 (aN c)])):=by
 have fY:=A8 c hB
 have jy:=fun hk:aN c=0=>aI.soft (Lb c hk) (rj _)
 have fE:=fun (hk:aN c=0) L hs=>Gt c L hk hs
 have sB:=fun (D:List ak) (k a i l w:Int) hl=>RJ D ⟨k,a,i,l,w⟩ hl
 have vW:=fun (L:List ay) (k a i l w:Int) hl=>aI.soft (SZ L ⟨k,a,i,l,w⟩ hl) (rj _)
 have hC:cu c=(cQ c):=rfl
 obtain⟨e,he⟩:∃e,aN c=e:=⟨_,rfl⟩
 have bR:=he
 rw[he] at fY ⊢
 unfold aA at fY jy fE ⊢
 unfold encS at vW sB
 rw[hC] at fY jy fE ⊢
 refine .bJ func27 rfl rfl ?_
 refine .sr ?_
 refine .seq (.ar [0,1,2] rfl ae (.rn [0] _ ?_))
 refine .pc rfl rfl rfl rfl rfl call66 (fY) ?_
 refine .rn [2] [] ?_
 refine .done (.seq (.sr ?_))
 refine .cs ?_ ?_<;>intro fp
 ·try simp at fp
  refine .sr ?_
  refine .ret (ax ?_)
  rw[if_neg fp];exact Alt.lW (.cons .eH (.cons (.same _ rfl) .nil))
 try simp at fp
 subst fp
 have aP:=fC bR
 have jy:=jy bR
 have fE:=fE bR
 have hq:=hq bR
 rw[Lc aP] at jy
 have kB:gU c (ql c)=(dS c).foldl (tF (vn c)) []:=(z5f aP).symm
 have mK:∀p:ay→Bool,Sub c ((dS c).filter p):=fun p=>(Be c).filter p
 have En:=YU c
 have da:(dS c).length≤139258:=by omega
 obtain⟨L,hL⟩:∃L,dS c=L:=⟨_,rfl⟩
 rw[hL] at jy hq kB mK En da
 simp only[if_true]
 rw[kB]
 clear hL kB
 refine .skip (.seq (.ar [0,1,2] rfl ae (.rn [0] _ ?_)))
 refine .pc rfl rfl rfl rfl rfl call90 (jy) ?_
 refine .rn [2] [] ?_
 refine .done (.sr ?_)
 refine .seq (.sr ?_)
 refine .block ?_
 refine .cZ (fun z:Nat×List ak=>([(1,.ptr 0 0),(2,.ptr 1 0),(4,.vec (L.map bZ)),(5,.vec (z.2.map encS)),(6,.int .i64 z.1)],⟨2,[(1,.box [.aJ,.int .i64 0]),(0,.box (cQ c))]⟩)) (fun z=>z.1≤L.length∧(L.take z.1).foldl (tF (vn c)) []=z.2) (fun z=>L.length - z.1) (0,[]) ⟨Nat.zero_le _,rfl⟩ aX ?_
 rintro⟨k,D⟩ ⟨ee,kh⟩
 simp only at ee kh ⊢
 refine .seq (.sr ?_)
 refine .cs ?_ ?_<;>intro nu
 ·try simp at nu
  skip
  have qA:IntKind.i64.wrap ((k:Int)+1)=((k+1:Nat):Int):=by rw[wrap64 (by omega) (by omega)];omega
  have dm:k<L.length:=by omega
  obtain⟨x,hx⟩:∃x,L[k]?=some x:=⟨_,List.getElem?_eq_getElem dm⟩
  have ic:L[k]=x:=(List.getElem?_eq_some_iff.1 hx).2
  have dp:=YV hx kh
  have ue:D.length≤k:=by
   have:=NS (vn c) (L.take k) []
   rw[kh,List.length_take,List.length_nil] at this
   omega
  obtain⟨xk,xa,xi,xl,xw,hD,Lm,An⟩:=En x
  rw[Lm] at dp
  have sB:=sB D xk xa xi xl xw (by omega)
  obtain⟨xb,lU⟩:∃b,x.s.isNone = !b:=⟨!x.s.isNone,by simp⟩
  rw[lU] at hD dp An
  have vW:=vW L xk xa xi xl xw da
  have fE:=fE _ (mK fun y=>!kV ⟨xk,xa,xi,xl,xw⟩ y)
  obtain⟨L2,y3⟩:∃L2,(L.filter fun y=>!kV ⟨xk,xa,xi,xl,xw⟩ y)=L2:=⟨_,rfl⟩
  rw[y3] at vW fE An
  obtain⟨v,hv⟩:∃v,gn L2 c.t.length c.c.length=v:=⟨_,rfl⟩
  rw[hv] at fE An
  obtain⟨gA,Ei⟩:∃b,decide ((1073741824:Int)≤v)=b:=⟨_,rfl⟩
  rw[show cP=1073741824 from rfl,Ei] at An
  rw[An] at dp
  clear Lm An lU En mK y3 hv
  refine .skip (.seq (.block (.seq ?_)))
  refine .drawn (ms:=[0,0,3,7,15,31,63,127,127,127,127,1663,3711,7807,16255,32767,65535,131071]) (W:=[14,15]) (items:=[.op 0,.op 1,.op 2,.op 3,.op 4,.op 5,.op 6,.op 7,.op 8,.op 9,.op 10,.op 11,.op 12,.op 13,.op 14,.ck 7,.op 15,.op 16,.op 17]) rfl ae ae ae ?_
  iterate 7 refine .rx ?_
  refine .split (t:=27) rfl (fun fg=>?_) (fun fg=>?_)
  ·try subst fg
   try simp at fg
   iterate 7 refine .rx ?_
   refine .wp rfl rfl rfl rfl rfl call92 (vW) ?_
   refine .ck rfl eQ ?_
   refine .wp rfl rfl rfl rfl rfl call91 (fE) ?_
   iterate 2 refine .rx ?_
   refine .done ?_
   refine .cs ?_ ?_<;>intro nt
   ·try simp at nt
    refine .ar js rfl ae (.rn kS _ ?_)
    refine .pc rfl rfl rfl rfl rfl call93 (sB) ?_
    refine .rn [7] [] ?_
    refine .done (.rn ?_)
    refine⟨(k+1,eC D ⟨xk,xa,xi,xl,xw⟩),⟨by omega,by rw[dp];simp[*]⟩,ba,?_⟩
    exact aX
   try simp at nt
   refine .skip (.rn ?_)
   refine⟨(k+1,D),⟨by omega,by rw[dp];simp[*]⟩,ba,?_⟩
   exact aX
  try subst fg
  try simp at fg
  iterate 8 refine .ux ?_
  refine .ckU rfl rfl rfl ?_
  iterate 2 refine .ux ?_
  refine .rx ?_
  refine .done (.gI rfl (.skip (.rn ?_)))
  refine⟨(k+1,D),⟨by omega,by rw[dp];simp[*]⟩,ba,?_⟩
  exact aX
 try simp at nu
 obtain rfl:k=L.length:=by omega
 rw[List.take_length] at kh
 refine .exit (.sr ?_)
 refine .ret (ax ?_)
 show ec _ _
 rw[kh];exact oF (by simp[PV.aD,PV.az])
end
theorem z7g {p:ay→Bool}{L:List ay}{k:Nat}{x:ay}(h:L[k]?=some x)(hn:(L.take k).find? p=none):(L.take (k+1)).find? p=if p x then some x else none:=by
 rw[List.take_add_one,h,Option.toList_some,List.find?_append,hn]
 cases hp:p x<;>simp[hp]
theorem xce {p:ay→Bool}{L:List ay}{k:Nat}{x:ay}(h:(L.take k).find? p=some x):L.find? p=some x:=by
 rw[← List.take_append_drop k L,List.find?_append,h];rfl
section
variable [bE]
theorem p33 (c:aj)(s:ak)(hB:BC c):aI prog 33 [aA c,encS s] fun r=>r=.agg [.int .i64 (if aN c=0 then (if ny c s<1099511627776 then ny c s - aS c c.t.length c.c.length else 0) else 0),.int .i64 (if aN c=0 then (if ny c s<1099511627776 then 0 else 5) else aN c)]:=by
 have fY:=A8 c hB
 have mJ:=fun hk:aN c=0=>aI.soft (KI c hk) (rj _)
 have fE:=fun (hk:aN c=0) L hs=>Gt c L hk hs
 have vW:=fun (L:List ay) hl=>aI.soft (SZ L s hl) (rj _)
 have hC:cu c=(cQ c):=rfl
 obtain⟨e,he⟩:∃e,aN c=e:=⟨_,rfl⟩
 have bR:=he
 rw[he] at fY ⊢
 unfold aA at fY mJ fE ⊢
 unfold encS at vW ⊢
 rw[hC] at fY mJ fE ⊢
 refine .bJ func33 rfl rfl ?_
 refine .sr ?_
 refine .seq (.ar [0,1,2] rfl ae (.rn [0] _ ?_))
 refine .pc rfl rfl rfl rfl rfl call66 (fY) ?_
 refine .rn [2] [] ?_
 refine .done (.seq (.sr ?_))
 refine .cs ?_ ?_<;>intro iC
 ·try simp at iC
  refine .sr ?_
  refine .ret (ax ?_)
  rw[if_neg iC,if_neg iC]
 try simp at iC
 subst iC
 have aP:=fC bR
 have mJ:=mJ bR
 have fE:=fE bR
 have vP:=Yi aP s
 have Em:=Oa aP
 rw[show eR c=aS c c.t.length c.c.length from rfl] at Em
 have CO:=fE _ ((Sub.graph c).filter fun x=>!kV s x)
 have CP:=fE _ (Sub.graph c)
 have vW:=vW (graph c) (HL aP)
 have eM:=Ln aP ((Sub.graph c).filter fun x=>!kV s x) c.t.length c.c.length
 have cr:=Ln aP (Sub.graph c) c.t.length c.c.length
 obtain⟨G,hG⟩:∃G,graph c=G:=⟨_,rfl⟩
 rw[hG] at mJ CO CP vW vP Em eM cr
 obtain⟨L2,y3⟩:∃L2,(G.filter fun x=>!kV s x)=L2:=⟨_,rfl⟩
 rw[y3] at CO vW vP eM
 obtain⟨v,hv⟩:∃v,gn L2 c.t.length c.c.length=v:=⟨_,rfl⟩
 rw[hv] at CO vP eM
 rw[Em] at CP cr
 obtain⟨W,hW⟩:∃v,ny c s=v:=⟨_,rfl⟩
 obtain⟨F,hF⟩:∃v,aS c c.t.length c.c.length=v:=⟨_,rfl⟩
 rw[hW] at vP ⊢
 rw[hF] at CP cr ⊢
 rw[show cP=1073741824 from rfl] at vP eM cr
 simp only[if_true]
 obtain⟨gA,Ei⟩:∃b,decide ((1073741824:Int)≤v)=b:=⟨_,rfl⟩
 have Nz:IntKind.i64.wrap (v - F)=v - F:=wrap64 (by omega) (by omega)
 clear fE hG y3 hv hW hF Em he bR
 refine .skip (.seq (.ar [0,1,2] rfl ae (.rn [0] _ ?_)))
 refine .pc rfl rfl rfl rfl rfl call97 (mJ) ?_
 refine .rn [2] [] ?_
 refine .done (.seq ?_)
 refine .drawn (ms:=[0,0,0,6,15,31]) (W:=[3,4]) (items:=[.op 0,.op 1,.op 2,.op 3,.ck 0,.op 4,.op 5]) rfl ae ae ae ?_
 iterate 3 refine .rx ?_
 refine .wp rfl rfl rfl rfl rfl call92 (vW) ?_
 refine .ck rfl eQ ?_
 refine .wp rfl rfl rfl rfl rfl call91 (CO) ?_
 refine .rx ?_
 refine .done (.seq (.sr ?_))
 refine .cs ?_ ?_<;>intro fL
 ·try simp at fL
  refine .sr ?_
  refine .ret (ax ?_)
  have h1:¬W<1099511627776:=fun h=>by
   have h2:=vP.1.2 h
   rw[decide_eq_false (by omega)] at Ei
   rw[← Ei] at fL;cases fL
  rw[if_neg h1,if_neg h1]
 try simp at fL
 refine .skip (.seq (.ar gT rfl ae (.rn [0,1,2] _ ?_)))
 refine .pc rfl rfl rfl rfl rfl call91 (CP) ?_
 refine .rn [4,5,6] [] ?_
 refine .done (.ret (ax ?_))
 have h1:v<1073741824:=by
  rcases Int.lt_or_le v 1073741824 with h|h
  ·exact h
  rw[decide_eq_true h] at Ei;rw[← Ei] at fL;cases fL
 have h2:=vP.1.1 h1
 rw[if_pos h2,if_pos h2,← vP.2 h2]
theorem p31 (c:aj)(s:ak)(hB:BC c):aI prog 31 [aA c,encS s] fun r=>r=.agg [.int .i64 (if aN c=0 then (qk c s).getD 0 else 0),.int .i64 (if aN c=0 then (if qk c s=none then 5 else 0) else aN c)]:=by
 have fY:=A8 c hB
 have mJ:=fun hk:aN c=0=>aI.soft (KI c hk) (rj _)
 have fE:=fun (hk:aN c=0) L hs=>Gt c L hk hs
 have sE:=fun (hk:aN c=0) L hs=>S0 c L hk hs
 have hC:cu c=(cQ c):=rfl
 obtain⟨e,he⟩:∃e,aN c=e:=⟨_,rfl⟩
 have bR:=he
 rw[he] at fY ⊢
 unfold aA at fY mJ fE sE ⊢
 unfold encS
 rw[hC] at fY mJ fE sE ⊢
 refine .bJ func31 rfl rfl ?_
 refine .sr ?_
 refine .seq (.ar [0,1,2] rfl ae (.rn [0] _ ?_))
 refine .pc rfl rfl rfl rfl rfl call66 (fY) ?_
 refine .rn [2] [] ?_
 refine .done (.seq (.sr ?_))
 refine .cs ?_ ?_<;>intro gz
 ·try simp at gz
  refine .sr ?_
  refine .ret (ax ?_)
  rw[if_neg gz,if_neg gz]
 try simp at gz
 subst gz
 have aP:=fC bR
 have mJ:=mJ bR
 have Lo:=Sub.graph c
 have fE:=fE bR _ Lo
 have sE:=sE bR _ Lo
 have Ib:=z6v aP s
 unfold Gv at Ib
 have S1:=Lo.len aP
 have cS:∀x∈graph c,x.i≤c.t.length∧x.j≤c.c.length∧x.i'≤c.t.length∧x.j'≤c.c.length∧0≤x.n∧x.n≤100:=fun x hx=>by
  obtain⟨h1,h2,h3⟩:=JL aP hx
  exact⟨h2,h3,h1.it,h1.jt,h1.n0,h1.n1⟩
 have oM:∀a b,0≤gn (graph c) a b∧gn (graph c) a b≤1073741824:=fun a b=>Ln aP Lo a b
 have re:∀a b,0≤jG c.t.length c.c.length (graph c) a b∧jG c.t.length c.c.length (graph c) a b≤1073741824:=fun a b=>S2 (K:=graph c) (fun x hx=>(cS x hx).2.2.2.2.1) (fun x hx=>hx) a b
 obtain⟨L,hL⟩:∃L,graph c=L:=⟨_,rfl⟩
 rw[hL] at mJ fE sE Ib S1 cS oM re
 obtain⟨DF,x8⟩:∃D,gn L=D:=⟨_,rfl⟩
 obtain⟨DT,CQ⟩:∃D,jG c.t.length c.c.length L=D:=⟨_,rfl⟩
 rw[x8,CQ] at sE Ib
 rw[x8] at fE oM
 rw[CQ] at re
 have tR:=oM c.t.length c.c.length
 obtain⟨le,hle⟩:∃x,DF c.t.length c.c.length=x:=⟨_,rfl⟩
 rw[hle] at fE Ib tR
 have lL:∀(D:Nat→Nat→Int) (x:ay),x∈L→mH [.int .i64 x.i,.int .i64 x.j] (aR (places c) D)=some (some (.int .i64 (D x.i x.j)))∧mH [.int .i64 x.i',.int .i64 x.j'] (aR (places c) D)=some (some (.int .i64 (D x.i' x.j'))):=fun D x hx=>by
  obtain⟨h1,h2,h3,h4,_⟩:=cS x hx
  exact⟨CR h1 h2 D,CR h3 h4 D⟩
 simp only[if_true]
 rw[← Ib]
 clear Ib hL Lo x8 CQ hle he bR
 refine .skip (.seq (.ar [0,1,2] rfl ae (.rn [0] _ ?_)))
 refine .pc rfl rfl rfl rfl rfl call97 (mJ) ?_
 refine .rn [2] [] ?_
 refine .done (.seq (.ar js rfl ae ?_))
 refine .rn [0,1] _ ?_
 refine .pc rfl rfl rfl rfl rfl call98 (sE) ?_
 refine .rn [3,4,5,6,7] [] ?_
 refine .done (.seq (.sr ?_))
 refine .block ?_
 refine .cZ (fun k:Nat=>([(2,.ptr 0 0),(3,.ptr 1 0),(4,.ptr 2 0),(6,.vec (L.map bZ)),(7,.aG (aR (places c) DF)),(8,.aG (aR (places c) DT)),(9,.int .i64 k)],⟨3,[(2,.box [.int .i64 0,.int .i64 0]),(1,.box [.int .i64 s.k,.int .i64 s.a,.int .i64 s.i,.int .i64 s.l,.int .i64 s.w]),(0,.box (cQ c))]⟩)) (fun k=>k≤L.length∧(L.take k).find? (fun x=>kV s x)=none) (fun k=>L.length - k) 0 ⟨Nat.zero_le _,rfl⟩ aX ?_
 rintro k ⟨ee,po⟩
 simp only at ee po ⊢
 refine .seq (.sr ?_)
 refine .cs ?_ ?_<;>intro fg
 ·try simp at fg
  have qA:IntKind.i64.wrap ((k:Int)+1)=((k+1:Nat):Int):=by rw[wrap64 (by omega) (by omega)];omega
  have dm:k<L.length:=by omega
  obtain⟨x,hx⟩:∃x,L[k]?=some x:=⟨_,List.getElem?_eq_getElem dm⟩
  have ic:L[k]=x:=(List.getElem?_eq_some_iff.1 hx).2
  have Bf:=List.mem_of_getElem? hx
  obtain⟨h1,h2,h3,h4,h5,h6⟩:=cS x Bf
  have dp:=z7g hx po
  have eM:=oM x.i x.j
  have cr:=re x.i' x.j'
  have qf:=(lL DF x Bf).1
  have nH:=(lL DT x Bf).2
  obtain⟨xk,xa,xi,xl,xw,hD,iW,_⟩:=Ss x
  have iW:=iW s
  obtain⟨b0,oY⟩:∃b,(xk==s.k)=b:=⟨_,rfl⟩
  obtain⟨b1,S3⟩:∃b,(xa==s.a)=b:=⟨_,rfl⟩
  obtain⟨b2,S4⟩:∃b,(xi==s.i)=b:=⟨_,rfl⟩
  obtain⟨b3,nq⟩:∃b,(xl==s.l)=b:=⟨_,rfl⟩
  obtain⟨b4,wD⟩:∃b,(xw==s.w)=b:=⟨_,rfl⟩
  rw[oY,S3,S4,nq,wD] at iW
  obtain⟨xb,lU⟩:∃b,x.s.isNone = !b:=⟨!x.s.isNone,by simp⟩
  rw[lU,Bool.not_not] at iW
  rw[lU] at hD
  obtain⟨v1,iF⟩:∃v,DF x.i x.j=v:=⟨_,rfl⟩
  obtain⟨v2,eZ⟩:∃v,DT x.i' x.j'=v:=⟨_,rfl⟩
  rw[iF] at eM qf
  rw[eZ] at cr nH
  have Jm:IntKind.i64.wrap (v1+x.n)=v1+x.n:=wrap64 (by omega) (by omega)
  have sA:IntKind.i64.wrap (v1+x.n+v2)=v1+x.n+v2:=wrap64 (by omega) (by omega)
  have By:IntKind.i64.wrap (v1+x.n+v2 - le)=v1+x.n+v2 - le:=wrap64 (by omega) (by omega)
  obtain⟨kb,qx⟩:∃b,kV s x=b:=⟨_,rfl⟩
  rw[qx] at dp iW
  clear cS oM re lL lU qx
  refine .skip (.seq (.block (.seq ?_)))
  refine .drawn (ms:=[0,0,3,7,15,31,63,127,127,511,1023,2047,127,8191,16383]) (W:=[]) (items:=P4) rfl ae ae ae ?_
  iterate 7 refine .rx ?_
  refine .split (t:=36) rfl (fun gJ=>?_) (fun gJ=>?_)
  ·try subst gJ
   try simp at gJ
   iterate 8 refine .rx ?_
   refine .done ?_
   refine .cs ?_ ?_<;>intro qC
   ·try simp at qC
    refine .seq ?_
    refine .drawn (ms:=[0,0,0,6,14,30,63,0,0,384,896,1920,4095,0,0,0,49152,114688,245760,516096,1048575,0,0,6291456,16777215,33554431,67108863]) (W:=[23,26]) (items:=[.op 0,.op 1,.op 2,.op 3,.op 4,.op 5,.op 6,.op 7,.op 8,.op 9,.op 10,.op 11,.op 12,.op 13,.op 14,.op 15,.op 16,.op 17,.op 18,.op 19,.op 20,.op 21,.op 22,.op 23,.ck 19,.ck 18,.ck 11,.ck 6,.ck 5,.op 24,.op 25,.op 26]) rfl ae ae ae ?_
    iterate 23 refine .rx ?_
    refine .wp rfl rfl rfl rfl rfl call91 (fE) ?_
    refine .ck rfl eQ ?_
    refine .ck rfl eQ ?_
    refine .ck rfl eQ ?_
    refine .ck rfl eQ ?_
    refine .ck rfl eQ ?_
    iterate 2 refine .rx ?_
    refine .wv ?_
    refine .done (.ret (ax ?_))
    obtain rfl:kb=true:=by rw[iW];revert qC;cases b0<;>cases b1<;>cases b2<;>cases b3<;>cases b4<;>simp
    rw[xce dp]
    simp[iF,eZ]
   try simp at qC
   refine .skip (.rn ?_)
   obtain rfl:kb=false:=by rw[iW];revert qC;cases b0<;>cases b1<;>cases b2<;>cases b3<;>cases b4<;>simp
   clear iW
   refine⟨k+1,⟨by omega,by rw[dp];rfl⟩,ba,?_⟩
   exact aX
  try subst gJ
  try simp at gJ
  iterate 7 refine .ux ?_
  refine .rx ?_
  refine .done (.gI rfl (.skip (.rn ?_)))
  obtain rfl:kb=false:=by rw[iW];rfl
  clear iW
  refine⟨k+1,⟨by omega,by rw[dp];rfl⟩,ba,?_⟩
  exact aX
 try simp at fg
 obtain rfl:k=L.length:=by omega
 rw[List.take_length] at po
 refine .exit (.sr ?_)
 refine .ret (ax ?_)
 rw[po];rfl
end
attribute [local simp] cQ bQ cw ef dD
theorem xbj {c:aj}(hf:pV c=true)(hk:aN c=0):(graph c).length≤1344:=by
 unfold pV at hf
 have hf:=of_decide_eq_true hf
 have e1:c.t.length≤7∧c.c.length≤7:=by
  rcases hf.2 with h|h
  ·exact h
  exact absurd hk h
 have h1:=S5 (fun p:Nat×Nat=>steps c p.1 p.2) (c.t.length+c.g.length+4) (places c) fun p hp=>by
  unfold places at hp
  simp only[List.mem_flatMap,List.mem_map,List.mem_range] at hp
  obtain⟨i,hi,j,hj,rfl⟩:=hp
  exact KF c i j (by omega)
 rw[YW] at h1
 have h2:(c.t.length+1)*(c.c.length+1)≤8*8:=Nat.mul_le_mul (by omega) (by omega)
 have h3:(c.t.length+1)*(c.c.length+1)*(c.t.length+c.g.length+4)≤8*8*21:=Nat.mul_le_mul h2 (by omega)
 exact Nat.le_trans h1 h3
variable [bE] in
theorem p4 (hN:Names)(c:aj)(s:ak)(hB:BC c):aI prog 4 [aA c,encS s] fun r=>r=.bool true:=by
 have iX:=Gg hN
 have tH:=SV c hB
 have kB:pV c=true→aN c=0→(dS c).length≤100000:=fun h1 h2=>Nat.le_trans (Nat.le_trans (Be c).sub.length_le (xbj h1 h2)) (by decide)
 have CS:=fun hq=>p27 c hB hq
 have CT:=fun hq=>p29 c hB hq
 have uv:=QR c hB
 have rY:=QS c hB
 have xo:=Qq c s hB
 have Lq:=p31 c s hB
 have xp:=Qv c s hB
 have Lr:=p33 c s hB
 have hC:cu c=(cQ c):=rfl
 have Ej:pV c=true→(if aN c=0 then gU c (ql c) else []).length<4611686018427387904:=fun h=>by
  split
  ·exact Nat.lt_of_le_of_lt (Nat.le_trans (NT c _) (kB h (by assumption))) (by decide)
  exact(by decide)
 have Ek:pV c=true→(if aN c=0 then gU c (fun _=>true) else []).length<4611686018427387904:=fun h=>by
  split
  ·exact Nat.lt_of_le_of_lt (Nat.le_trans (NT c _) (kB h (by assumption))) (by decide)
  exact(by decide)
 obtain⟨KA,ur⟩:∃A,(if aN c=0 then gU c (ql c) else [])=A:=⟨_,rfl⟩
 obtain⟨KS,uu⟩:∃A,(if aN c=0 then gU c (fun _=>true) else [])=A:=⟨_,rfl⟩
 rw[ur] at uv CS Ej
 rw[uu] at rY CT Ek
 have uv:=aI.soft uv (by simp[PV.aD,PV.az])
 have rY:=aI.soft rY (by simp[PV.aD,PV.az])
 have CS:=fun hq=>aI.soft (CS hq) (by simp[PV.aD,PV.az])
 have CT:=fun hq=>aI.soft (CT hq) (by simp[PV.aD,PV.az])
 have Ao:=fun h=>Rz KA KA (Ej h) (Ej h)
 have Ap:=fun h=>Rz KS KS (Ek h) (Ek h)
 rw[decide_eq_true rfl] at Ao Ap
 obtain⟨m1,b7⟩:∃A,(if aN c=0 then (qk c s).getD 0 else 0)=A:=⟨_,rfl⟩
 obtain⟨m2,gW⟩:∃A,(if aN c=0 then (if qk c s=none then 5 else 0) else aN c)=A:=⟨_,rfl⟩
 obtain⟨w1,lr⟩:∃A,(if aN c=0 then (if ny c s<1099511627776 then ny c s - aS c c.t.length c.c.length else 0) else 0)=A:=⟨_,rfl⟩
 obtain⟨w2,cR⟩:∃A,(if aN c=0 then (if ny c s<1099511627776 then 0 else 5) else aN c)=A:=⟨_,rfl⟩
 rw[b7,gW] at xo Lq
 rw[lr,cR] at xp Lr
 obtain⟨fb,oM⟩:∃b,pV c=b:=⟨_,rfl⟩
 rw[oM] at tH kB Ao Ap
 obtain⟨e,he⟩:∃e,aN c=e:=⟨_,rfl⟩
 rw[he] at uv CS rY CT kB
 unfold aA at tH uv CS rY CT xo Lq xp Lr ⊢
 unfold encS at xo Lq xp Lr ⊢
 rw[hC] at tH uv CS rY CT xo Lq xp Lr ⊢
 clear Ej Ek b7 gW lr cR he ur uu oM
 refine .bJ func4 rfl rfl ?_
 refine .sr ?_
 refine .seq (.seq (.ar [0,1,2] rfl ae (.rn [0] _ ?_)))
 refine .pc rfl rfl rfl rfl rfl call25 (tH) ?_
 refine .rn [2] [] ?_
 refine .done ?_
 refine .cs ?_ ?_<;>intro gG
 ·try simp at gG
  refine .seq (.ar [0,1] rfl ae ?_)
  refine .pc rfl rfl rfl rfl rfl call20 (iX) ?_
  refine .rn [1] [] ?_
  refine .done (.ret (ax ?_))
  exact zk
 try simp at gG
 have Ao:=Ao gG
 have Ap:=Ap gG
 have CS:=CS (kB gG)
 have CT:=CT (kB gG)
 refine .skip (.seq (.ar gT rfl ae (.rn [0] _ ?_)))
 refine .pc rfl rfl rfl rfl rfl call26 (uv) ?_
 refine .rn [2,3,4,5,6] [] ?_
 refine .done (.seq (.ar dQ rfl ae ?_))
 refine .rn [0] _ ?_
 refine .pc rfl rfl rfl rfl rfl call27 (CS) ?_
 refine .rn [2,3] [] ?_
 refine .done (.seq (.ar gT rfl ae ?_))
 refine .rn [0] _ ?_
 refine .pc rfl rfl rfl rfl rfl call28 (rY) ?_
 refine .rn [2,3,4,5,6] [] ?_
 refine .done (.seq (.ar dQ rfl ae ?_))
 refine .rn [0] _ ?_
 refine .pc rfl rfl rfl rfl rfl call29 (CT) ?_
 refine .rn [2,3] [] ?_
 refine .done (.seq (.ar js rfl ae ?_))
 refine .rn [0,1] _ ?_
 refine .pc rfl rfl rfl rfl rfl call30 (xo) ?_
 refine .rn [3,4,5,6,7] [] ?_
 refine .done (.seq (.ar fR rfl ae ?_))
 refine .rn [0,1] _ ?_
 refine .pc rfl rfl rfl rfl rfl call31 (Lq) ?_
 refine .rn [3,4] [] ?_
 refine .done (.seq (.ar js rfl ae ?_))
 refine .rn [0,1] _ ?_
 refine .pc rfl rfl rfl rfl rfl call32 (xp) ?_
 refine .rn [3,4,5,6,7] [] ?_
 refine .done (.seq (.ar fR rfl ae ?_))
 refine .rn [0,1] _ ?_
 refine .pc rfl rfl rfl rfl rfl call33 (Lr) ?_
 refine .rn [3,4] [] ?_
 refine .done (.seq (.ar [0,1,2,3,4,5,6,7,8,9,10,11,12,13,14,15,16,17,18,19,20,21,22,23,24,25,26,27,28,29,30,31,32,33,34,35,36,37,38,39,40,41,42,43,44,45,46,47,48,49] rfl ae ?_))
 refine .pc rfl rfl rfl rfl rfl call20 (iX) ?_
 refine .rn [1] _ ?_
 refine .split (t:=54) rfl (fun nv=>?_) (fun nv=>?_)
 ·try subst nv
  try simp at nv
  refine .rn [2,3,4] _ ?_
  refine .pc rfl rfl rfl rfl rfl call34 (Ao) ?_
  refine .rn [6,7] _ ?_
  refine .split (t:=60) rfl (fun gu=>?_) (fun gu=>?_)
  ·try subst gu
   try simp at gu
   refine .rn [8,9,10,11,12,13] _ ?_
   refine .split (t:=66) rfl (fun tz=>?_) (fun tz=>?_)
   ·try subst tz
    try simp at tz
    refine .rn [14,15,16] _ ?_
    refine .pc rfl rfl rfl rfl rfl call34 (Ap) ?_
    refine .rn [18,19] _ ?_
    refine .split (t:=72) rfl (fun zU=>?_) (fun zU=>?_)
    ·try subst zU
     try simp at zU
     refine .rn [20,21,22,23,24,25] _ ?_
     refine .split (t:=78) rfl (fun xd=>?_) (fun xd=>?_)
     ·try subst xd
      try simp at xd
      refine .rn [26,27,28,29,30,31] _ ?_
      refine .split (t:=84) rfl (fun AY=>?_) (fun AY=>?_)
      ·try subst AY
       try simp at AY
       refine .rn [32,33,34,35,36,37] _ ?_
       refine .split (t:=90) rfl (fun tJ=>?_) (fun tJ=>?_)
       ·try subst tJ
        try simp at tJ
        refine .rn [38,39,40,41,42,43] _ ?_
        refine .split (t:=96) rfl (fun tK=>?_) (fun tK=>?_)
        ·try subst tK
         try simp at tK
         refine .rn [44,45,46,47,48,49] [] ?_
         refine .done (.ret (ax ?_))
         exact zk
        try subst tK
        try simp at tK
       try subst tJ
       try simp at tJ
      try subst AY
      try simp at AY
     try subst xd
     try simp at xd
    try subst zU
    try simp at zU
   try subst tz
   try simp at tz
  try subst gu
  try simp at gu
 try subst nv
 try simp at nv
end Go.Am.Sl
end
