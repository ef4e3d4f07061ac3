/-
 What is used in the proof of a statement (part SlI19); no condition.
-/
import Derived.Test.YthnmgbgmlhackaaGreatDoorSlH
import Derived.Test.YthnmgbgmlhackaaGreatDoorSlI0
import Derived.Test.YthnmgbgmlhackaaGreatDoorSlI2
import Derived.Test.YthnmgbgmlhackaaGreatDoorSlI7
import Derived.Test.YthnmgbgmlhackaaGreatDoorSlI9
import Derived.Test.YthnmgbgmlhackaaGreatDoorSlI12
set_option linter.all false
set_option maxHeartbeats 40000000
set_option maxRecDepth 100000
section
namespace Go.Am.Sl
theorem YR {m:Nat}{i0:Int}:∀(L:List ay),(∀x∈L,x.j'≤m)→(m:Int)≤cP→(∃x∈L,(x.i:Int)<i0∧i0≤(x.i':Int))→L.foldl (kX i0) ((m:Int),0)=L.foldl (kX i0) (cP,-1)
 |[],_,_,h=>by obtain⟨x,hx,_⟩:=h;cases hx
 |x::L,hj,hm,h=>by
  rw[List.foldl_cons,List.foldl_cons]
  have h1:=hj x List.mem_cons_self
  by_cases hc:(x.i:Int)<i0∧i0≤(x.i':Int)
  ·have e:kX i0 ((m:Int),0) x=kX i0 (cP,-1) x:=by
    unfold kX
    rw[if_pos hc,if_pos hc]
    simp only[bO]
    simp only[cP] at *
    omega
   rw[e]
  have e:∀q,kX i0 q x=q:=fun q=>by unfold kX;rw[if_neg hc]
  rw[e,e]
  refine YR L (fun y hy=>hj y (List.mem_cons_of_mem _ hy)) hm ?_
  obtain⟨y,hy,h2⟩:=h
  rcases List.mem_cons.1 hy with rfl|hy
  ·exact absurd h2 hc
  exact⟨y,hy,h2⟩
theorem zy7 {c:aj}(hr:Rt c){i0:Int}(h0:0<i0)(h1:i0≤(c.t.length:Int)):(dS c).foldl (kX i0) (cP,-1)=jv c i0:=by
 unfold jv
 have:=hr.cl
 refine(YR _ (fun x hx=>(Qw hr hx).1.jt) (by simp only[cP];omega) ?_).symm
 obtain⟨k,rfl⟩:∃k:Nat,i0=k:=⟨i0.toNat,by omega⟩
 obtain⟨x,hx,h2,h3⟩:=KV (Ef hr) k (by omega) (by omega)
 exact⟨x,(Ef hr).kr x hx,by omega,by omega⟩
open Go Go.Am Go.Proofs Tryz
attribute [local simp] de fQ lz dz dN jD af.back b6 dG iO bm Nat.testBit_eq_decide_div_mod_eq ct gf jB vO kN dX kO gE cJ jR jQ kK dY kL j9 jq ly j8 kM kF kC kG kD kE kH kI jM di ig dd kP jS ka kQ kR jL ls lu dW jC dy dx dA iL dK jY jO jP gX kz a7 j7 dw bA bC ja af.get af.alloc af.put af.drop af.empty bq cg gd gR fe cp chunk List.range List.range.loop iP lA jr bI bG PV.aD PV.az PV.b8 PV.dv eu dZ kc PV.one PV.ids PV.bT fJ beq_eq lQ l9
attribute [local simp] cQ bQ cw jU Eg lD CL jE jN jc ef dD
attribute [local simp ↓ high] mG ma
theorem xjm (p q:Int):max p q=if p<q then q else p:=by
 split
 ·exact Int.max_eq_right (by omega)
 exact Int.max_eq_left (by omega)
theorem z4q {c:aj}(hr:Rt c){x:ay}(hx:x∈dS c):x.i≤c.t.length∧x.j≤c.c.length∧x.i'≤c.t.length∧x.j'≤c.c.length:=by
 obtain⟨h1,h2,h3⟩:=JL hr ((Be c).mem hx)
 exact⟨h2,h3,h1.it,h1.jt⟩
theorem xi1 (x:ay):∃k a i l w,bZ x=.agg [.int .i64 x.i,.int .i64 x.j,.int .i64 x.i',.int .i64 x.j',.int .i64 x.n,.bool x.s.isNone,.int .i64 k,.int .i64 a,.int .i64 i,.int .i64 l,.int .i64 w]:=by
 unfold bZ
 cases x.s with
 |none=>exact⟨_,_,_,_,_,rfl⟩
 |some s=>exact⟨_,_,_,_,_,rfl⟩
section
variable [bE]
theorem p35 (c:aj)(i0:Int)(hB:BC c):aI prog 35 [aA c,.int .i64 i0] fun r=>r=.agg [.int .i64 (ij c i0).1.1,.int .i64 (ij c i0).1.2,.int .i64 (ij c i0).2]:=by
 have fY:=A8 c hB
 have sy:=wZ i0 0 c.t.length
 have jy:=fun hk:aN c=0=>aI.soft (Lb c hk) (rj _)
 have hC:cu c=(cQ c):=rfl
 obtain⟨e,he⟩:∃e,aN c=e:=⟨_,rfl⟩
 have SP:e≠0→ij c i0=((0,0),e):=fun h=>by unfold ij;rw[if_pos (by rw[he];exact h),he]
 have Bg:e=0→¬(0≤i0∧i0≤(c.t.length:Int))→ij c i0=((0,0),1):=fun h h2=>by unfold ij;rw[if_neg (by simp[he,h]),if_pos h2]
 have SQ:e=0→(0≤i0∧i0≤(c.t.length:Int))→i0=0→ij c i0=((0,0),0):=fun h h2 h3=>by unfold ij;rw[if_neg (by simp[he,h]),if_neg (fun hn=>hn h2),if_pos h3]
 have SR:e=0→(0≤i0∧i0≤(c.t.length:Int))→¬i0=0→ij c i0=(jv c i0,0):=fun h h2 h3=>by unfold ij;rw[if_neg (by simp[he,h]),if_neg (fun hn=>hn h2),if_neg h3]
 obtain⟨V,hV⟩:∃V,ij c i0=V:=⟨_,rfl⟩
 rw[hV] at SP Bg SQ SR ⊢
 obtain⟨⟨V1,V2⟩,V3⟩:=V
 obtain⟨gb,SS⟩:∃b,(decide (0≤i0)&&decide (i0≤(c.t.length:Int)))=b:=⟨_,rfl⟩
 rw[SS] at sy
 have YS:gb=true↔(0≤i0∧i0≤(c.t.length:Int)):=by rw[← SS];simp
 have bR:=he
 rw[he] at fY
 unfold aA at fY jy ⊢
 rw[hC] at fY jy ⊢
 clear SS hV
 refine .bJ func35 rfl rfl ?_
 refine .sr ?_
 refine .seq (.ar [0,1,2] rfl ae (.rn [0] _ ?_))
 refine .pc rfl rfl rfl rfl rfl call66 (fY) ?_
 refine .rn [2] [] ?_
 refine .done (.seq (.sr ?_))
 refine .cs ?_ ?_<;>intro gz
 ·try simp at gz
  refine .sr ?_
  refine .ret (ax ?_)
  obtain h:=SP gz
  injection h with h1 h2
  injection h1 with h3 h4
  rw[h2,h3,h4]
 try simp at gz
 subst gz
 have aP:=fC bR
 have jy:=jy bR
 have nY:=aP.tl
 rw[Lc aP] at jy
 refine .skip (.seq (.ar kS rfl ae (.rn dQ _ ?_)))
 refine .pc rfl rfl rfl rfl rfl call99 (sy) ?_
 refine .rn [5] [] ?_
 refine .done (.seq (.sr ?_))
 refine .cs ?_ ?_<;>intro fL
 ·try simp at fL
  refine .sr ?_
  refine .ret (ax ?_)
  obtain h:=Bg rfl (fun hh=>by rw[YS.2 hh] at fL;cases fL)
  injection h with h1 h2
  injection h1 with h3 h4
  rw[h2,h3,h4]
 try simp at fL
 have dC:=YS.1 fL
 refine .skip (.seq (.sr ?_))
 refine .cs ?_ ?_<;>intro gx
 ·try simp at gx
  refine .sr ?_
  refine .ret (ax ?_)
  obtain h:=SQ rfl dC gx
  injection h with h1 h2
  injection h1 with h3 h4
  rw[h2,h3,h4]
 try simp at gx
 have hv:=SR rfl dC gx
 rw[← zy7 aP (by omega) dC.2] at hv
 have cS:∀x∈dS c,x.i≤c.t.length∧x.j≤c.c.length∧x.i'≤c.t.length∧x.j'≤c.c.length:=fun x hx=>z4q aP hx
 have H7:=(Be c).len aP
 obtain⟨L,hL⟩:∃L,dS c=L:=⟨_,rfl⟩
 rw[hL] at jy hv cS H7
 clear SP Bg SQ SR hL
 refine .skip (.seq (.ar [0,1,2] rfl ae (.rn [0] _ ?_)))
 refine .pc rfl rfl rfl rfl rfl call90 (jy) ?_
 refine .rn [2] [] ?_
 refine .done (.sr ?_)
 refine .seq (.sr ?_)
 refine .block ?_
 refine .cZ (fun z:Nat×Int×Int=>([(1,.int .i64 i0),(4,.ptr 1 0),(7,.vec (L.map bZ)),(8,.ptr 2 0),(9,.int .i64 z.1)],⟨3,[(2,.box [.int .i64 z.2.1,.int .i64 z.2.2]),(1,.box [.int .i64 0,.int .i64 0,.int .i64 0])]⟩)) (fun z=>z.1≤L.length∧(L.take z.1).foldl (kX i0) (1073741824,-1)=z.2) (fun z=>L.length - z.1) (0,1073741824,-1) ⟨Nat.zero_le _,rfl⟩ aX ?_
 rintro⟨k,q1,q2⟩ ⟨ee,hq⟩
 simp only at ee hq ⊢
 refine .seq (.sr ?_)
 refine .cs ?_ ?_<;>intro s9
 ·try simp at s9
  have qA:IntKind.i64.wrap ((k:Int)+1)=((k+1:Nat):Int):=by rw[wrap64 (by omega) (by omega)];omega
  have dm:k<L.length:=by omega
  obtain⟨x,hx⟩:∃x,L[k]?=some x:=⟨_,List.getElem?_eq_getElem dm⟩
  have ic:L[k]=x:=(List.getElem?_eq_some_iff.1 hx).2
  obtain⟨h1,h2,h3,h4⟩:=cS x (List.mem_of_getElem? hx)
  have dp:(L.take (k+1)).foldl (kX i0) (1073741824,-1)=kX i0 (q1,q2) x:=by
   rw[List.take_add_one,hx,Option.toList_some,List.foldl_append,hq];rfl
  have ji:kX i0 (q1,q2) x=if (x.i:Int)<i0∧i0≤(x.i':Int) then (if (x.j':Int)<q1 then (x.j':Int) else q1,if q2<(x.j':Int) then (x.j':Int) else q2) else (q1,q2):=by unfold kX;simp only[N8,xjm]
  obtain⟨xb,xk,xa,xi,xl,xw,hD⟩:=KM x
  obtain⟨g1,qf⟩:∃b,decide ((x.i:Int)<i0)=b:=⟨_,rfl⟩
  obtain⟨g2,nH⟩:∃b,decide (i0≤(x.i':Int))=b:=⟨_,rfl⟩
  obtain⟨n1,iA⟩:∃v,(if (x.j':Int)<q1 then (x.j':Int) else q1)=v:=⟨_,rfl⟩
  obtain⟨n2,pE⟩:∃v,(if q2<(x.j':Int) then (x.j':Int) else q2)=v:=⟨_,rfl⟩
  rw[iA,pE] at ji
  rw[ji] at dp
  clear cS
  refine .skip (.seq (.block (.seq (.ar qB rfl ae (.rn oT _ ?_)))))
  refine .split (t:=44) rfl (fun qC=>?_) (fun qC=>?_)
  ·try subst qC
   try simp at qC
   refine .rn [9,10,11,12,13,14,15,16,17] [] ?_
   refine .done ?_
   refine .cs ?_ ?_<;>intro ui
   ·try simp at ui
    refine .drawn (ms:=[0,1,0,0,12,28,60,124,255,0,512,0,0,6144,14336,30720,63488,130560,262143,524287]) (W:=[19]) (items:=Hu) rfl ae ae ae ?_
    iterate 19 refine .rx ?_
    refine .wv ?_
    refine .done (.rn ?_)
    refine⟨(k+1,n1,n2),⟨by omega,by rw[show ((k+1,n1,n2):Nat×Int×Int).1=k+1 from rfl,dp,if_pos ⟨of_decide_eq_true qf,of_decide_eq_true (nH.trans ui)⟩]⟩,ba,?_⟩
    exact aX
   try simp at ui
   refine .skip (.rn ?_)
   refine⟨(k+1,q1,q2),⟨by omega,by rw[show ((k+1,q1,q2):Nat×Int×Int).1=k+1 from rfl,dp,if_neg (fun h=>by rw[decide_eq_true h.2,ui] at nH;cases nH)]⟩,ba,?_⟩
   exact aX
  try subst qC
  try simp at qC
  refine .rn [9,10,11,12,13,14,15,16,17] [] ?_
  refine .done (.gI rfl (.skip (.rn ?_)))
  refine⟨(k+1,q1,q2),⟨by omega,by rw[show ((k+1,q1,q2):Nat×Int×Int).1=k+1 from rfl,dp,if_neg (fun h=>by rw[decide_eq_true h.1] at qf;cases qf)]⟩,ba,?_⟩
  exact aX
 try simp at s9
 obtain rfl:k=L.length:=by omega
 rw[List.take_length] at hq
 refine .exit (.sr ?_)
 refine .ret (ax ?_)
 rw[show cP=1073741824 from rfl,hq] at hv
 injection hv with h1 h2
 injection h1 with h3 h4
 rw[h2,h3,h4]
theorem p36 (c:aj)(hB:BC c):aI prog 36 [aA c] fun r=>ec r ((.agg [ints (if aN c=0 then o0 c c.t.length else []),ints (if aN c=0 then pI c c.t.length else []),.int .i64 (aN c)])):=by
 have fY:=A8 c hB
 have jy:=fun hk:aN c=0=>aI.soft (Lb c hk) (rj _)
 have fE:=fun (hk:aN c=0) L hs=>Gt c L hk hs
 have hC:cu c=(cQ c):=rfl
 obtain⟨e,he⟩:∃e,aN c=e:=⟨_,rfl⟩
 have bR:=he
 rw[he] at fY ⊢
 unfold aA at fY jy fE ⊢
 rw[hC] at fY jy fE ⊢
 have HF:o0 c 0=[]:=rfl
 have QV:pI c 0=[]:=rfl
 refine .bJ func36 rfl rfl ?_
 refine .sr ?_
 refine .seq (.ar [0,1,2] rfl ae (.rn [0] _ ?_))
 refine .pc rfl rfl rfl rfl rfl call66 (fY) ?_
 refine .rn [2] [] ?_
 refine .done (.seq (.sr ?_))
 refine .cs ?_ ?_<;>intro iy
 ·try simp at iy
  refine .sr ?_
  refine .ret (ax ?_)
  rw[if_neg iy,if_neg iy];exact Alt.lW (.cons .eH (.cons .eH (.cons (.same _ rfl) .nil)))
 try simp at iy
 subst iy
 have aP:=fC bR
 have jy:=jy bR
 have fE:=fE bR
 have nY:=aP.tl
 rw[Lc aP] at jy
 have H7:=(Be c).len aP
 have tV:=fun i:Nat=>Yc c i
 have mz:=fun i:Nat=>Yd aP i
 have mK:∀p:ay→Bool,Sub c ((dS c).filter p):=fun p=>(Be c).filter p
 have nK:∀k,o0 c (k+1)=o0 c k++if ud c k=true∧xY c k=true then [(k:Int)] else []:=fun k=>rfl
 have rT:∀k,pI c (k+1)=pI c k++if ud c k=true then [(k:Int)] else []:=fun k=>rfl
 have ll:=Kc c
 have lk:=Kd c
 obtain⟨KA,ur⟩:∃K,o0 c=K:=⟨_,rfl⟩
 obtain⟨KS,uu⟩:∃K,pI c=K:=⟨_,rfl⟩
 obtain⟨L,hL⟩:∃L,dS c=L:=⟨_,rfl⟩
 rw[hL] at jy H7 tV mz mK
 rw[ur] at HF nK lk
 rw[uu] at QV rT ll
 simp only[if_true]
 rw[ur,uu]
 clear ur uu hL
 refine .skip (.seq (.ar [0,1,2] rfl ae (.rn [0] _ ?_)))
 refine .pc rfl rfl rfl rfl rfl call90 (jy) ?_
 refine .rn [2] [] ?_
 refine .done (.sr ?_)
 refine .seq (.sr ?_)
 refine .block ?_
 refine .cZ (fun i:Nat=>([(1,.ptr 0 0),(2,.ptr 1 0),(4,.vec (L.map bZ)),(5,.ptr 2 0),(6,.int .i64 i)],⟨5,[(4,.grow 1 ((KS i).map (.int .i64))),(3,.grow 1 ((KA i).map (.int .i64))),(2,.box [.grow 3 (KA i).length true,.grow 4 (KS i).length true,.int .i64 0]),(1,.box [.aJ,.aJ,.int .i64 0]),(0,.box (cQ c))]⟩)) (fun i=>i≤c.t.length) (fun i=>c.t.length - i) 0 (Nat.zero_le _) (by rw[HF,QV];exact aX) ?_
 rintro i hi
 simp only at hi ⊢
 refine .seq (.sr ?_)
 refine .cs ?_ ?_<;>intro hP
 ·try simp at hP
  have cE:i<c.t.length:=by omega
  have cR:IntKind.i64.wrap ((i:Int)+1)=((i+1:Nat):Int):=by rw[wrap64 (by omega) (by omega)];omega
  have ll:=ll i
  have lk:=lk i
  have BW:(KS i).length+1≤4294967296:=by omega
  have hl4:(KA i).length+1≤4294967296:=by omega
  have nK:=nK i
  have rT:=rT i
  have tV:=tV i
  have mz:=mz i
  have yj:nV [PV.int .i64 (i:Int)]=true:=rfl
  refine .skip (.seq (.block (.sr ?_)))
  refine .sr ?_
  refine .seq (.sr ?_)
  refine .block ?_
  refine .cZ (fun z:Nat×Bool×List ay=>([(1,.ptr 0 0),(2,.ptr 1 0),(4,.vec (L.map bZ)),(5,.ptr 2 0),(6,.int .i64 i),(7,.bool z.2.1),(8,.grow 5 z.2.2.length true),(9,.int .i64 z.1)],⟨6,[(5,.grow 11 (z.2.2.map bZ)),(4,.grow 1 ((KS i).map (.int .i64))),(3,.grow 1 ((KA i).map (.int .i64))),(2,.box [.grow 3 (KA i).length true,.grow 4 (KS i).length true,.int .i64 0]),(1,.box [.aJ,.aJ,.int .i64 0]),(0,.box (cQ c))]⟩)) (fun z=>z.1≤L.length∧((L.take z.1).any (rZ i)=z.2.1∧(L.take z.1).filter (fun x=>!rZ i x)=z.2.2)) (fun z=>L.length - z.1) (0,false,[]) ⟨Nat.zero_le _,rfl,rfl⟩ aX ?_
  rintro⟨k,sm,D⟩ ⟨ee,H6,kh⟩
  simp only at ee H6 kh ⊢
  refine .seq (.sr ?_)
  refine .cs ?_ ?_<;>intro wX
  ·try simp at wX
   have qA:IntKind.i64.wrap ((k:Int)+1)=((k+1:Nat):Int):=by rw[wrap64 (by omega) (by omega)];omega
   have dm:k<L.length:=by omega
   obtain⟨x,hx⟩:∃x,L[k]?=some x:=⟨_,List.getElem?_eq_getElem dm⟩
   have ic:L[k]=x:=(List.getElem?_eq_some_iff.1 hx).2
   have iA:(L.take (k+1)).any (rZ i)=(sm||rZ i x):=by rw[List.take_add_one,hx,List.any_append,H6];simp
   have pE:(L.take (k+1)).filter (fun x=>!rZ i x)=D++(if rZ i x then [] else [x]):=by
    rw[List.take_add_one,hx,List.filter_append,kh]
    cases hp:rZ i x<;>simp[hp]
   have ue:D.length≤k:=by rw[← kh];exact Nat.le_trans (List.length_filter_le _ _) (by rw[List.length_take];omega)
   have qV:D.length+1≤4294967296:=by omega
   have iW:rZ i x=(x.s.isNone&&((x.i:Int)==(i:Int))):=by
    unfold rZ
    rw[Bool.eq_iff_iff,decide_eq_true_eq,bW,beq_iff_eq,Option.isNone_iff_eq_none,Int.ofNat_inj]
   obtain⟨xk,xa,xi,xl,xw,hD⟩:=xi1 x
   obtain⟨eb,qG⟩:∃b,((x.i:Int)==(i:Int))=b:=⟨_,rfl⟩
   obtain⟨xb,lU⟩:∃b,x.s.isNone=b:=⟨_,rfl⟩
   rw[lU] at hD iW
   rw[qG] at iW
   obtain⟨kb,qx⟩:∃b,rZ i x=b:=⟨_,rfl⟩
   rw[qx] at iA pE iW
   clear lU qx tV mz mK
   refine .skip (.seq (.block (.seq (.ar B2 rfl ae (.rn kS _ ?_)))))
   refine .split (t:=37) rfl (fun oB=>?_) (fun oB=>?_)
   ·try subst oB
    try simp at oB
    refine .rn [6,7,8,9,10,11,12,13,14,15] [] ?_
    refine .done (.seq (.ar fR rfl ae ?_))
    refine .rn [0,1] _ ?_
    refine .split (t:=48) rfl (fun fV=>?_) (fun fV=>?_)
    ·try subst fV
     try simp at fV
     refine .rn [2,3,4] [] ?_
     refine .done (.sr ?_)
     refine .cs ?_ ?_<;>intro ri
     ·try simp at ri
      refine .rn ?_
      refine .rn ?_
      obtain rfl:kb=false:=by rw[iW];simp[*]
      clear iW
      refine⟨(k+1,true,D++[x]),⟨by omega,by rw[iA];rfl,by rw[pE];rfl⟩,ba,?_⟩
      exact(.mk [] [(5,7)] gH gY rfl rfl rfl)
     try simp at ri
     refine .skip (.rn ?_)
     obtain rfl:kb=true:=by rw[iW];simp[*]
     clear iW
     refine⟨(k+1,true,D),⟨by omega,by rw[iA];rfl,by rw[pE];simp⟩,ba,?_⟩
     exact aX
    try subst fV
    try simp at fV
    refine .rn [2,3,4] [] ?_
    refine .done (.sr ?_)
    refine .cs ?_ ?_<;>intro ri
    ·try simp at ri
     refine .rn ?_
     refine .rn ?_
     obtain rfl:kb=false:=by rw[iW];simp[*]
     clear iW
     refine⟨(k+1,eb,D++[x]),⟨by omega,by rw[iA];simp[*],by rw[pE];rfl⟩,ba,?_⟩
     exact(.mk [] [(5,7)] gH gY rfl rfl rfl)
    try simp at ri
    refine .skip (.rn ?_)
    obtain rfl:kb=true:=by rw[iW];simp[*]
    clear iW
    refine⟨(k+1,eb,D),⟨by omega,by rw[iA];simp[*],by rw[pE];simp⟩,ba,?_⟩
    exact aX
   try subst oB
   try simp at oB
   refine .rn [6,7,8,9,10,11,12,13,14,15] [] ?_
   refine .done (.seq (.ar fR rfl ae ?_))
   refine .rn [0,1] _ ?_
   refine .split (t:=48) rfl (fun fV=>?_) (fun fV=>?_)
   ·try subst fV
    try simp at fV
    refine .rn [2,3,4] [] ?_
    refine .done (.sr ?_)
    refine .dR rfl (.rn ?_)
    refine .rn ?_
    obtain rfl:kb=false:=by rw[iW];rfl
    clear iW
    refine⟨(k+1,true,D++[x]),⟨by omega,by rw[iA];rfl,by rw[pE];rfl⟩,ba,?_⟩
    exact(.mk [] [(5,7)] gH gY rfl rfl rfl)
   try subst fV
   try simp at fV
   refine .rn [2,3,4] [] ?_
   refine .done (.sr ?_)
   refine .dR rfl (.rn ?_)
   refine .rn ?_
   obtain rfl:kb=false:=by rw[iW];rfl
   clear iW
   refine⟨(k+1,false,D++[x]),⟨by omega,by rw[iA];rfl,by rw[pE];rfl⟩,ba,?_⟩
   exact(.mk [] [(5,7)] gH gY rfl rfl rfl)
  try simp at wX
  obtain rfl:k=L.length:=by omega
  rw[List.take_length] at H6 kh
  rw[H6] at tV
  have fE:=fE _ (mK fun x=>!rZ i x)
  rw[kh] at fE mz
  obtain⟨v,hv⟩:∃v,gn D c.t.length c.c.length=v:=⟨_,rfl⟩
  rw[hv] at fE mz
  obtain⟨gA,Ei⟩:∃b,decide ((1073741824:Int)≤v)=b:=⟨_,rfl⟩
  have mz:xY c i=gA:=by rw[mz];exact Ei
  rw[tV,mz] at nK
  rw[tV] at rT
  clear mK
  refine .rec (aF:=[(1,.ptr 0 0),(2,.ptr 1 0),(4,.vec (L.map bZ)),(5,.ptr 2 0),(6,.int .i64 i),(7,.bool sm),(8,.vec (D.map bZ))]) (aZ:=⟨5,[(4,.grow 1 ((KS i).map (.int .i64))),(3,.grow 1 ((KA i).map (.int .i64))),(2,.box [.grow 3 (KA i).length true,.grow 4 (KS i).length true,.int .i64 0]),(1,.box [.aJ,.aJ,.int .i64 0]),(0,.box (cQ c))]⟩) (.mk [5] [] gH gY rfl rfl rfl) ?_
  refine .exit (.seq (.sr ?_))
  refine .cs ?_ ?_<;>intro gu
  ·try simp at gu
   subst gu
   refine .rn ?_
   refine .seq (.ar gT rfl ae (.rn [0,1] _ ?_))
   refine .split (t:=68) rfl (fun oK=>?_) (fun oK=>?_)
   ·try subst oK
    try simp at oK
    refine .rn [2,3] _ ?_
    refine .pc rfl rfl rfl rfl rfl call91 (fE) ?_
    refine .rn [5,6] [] ?_
    refine .done ?_
    refine .cs ?_ ?_<;>intro N9
    ·try simp at N9
     refine .rn ?_
     refine .rn ?_
     rw[if_pos ⟨rfl,N9⟩] at nK
     rw[if_pos rfl] at rT
     refine⟨i+1,ba,ba,by rw[rT,nK];exact(.mk [] [(3,8),(4,6)] gH gY rfl rfl rfl)⟩
    try simp at N9
    refine .skip (.rn ?_)
    rw[if_neg (fun h=>by rw[N9] at h;cases h.2),List.append_nil] at nK
    rw[if_pos rfl] at rT
    refine⟨i+1,ba,ba,by rw[rT,nK];exact(.mk [] [(4,6)] gH gY rfl rfl rfl)⟩
   try subst oK
   try simp at oK
  try simp at gu
  subst gu
  refine .skip (.seq (.ar gT rfl ae (.rn [0,1] _ ?_)))
  refine .split (t:=68) rfl (fun oK=>?_) (fun oK=>?_)
  ·try subst oK
   try simp at oK
  try subst oK
  try simp at oK
  refine .rn [2,3,4,5,6] [] ?_
  refine .done (.gI rfl (.skip (.rn ?_)))
  rw[if_neg (fun h=>by cases h.1),List.append_nil] at nK
  rw[if_neg (by simp),List.append_nil] at rT
  refine⟨i+1,ba,ba,by rw[rT,nK];exact aX⟩
 try simp at hP
 obtain rfl:i=c.t.length:=by omega
 refine .exit (.sr ?_)
 refine .ret (ax ?_)
 exact oF (by simp[PV.aD,PV.az])
end
attribute [local simp] cQ bQ cw oL ef dD
variable [bE] in
theorem p5 (hN:Names)(c:aj)(i0:Int)(hB:BC c):aI prog 5 [aA c,.int .i64 i0] fun r=>r=.bool true:=by
 have iX:=Gg hN
 have tH:=SV c hB
 have vT:=Qz c i0 hB
 have Ld:=p35 c i0 hB
 have vk:=QU c hB
 have Gu:=p36 c hB
 have hC:cu c=(cQ c):=rfl
 have hl:=hB.ht
 have Ej:(if aN c=0 then o0 c c.t.length else []).length<4611686018427387904:=by
  split
  ·exact Nat.lt_of_le_of_lt (Kd c _) hl
  exact(by decide)
 have Ek:(if aN c=0 then pI c c.t.length else []).length<4611686018427387904:=by
  split
  ·exact Nat.lt_of_le_of_lt (Kc c _) hl
  exact(by decide)
 obtain⟨KA,ur⟩:∃A,(if aN c=0 then o0 c c.t.length else [])=A:=⟨_,rfl⟩
 obtain⟨KS,uu⟩:∃A,(if aN c=0 then pI c c.t.length else [])=A:=⟨_,rfl⟩
 rw[ur,uu] at vk Gu
 rw[ur] at Ej
 rw[uu] at Ek
 have vk:=aI.soft vk (by simp[PV.aD,PV.az])
 have Gu:=aI.soft Gu (by simp[PV.aD,PV.az])
 have Lg:=KD KA KA Ej Ej
 have Lh:=KD KS KS Ek Ek
 rw[decide_eq_true rfl] at Lg Lh
 obtain⟨e,he⟩:∃e,aN c=e:=⟨_,rfl⟩
 rw[he] at vk Gu
 obtain⟨⟨⟨V1,V2⟩,V3⟩,hV⟩:∃V,ij c i0=V:=⟨_,rfl⟩
 rw[hV] at vT Ld
 simp only at vT Ld
 obtain⟨fb,oM⟩:∃b,pV c=b:=⟨_,rfl⟩
 rw[oM] at tH
 unfold aA at tH vT Ld vk Gu ⊢
 rw[hC] at tH vT Ld vk Gu ⊢
 clear oM hV he ur uu hl
 refine .bJ func5 rfl rfl ?_
 refine .sr ?_
 refine .seq (.seq (.ar [0,1,2] rfl ae (.rn [0] _ ?_)))
 refine .pc rfl rfl rfl rfl rfl call25 (tH) ?_
 refine .rn [2] [] ?_
 refine .done ?_
 refine .cs ?_ ?_<;>intro iy
 ·try simp at iy
  refine .seq (.ar [0,1] rfl ae ?_)
  refine .pc rfl rfl rfl rfl rfl call20 (iX) ?_
  refine .rn [1] [] ?_
  refine .done (.ret (ax ?_))
  exact zk
 try simp at iy
 refine .skip (.seq (.ar oT rfl ae (.rn [0,1] _ ?_)))
 refine .pc rfl rfl rfl rfl rfl call24 (vT) ?_
 refine .rn [3,4,5,6,7,8] [] ?_
 refine .done (.seq (.ar fR rfl ae ?_))
 refine .rn [0,1] _ ?_
 refine .pc rfl rfl rfl rfl rfl call35 (Ld) ?_
 refine .rn [3,4] [] ?_
 refine .done (.seq (.ar oT rfl ae ?_))
 refine .rn [0] _ ?_
 refine .pc rfl rfl rfl rfl rfl call22 (vk) ?_
 refine .rn [2,3,4,5,6,7,8] [] ?_
 refine .done (.seq (.ar dQ rfl ae ?_))
 refine .rn [0] _ ?_
 refine .pc rfl rfl rfl rfl rfl call36 (Gu) ?_
 refine .rn [2,3] [] ?_
 refine .done (.seq (.ar [0,1,2,3,4,5,6,7,8,9,10,11,12,13,14,15,16,17,18,19,20,21,22,23,24,25,26,27,28,29,30,31] rfl ae ?_))
 refine .pc rfl rfl rfl rfl rfl call20 (iX) ?_
 refine .rn [1] _ ?_
 refine .split (t:=34) rfl (fun oa=>?_) (fun oa=>?_)
 ·try subst oa
  try simp at oa
  refine .rn [2,3,4,5,6,7] _ ?_
  refine .split (t:=40) rfl (fun jW=>?_) (fun jW=>?_)
  ·try subst jW
   try simp at jW
   refine .rn [8,9,10,11,12,13] _ ?_
   refine .split (t:=46) rfl (fun Bc=>?_) (fun Bc=>?_)
   ·try subst Bc
    try simp at Bc
    refine .rn [14,15,16] _ ?_
    refine .pc rfl rfl rfl rfl rfl call37 (Lg) ?_
    refine .rn [18,19] _ ?_
    refine .split (t:=52) rfl (fun ri=>?_) (fun ri=>?_)
    ·try subst ri
     try simp at ri
     refine .rn [20,21,22] _ ?_
     refine .pc rfl rfl rfl rfl rfl call37 (Lh) ?_
     refine .rn [24,25] _ ?_
     refine .split (t:=58) rfl (fun vJ=>?_) (fun vJ=>?_)
     ·try subst vJ
      try simp at vJ
      refine .rn [26,27,28,29,30,31] [] ?_
      refine .done (.ret (ax ?_))
      exact zk
     try subst vJ
     try simp at vJ
    try subst ri
    try simp at ri
   try subst Bc
   try simp at Bc
  try subst jW
  try simp at jW
 try subst oa
 try simp at oa
end Go.Am.Sl
end
