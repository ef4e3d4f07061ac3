/-
 What is used in the proof of a statement (part SlH); no condition.
-/
import Derived.Test.YthnmgbgmlhackaaGreatDoorSlZ
import Derived.Test.YthnmgbgmlhackaaGreatDoorVm2
import Derived.Test.YthnmgbgmlhackaaGreatDoorSlT
import Derived.Test.YthnmgbgmlhackaaGreatDoorSlG
set_option linter.all false
set_option maxHeartbeats 40000000
set_option maxRecDepth 100000
section
namespace Go.Am.Sl
open Go Go.Am Go.Proofs Tryz
attribute [local simp] eQ ij pV dH gk mz ai.back cS fW lg bm Nat.testBit_eq_decide_div_mod_eq cC iE mw vO ph gF pj iP cU nG nF pe gG pf n4 lZ pT n3 pg o7 o4 o8 o5 o6 o9 pa mR eZ jW eP pn nH oc po pq mQ pR pS gE my fK fy fL kV gg nS nv ny jF oR bj nZ fx bP bK lD ai.get ai.alloc ai.put ai.drop ai.empty bt cZ iw jn gA cz chunk List.range List.range.loop lh pW l9 bI b6 PV.aG PV.aF PV.dc PV.fu gY gH od PV.one PV.ids PV.cF gI beq_eq qD rE
attribute [local simp] cQ bQ fN pZ ti p7 p9 pw gJ fI
attribute [local simp ↓ high] sD rJ PI
def gu (x:aK):PV:=match x.s with
 |some s=>.agg [.int .i64 x.i,.int .i64 x.j,.int .i64 x.i',.int .i64 x.j',.int .i64 x.n,.bool false,.int .i64 s.k,.int .i64 s.a,.int .i64 s.i,.int .i64 s.l,.int .i64 s.w]
 |none=>.agg [.int .i64 x.i,.int .i64 x.j,.int .i64 x.i',.int .i64 x.j',.int .i64 x.n,.bool true,.int .i64 0,.int .i64 0,.int .i64 0,.int .i64 0,.int .i64 0]
theorem xdg (i j i' j':Nat)(n:Int)(s:aq):gu ⟨i,j,i',j',n,some s⟩=.agg [.int .i64 i,.int .i64 j,.int .i64 i',.int .i64 j',.int .i64 n,.bool false,.int .i64 s.k,.int .i64 s.a,.int .i64 s.i,.int .i64 s.l,.int .i64 s.w]:=rfl
theorem xdi (i j i' j':Nat)(n:Int):gu ⟨i,j,i',j',n,none⟩=.agg [.int .i64 i,.int .i64 j,.int .i64 i',.int .i64 j',.int .i64 n,.bool true,.int .i64 0,.int .i64 0,.int .i64 0,.int .i64 0,.int .i64 0]:=rfl
attribute [local simp] xdg xdi
theorem zzm (c:aj)(i j:Nat):(i<c.t.length∧j<c.c.length∧c.t.getD i 0=c.c.getD j 0)∨¬i<c.t.length∨(i<c.t.length∧¬j<c.c.length)∨(i<c.t.length∧j<c.c.length∧¬c.t.getD i 0=c.c.getD j 0):=by
 by_cases h1:i<c.t.length
 ·by_cases h2:j<c.c.length
  ·by_cases h3:c.t.getD i 0=c.c.getD j 0
   ·exact .inl ⟨h1,h2,h3⟩
   exact .inr (.inr (.inr ⟨h1,h2,h3⟩))
  exact .inr (.inr (.inl ⟨h1,h2⟩))
 exact .inr (.inl h1)
theorem z4a (x:aK):(gu x).cells.length=11:=by unfold gu;split<;>rfl
@[simp] theorem xb8 (l:List aK):lC 11 (l.map gu)=true:=zB (f:=gu) (n:=11) z4a l
@[simp] theorem z8z (l:List aK):ma (l.map gu)=true:=zC (f:=gu) (fun x=>by unfold gu;split<;>simp[PV.one]) l
theorem EG (l:List aK):(PV.vec (l.map gu)).aG=true:=by simp[PV.aG]
theorem VG (l:List aq):(PV.vec (l.map encS)).aG=true:=by simp[PV.aG]
theorem VH {α β:Type}{f g:α→Option β}:∀ {l:List α},(∀x∈l,f x=g x)→l.filterMap f=l.filterMap g
 |[],_=>rfl
 |a::r,h=>by rw[List.filterMap_cons,List.filterMap_cons,h a List.mem_cons_self,VH fun x hx=>h x (List.mem_cons_of_mem _ hx)]
theorem z2o (c:aj)(i j:Nat):steps c i j=cr c i j++(pB c i j).filterMap (stepOf c i j):=by
 unfold steps cr pB
 congr 1
 rw[List.filterMap_filter]
 refine VH ?_
 intro s hs
 unfold mX stepOf
 have h2:=(Et hs).2
 cases hd:aJ c s with
 |none=>simp
 |some x=>
  obtain⟨n,i',w⟩:=x
  simp only
  rw[h2,Int.toNat_natCast]
  split<;>rfl
theorem zzz {c:aj}{i j:Nat}{s:aq}(h:s∈pB c i j):s.i=j∧∃n i' w,aJ c s=some (n,i',w)∧stepOf c i j s=some ⟨i,j,i',j+w.length,n,some s⟩:=by
 unfold pB at h
 rw[List.mem_filter] at h
 have h2:=(Et h.1).2
 refine⟨h2,?_⟩
 have h3:=h.2
 unfold mX at h3
 unfold stepOf
 cases hd:aJ c s with
 |none=>rw[hd] at h3;cases h3
 |some x=>
  obtain⟨n,i',w⟩:=x
  rw[hd] at h3
  simp only at h3
  rw[h2,Int.toNat_natCast] at h3
  exact⟨n,i',w,rfl,by simp only;rw[if_pos h3]⟩
theorem L6 {s:aq}{j:Nat}{w:List Int}(h:s.i=j)(hj:j≤100)(hw:w.length≤100):j3 s w=((j+w.length:Nat):Int):=by
 unfold j3
 rw[h]
 split
 ·rename_i hh;rw[hh];simp
 rw[wrap64 (by omega) (by omega)];omega
theorem zwg (c:aj)(i j:Nat)(hi:i≤c.t.length):(pB c i j).length≤c.t.length+c.g.length+4:=by
 have h1:=L7 c i j hi
 have h2:(pB c i j).length≤(lG c i j).length:=List.length_filter_le _ _
 have h3:(lG c i j).length≤c.t.length+c.g.length+3:=by
  unfold lG
  simp only[List.length_append,List.length_map,List.length_range,List.length_singleton]
  have a1:(if j<c.c.length then [(⟨1,i,j,0,c.c.getD j 0⟩:aq)] else []).length≤1:=by split<;>simp
  have a2:(if j<c.c.length then [(⟨6,i,j,0,c.c.getD j 0⟩:aq)] else []).length≤1:=by split<;>simp
  omega
 omega
theorem z7r (c:aj)(i j:Nat):(cr c i j).length≤1:=by unfold cr;split<;>simp
def vw (c:aj)(i j k:Nat):List aK:=cr c i j++((pB c i j).take k).filterMap (stepOf c i j)
theorem z3c (c:aj)(i j:Nat):vw c i j 0=cr c i j:=by unfold vw;simp
theorem z2u {c:aj}{i j k:Nat}(h:k<(pB c i j).length){x:aK}(hx:stepOf c i j (pB c i j)[k]=some x):vw c i j (k+1)=vw c i j k++[x]:=by
 unfold vw
 rw[List.take_succ_eq_append_getElem h,List.filterMap_append,List.append_assoc]
 congr 2
 simp[hx]
theorem z9q (c:aj)(i j:Nat):vw c i j (pB c i j).length=steps c i j:=by unfold vw;rw[List.take_length,← z2o]
theorem z8s (c:aj)(i j k:Nat):(vw c i j k).length≤k+1:=by
 unfold vw
 have h1:=z7r c i j
 have h2:(((pB c i j).take k).filterMap (stepOf c i j)).length≤((pB c i j).take k).length:=List.length_filterMap_le _ _
 rw[List.length_take] at h2
 rw[List.length_append]
 omega
def yp (c:aj)(i j:Nat):List aK:=(List.range j).flatMap fun j=>steps c i j
def Bx (c:aj)(i:Nat):List aK:=(List.range i).flatMap fun i=>yp c i (c.c.length+1)
theorem VI (c:aj)(i j:Nat):yp c i (j+1)=yp c i j++steps c i j:=by unfold yp;rw[List.range_succ,List.flatMap_append];simp
theorem VJ (c:aj)(i:Nat):Bx c (i+1)=Bx c i++yp c i (c.c.length+1):=by unfold Bx;rw[List.range_succ,List.flatMap_append];simp
theorem xfh (c:aj):Bx c (c.t.length+1)=graph c:=by
 unfold Bx yp graph places
 rw[List.flatMap_assoc]
 congr 1
 funext i
 rw[List.flatMap_map]
theorem P5 (c:aj)(hr:Rt c)(i:Nat)(hi:i≤c.t.length):∀j,(yp c i j).length≤j*58
 |0=>by simp[yp]
 |j+1=>by
  have h1:=L7 c i j hi
  have h2:=P5 c hr i hi j
  have h3:=hr.tl
  have h4:=hr.wc
  rw[VI,List.length_append]
  omega
theorem VK (c:aj)(hr:Rt c):∀i,i≤c.t.length+1→(Bx c i).length≤i*2842
 |0,_=>by simp[Bx]
 |i+1,h=>by
  have h1:=P5 c hr i (by omega) (c.c.length+1)
  have h2:=VK c hr i (by omega)
  have h3:=hr.cl
  rw[VJ,List.length_append]
  omega
section
variable [bF]
theorem xga (c:aj)(i j:Nat)(hk:bl c=0)(hi:i≤c.t.length)(hj:j≤c.c.length):aN prog 125 [aH c,.int .i64 i,.int .i64 j] fun r=>r=.vec ((pB c i j).map encS):=by
 have h:=P1 c i j hk hi hj
 rw[z0g c i j hi] at h
 refine aN.soft (v:=.vec ((pB c i j).map encS)) (h.mono fun r _ hr=>⟨hr.1,?_⟩) (VG _)
 show eR r _
 rw[hr.2]
 unfold eL
 split
 ·rename_i hn;rw[hn];exact .dC
 exact oB (VG _)
theorem P6 (c:aj)(i j:Nat)(hk:bl c=0)(hi:i≤c.t.length)(hj:j≤c.c.length):aN prog 145 [aH c,.agg [.int .i64 i,.int .i64 j]] fun r=>eR r ((.vec ((steps c i j).map gu))):=by
 have bo:=gR hk
 have oh:=bo.tl
 have eM:=bo.cl
 have sE:=bo.wc
 have hC:cR c=(cQ c):=rfl
 have hE:∀s:aq,encS s=.agg [.int .i64 s.k,.int .i64 s.a,.int .i64 s.i,.int .i64 s.l,.int .i64 s.w]:=fun _=>rfl
 have cG:=fun s=>EC c s hk
 have tL:=xga c i j hk hi hj
 have fU:=zwg c i j hi
 have rY:=@z2u c i j
 have mj:=z8s c i j
 have IV:=z9q c i j
 have dz:=z3c c i j
 have IW:=@zzz c i j
 unfold aH at cG tL ⊢
 rw[hC] at cG tL ⊢
 obtain⟨S,hS⟩:∃S,pB c i j=S:=⟨_,rfl⟩
 rw[hS] at tL fU rY IV IW
 refine .bT func145 rfl rfl ?_
 rcases zzm c i j with P7|dy|⟨dy,ec⟩|⟨dy,ec,heq⟩
 ·
  obtain⟨dy,ec,heq⟩:=P7
  obtain⟨x,hx⟩:∃x,c.t[i]?=some x:=⟨_,List.getElem?_eq_getElem dy⟩
  have lV:c.t[i]=x:=(List.getElem?_eq_some_iff.1 hx).2
  have P8:c.c[j]?=some x:=by
   rw[List.getD_eq_getElem?_getD,hx,List.getD_eq_getElem?_getD,List.getElem?_eq_getElem ec] at heq
   rw[List.getElem?_eq_getElem ec];simp only[Option.getD_some] at heq;rw[heq]
  have yal:c.c[j]=x:=(List.getElem?_eq_some_iff.1 P8).2
  have eG:cr c i j=[⟨i,j,i+1,j+1,0,none⟩]:=if_pos ⟨dy,ec,heq⟩
  have lX:IntKind.i64.wrap ((i:Int)+1)=((i+1:Nat):Int):=by rw[wrap64 (by omega) (by omega)];omega
  have qF:IntKind.i64.wrap ((j:Int)+1)=((j+1:Nat):Int):=by rw[wrap64 (by omega) (by omega)];omega
  refine .sr ?_
  refine .sr ?_
  refine .seq (.seq ?_)
  refine .drawn (ms:=[0,1,0,4,12,31,63,127,255,127,639,1663,4095,8191,16383,32767,65535,32767,163839,524287,1048575,32767,2129919,32767,8421375,31490047,65044479,134217727,268435455]) (W:=[]) (items:=F0) rfl ae ae ae ?_
  iterate 7 refine .rx ?_
  refine .split (t:=15) rfl (fun cI=>?_) (fun cI=>?_)
  ·try subst cI
   try simp at cI
   iterate 8 refine .rx ?_
   refine .split (t:=23) rfl (fun fS=>?_) (fun fS=>?_)
   ·try subst fS
    try simp at fS
    iterate 14 refine .rx ?_
    refine .done ?_
    refine .cs ?_ ?_<;>intro nK
    ·try simp at nK
     refine .rn ?_
     refine .seq (.ay ik rfl ae (.rn gQ _ ?_))
     refine .pc rfl rfl rfl rfl rfl call125 (tL) ?_
     refine .rn [6] [] ?_
     refine .done (.seq (.sr ?_))
     refine .block ?_
     refine .dw (fun z:Nat×List aK=>([(2,.ptr 0 0),(3,.ptr 1 0),(5,.grow 3 z.2.length true),(6,.vec (S.map encS)),(7,.int .i64 z.1)],⟨4,[(3,.grow 11 (z.2.map gu)),(1,.box [.int .i64 i,.int .i64 j]),(0,.box (cQ c))]⟩)) (fun z=>z.1≤S.length∧vw c i j z.1=z.2) (fun z=>S.length - z.1) (0,[⟨i,j,i+1,j+1,0,none⟩]) (by simp[dz,eG]) bn ?_
     rintro⟨k,D⟩ ⟨fO,hD⟩
     simp only at fO hD ⊢
     have mj:=mj k
     rw[hD] at mj
     refine .seq (.sr ?_)
     refine .cs ?_ ?_<;>intro qk
     ·try simp at qk
      have et:IntKind.i64.wrap ((k:Int)+1)=((k+1:Nat):Int):=by rw[wrap64 (by omega) (by omega)];omega
      have ki:k<S.length:=by omega
      obtain⟨s,hs⟩:∃s,S[k]?=some s:=⟨_,List.getElem?_eq_getElem ki⟩
      have gy:S[k]=s:=(List.getElem?_eq_some_iff.1 hs).2
      obtain⟨nX,n,i',w,hd,cN⟩:=IW (List.mem_of_getElem? hs)
      have rY:=rY ki (by rw[gy];exact cN)
      rw[hD] at rY
      have zr:=L6 nX (by omega) (show w.length≤100 by have:=(kN bo hd).2.2.2.2.2;omega)
      clear nX
      have cG:=cG s
      rw[hE] at cG
      have x8:D.length+1≤4294967296:=by omega
      refine .skip (.seq (.block (.seq ?_)))
      refine .tf (ms:=[0,0,0,6,14,31,0,127]) (W:=[5,7]) (As:=[6]) (items:=rX) rfl ae ae ae ae (by decide) ?_
      iterate 5 refine .rf ?_
      refine .al rfl rfl (by decide) (by decide) (by decide) (by decide) eX ?_
      refine .wr rfl rfl (by decide) (.pure rfl rfl rfl call126 (by decide) (cG) (by first|rfl|simp[*]) ?_)
      intro _ e;rw[jC hd,zr] at e;subst e
      refine .wr rfl rfl (by decide) (.dH eX (by decide) ?_)
      refine .done ?_
      refine .drawn (ms:=[0,0,0,4,0,16,0,0,192,448,1022,2046,4095,8191]) (W:=[11,12]) (items:=zG) rfl ae ae ae ?_
      iterate 11 refine .rx ?_
      refine .wv ?_
      refine .wv ?_
      refine .rx ?_
      refine .done (.rn ?_)
      refine⟨(k+1,D++[⟨i,j,i',j+w.length,n,some s⟩]),⟨by omega,rY⟩,bp,?_⟩
      exact(.mk [] [(3,6)] ia ix rfl rfl rfl)
     try simp at qk
     obtain rfl:k=S.length:=by omega
     rw[IV] at hD
     refine .exit (.sr ?_)
     refine .ret (au ?_)
     show eR _ _
     rw[hD];exact oB (EG _)
    try simp at nK
   try subst fS
   try simp at fS
  try subst cI
  try simp at cI
 ·
  have eG:cr c i j=[]:=if_neg (fun hh=>dy hh.1)
  refine .sr ?_
  refine .sr ?_
  refine .seq (.seq ?_)
  refine .drawn (ms:=[0,1,0,4,12,31,63,127,255,127,639,1663,4095,8191,16383,32767,65535,32767,163839,524287,1048575,32767,2129919,32767,8421375,31490047,65044479,134217727,268435455]) (W:=[]) (items:=F0) rfl ae ae ae ?_
  iterate 7 refine .rx ?_
  refine .split (t:=15) rfl (fun cI=>?_) (fun cI=>?_)
  ·try subst cI
   try simp at cI
  try subst cI
  try simp at cI
  iterate 6 refine .ux ?_
  iterate 2 refine .rx ?_
  iterate 13 refine .ux ?_
  refine .rx ?_
  refine .done (.fD rfl (.skip (.seq ?_)))
  refine .ay ik rfl ae (.rn gQ _ ?_)
  refine .pc rfl rfl rfl rfl rfl call125 (tL) ?_
  refine .rn [6] [] ?_
  refine .done (.seq (.sr ?_))
  refine .block ?_
  refine .dw (fun z:Nat×List aK=>([(2,.ptr 0 0),(3,.ptr 1 0),(5,.grow 3 z.2.length true),(6,.vec (S.map encS)),(7,.int .i64 z.1)],⟨4,[(3,.grow 11 (z.2.map gu)),(1,.box [.int .i64 i,.int .i64 j]),(0,.box (cQ c))]⟩)) (fun z=>z.1≤S.length∧vw c i j z.1=z.2) (fun z=>S.length - z.1) (0,[]) (by simp[dz,eG]) bn ?_
  rintro⟨k,D⟩ ⟨fO,hD⟩
  simp only at fO hD ⊢
  have mj:=mj k
  rw[hD] at mj
  refine .seq (.sr ?_)
  refine .cs ?_ ?_<;>intro qk
  ·try simp at qk
   have et:IntKind.i64.wrap ((k:Int)+1)=((k+1:Nat):Int):=by rw[wrap64 (by omega) (by omega)];omega
   have ki:k<S.length:=by omega
   obtain⟨s,hs⟩:∃s,S[k]?=some s:=⟨_,List.getElem?_eq_getElem ki⟩
   have gy:S[k]=s:=(List.getElem?_eq_some_iff.1 hs).2
   obtain⟨nX,n,i',w,hd,cN⟩:=IW (List.mem_of_getElem? hs)
   have rY:=rY ki (by rw[gy];exact cN)
   rw[hD] at rY
   have zr:=L6 nX (by omega) (show w.length≤100 by have:=(kN bo hd).2.2.2.2.2;omega)
   clear nX
   have cG:=cG s
   rw[hE] at cG
   have x8:D.length+1≤4294967296:=by omega
   refine .skip (.seq (.block (.seq ?_)))
   refine .tf (ms:=[0,0,0,6,14,31,0,127]) (W:=[5,7]) (As:=[6]) (items:=rX) rfl ae ae ae ae (by decide) ?_
   iterate 5 refine .rf ?_
   refine .al rfl rfl (by decide) (by decide) (by decide) (by decide) eX ?_
   refine .wr rfl rfl (by decide) (.pure rfl rfl rfl call126 (by decide) (cG) (by first|rfl|simp[*]) ?_)
   intro _ e;rw[jC hd,zr] at e;subst e
   refine .wr rfl rfl (by decide) (.dH eX (by decide) ?_)
   refine .done ?_
   refine .drawn (ms:=[0,0,0,4,0,16,0,0,192,448,1022,2046,4095,8191]) (W:=[11,12]) (items:=zG) rfl ae ae ae ?_
   iterate 11 refine .rx ?_
   refine .wv ?_
   refine .wv ?_
   refine .rx ?_
   refine .done (.rn ?_)
   refine⟨(k+1,D++[⟨i,j,i',j+w.length,n,some s⟩]),⟨by omega,rY⟩,bp,?_⟩
   exact(.mk [] [(3,6)] ia ix rfl rfl rfl)
  try simp at qk
  obtain rfl:k=S.length:=by omega
  rw[IV] at hD
  refine .exit (.sr ?_)
  refine .ret (au ?_)
  show eR _ _
  rw[hD];exact oB (EG _)
 ·
  have eG:cr c i j=[]:=if_neg (fun hh=>ec hh.2.1)
  refine .sr ?_
  refine .sr ?_
  refine .seq (.seq ?_)
  refine .drawn (ms:=[0,1,0,4,12,31,63,127,255,127,639,1663,4095,8191,16383,32767,65535,32767,163839,524287,1048575,32767,2129919,32767,8421375,31490047,65044479,134217727,268435455]) (W:=[]) (items:=F0) rfl ae ae ae ?_
  iterate 7 refine .rx ?_
  refine .split (t:=15) rfl (fun cI=>?_) (fun cI=>?_)
  ·try subst cI
   try simp at cI
   iterate 8 refine .rx ?_
   refine .split (t:=23) rfl (fun fS=>?_) (fun fS=>?_)
   ·try subst fS
    try simp at fS
   try subst fS
   try simp at fS
   iterate 13 refine .ux ?_
   refine .rx ?_
   refine .done (.fD rfl (.skip (.seq ?_)))
   refine .ay ik rfl ae (.rn gQ _ ?_)
   refine .pc rfl rfl rfl rfl rfl call125 (tL) ?_
   refine .rn [6] [] ?_
   refine .done (.seq (.sr ?_))
   refine .block ?_
   refine .dw (fun z:Nat×List aK=>([(2,.ptr 0 0),(3,.ptr 1 0),(5,.grow 3 z.2.length true),(6,.vec (S.map encS)),(7,.int .i64 z.1)],⟨4,[(3,.grow 11 (z.2.map gu)),(1,.box [.int .i64 i,.int .i64 j]),(0,.box (cQ c))]⟩)) (fun z=>z.1≤S.length∧vw c i j z.1=z.2) (fun z=>S.length - z.1) (0,[]) (by simp[dz,eG]) bn ?_
   rintro⟨k,D⟩ ⟨fO,hD⟩
   simp only at fO hD ⊢
   have mj:=mj k
   rw[hD] at mj
   refine .seq (.sr ?_)
   refine .cs ?_ ?_<;>intro qk
   ·try simp at qk
    have et:IntKind.i64.wrap ((k:Int)+1)=((k+1:Nat):Int):=by rw[wrap64 (by omega) (by omega)];omega
    have ki:k<S.length:=by omega
    obtain⟨s,hs⟩:∃s,S[k]?=some s:=⟨_,List.getElem?_eq_getElem ki⟩
    have gy:S[k]=s:=(List.getElem?_eq_some_iff.1 hs).2
    obtain⟨nX,n,i',w,hd,cN⟩:=IW (List.mem_of_getElem? hs)
    have rY:=rY ki (by rw[gy];exact cN)
    rw[hD] at rY
    have zr:=L6 nX (by omega) (show w.length≤100 by have:=(kN bo hd).2.2.2.2.2;omega)
    clear nX
    have cG:=cG s
    rw[hE] at cG
    have x8:D.length+1≤4294967296:=by omega
    refine .skip (.seq (.block (.seq ?_)))
    refine .tf (ms:=[0,0,0,6,14,31,0,127]) (W:=[5,7]) (As:=[6]) (items:=rX) rfl ae ae ae ae (by decide) ?_
    iterate 5 refine .rf ?_
    refine .al rfl rfl (by decide) (by decide) (by decide) (by decide) eX ?_
    refine .wr rfl rfl (by decide) (.pure rfl rfl rfl call126 (by decide) (cG) (by first|rfl|simp[*]) ?_)
    intro _ e;rw[jC hd,zr] at e;subst e
    refine .wr rfl rfl (by decide) (.dH eX (by decide) ?_)
    refine .done ?_
    refine .drawn (ms:=[0,0,0,4,0,16,0,0,192,448,1022,2046,4095,8191]) (W:=[11,12]) (items:=zG) rfl ae ae ae ?_
    iterate 11 refine .rx ?_
    refine .wv ?_
    refine .wv ?_
    refine .rx ?_
    refine .done (.rn ?_)
    refine⟨(k+1,D++[⟨i,j,i',j+w.length,n,some s⟩]),⟨by omega,rY⟩,bp,?_⟩
    exact(.mk [] [(3,6)] ia ix rfl rfl rfl)
   try simp at qk
   obtain rfl:k=S.length:=by omega
   rw[IV] at hD
   refine .exit (.sr ?_)
   refine .ret (au ?_)
   show eR _ _
   rw[hD];exact oB (EG _)
  try subst cI
  try simp at cI
 ·
  have eG:cr c i j=[]:=if_neg (fun hh=>heq hh.2.2)
  obtain⟨x,hx⟩:∃x,c.t[i]?=some x:=⟨_,List.getElem?_eq_getElem dy⟩
  have lV:c.t[i]=x:=(List.getElem?_eq_some_iff.1 hx).2
  obtain⟨y,hy⟩:∃y,c.c[j]?=some y:=⟨_,List.getElem?_eq_getElem ec⟩
  have yh:c.c[j]=y:=(List.getElem?_eq_some_iff.1 hy).2
  have vt:¬x=y:=fun e=>heq (by rw[List.getD_eq_getElem?_getD,hx,List.getD_eq_getElem?_getD,hy,e])
  refine .sr ?_
  refine .sr ?_
  refine .seq (.seq ?_)
  refine .drawn (ms:=[0,1,0,4,12,31,63,127,255,127,639,1663,4095,8191,16383,32767,65535,32767,163839,524287,1048575,32767,2129919,32767,8421375,31490047,65044479,134217727,268435455]) (W:=[]) (items:=F0) rfl ae ae ae ?_
  iterate 7 refine .rx ?_
  refine .split (t:=15) rfl (fun cI=>?_) (fun cI=>?_)
  ·try subst cI
   try simp at cI
   iterate 8 refine .rx ?_
   refine .split (t:=23) rfl (fun fS=>?_) (fun fS=>?_)
   ·try subst fS
    try simp at fS
    iterate 14 refine .rx ?_
    refine .done ?_
    refine .cs ?_ ?_<;>intro nK
    ·try simp at nK
     exact absurd nK vt
    try simp at nK
    refine .skip (.seq (.ay ik rfl ae (.rn gQ _ ?_)))
    refine .pc rfl rfl rfl rfl rfl call125 (tL) ?_
    refine .rn [6] [] ?_
    refine .done (.seq (.sr ?_))
    refine .block ?_
    refine .dw (fun z:Nat×List aK=>([(2,.ptr 0 0),(3,.ptr 1 0),(5,.grow 3 z.2.length true),(6,.vec (S.map encS)),(7,.int .i64 z.1)],⟨4,[(3,.grow 11 (z.2.map gu)),(1,.box [.int .i64 i,.int .i64 j]),(0,.box (cQ c))]⟩)) (fun z=>z.1≤S.length∧vw c i j z.1=z.2) (fun z=>S.length - z.1) (0,[]) (by simp[dz,eG]) bn ?_
    rintro⟨k,D⟩ ⟨fO,hD⟩
    simp only at fO hD ⊢
    have mj:=mj k
    rw[hD] at mj
    refine .seq (.sr ?_)
    refine .cs ?_ ?_<;>intro qk
    ·try simp at qk
     have et:IntKind.i64.wrap ((k:Int)+1)=((k+1:Nat):Int):=by rw[wrap64 (by omega) (by omega)];omega
     have ki:k<S.length:=by omega
     obtain⟨s,hs⟩:∃s,S[k]?=some s:=⟨_,List.getElem?_eq_getElem ki⟩
     have gy:S[k]=s:=(List.getElem?_eq_some_iff.1 hs).2
     obtain⟨nX,n,i',w,hd,cN⟩:=IW (List.mem_of_getElem? hs)
     have rY:=rY ki (by rw[gy];exact cN)
     rw[hD] at rY
     have zr:=L6 nX (by omega) (show w.length≤100 by have:=(kN bo hd).2.2.2.2.2;omega)
     clear nX
     have cG:=cG s
     rw[hE] at cG
     have x8:D.length+1≤4294967296:=by omega
     refine .skip (.seq (.block (.seq ?_)))
     refine .tf (ms:=[0,0,0,6,14,31,0,127]) (W:=[5,7]) (As:=[6]) (items:=rX) rfl ae ae ae ae (by decide) ?_
     iterate 5 refine .rf ?_
     refine .al rfl rfl (by decide) (by decide) (by decide) (by decide) eX ?_
     refine .wr rfl rfl (by decide) (.pure rfl rfl rfl call126 (by decide) (cG) (by first|rfl|simp[*]) ?_)
     intro _ e;rw[jC hd,zr] at e;subst e
     refine .wr rfl rfl (by decide) (.dH eX (by decide) ?_)
     refine .done ?_
     refine .drawn (ms:=[0,0,0,4,0,16,0,0,192,448,1022,2046,4095,8191]) (W:=[11,12]) (items:=zG) rfl ae ae ae ?_
     iterate 11 refine .rx ?_
     refine .wv ?_
     refine .wv ?_
     refine .rx ?_
     refine .done (.rn ?_)
     refine⟨(k+1,D++[⟨i,j,i',j+w.length,n,some s⟩]),⟨by omega,rY⟩,bp,?_⟩
     exact(.mk [] [(3,6)] ia ix rfl rfl rfl)
    try simp at qk
    obtain rfl:k=S.length:=by omega
    rw[IV] at hD
    refine .exit (.sr ?_)
    refine .ret (au ?_)
    show eR _ _
    rw[hD];exact oB (EG _)
   try subst fS
   try simp at fS
  try subst cI
  try simp at cI
theorem p97 (c:aj)(hk:bl c=0):aN prog 97 [aH c] fun r=>eR r ((.vec ((graph c).map gu))):=by
 have bo:=gR hk
 have oh:=bo.tl
 have eM:=bo.cl
 have sE:=bo.wc
 have hC:cR c=(cQ c):=rfl
 have rZ:=fun i j hi hj=>aN.soft (P6 c i j hk hi hj) (EG _)
 have hIe:=xfh c
 have L8:=VJ c
 have Gj:=VI c
 have hIl:=VK c bo
 have P9:=P5 c bo
 unfold aH at rZ ⊢
 rw[hC] at rZ ⊢
 refine .bT func97 rfl rfl ?_
 refine .sr ?_
 refine .sr ?_
 refine .seq (.sr ?_)
 refine .block ?_
 refine .dw (fun z:Nat×List aK=>([(1,.ptr 0 0),(3,.grow 1 z.2.length true),(4,.int .i64 z.1)],⟨2,[(1,.grow 11 (z.2.map gu)),(0,.box (cQ c))]⟩)) (fun z=>z.1≤c.t.length+1∧Bx c z.1=z.2) (fun z=>c.t.length+1 - z.1) (0,[]) (by simp[Bx]) bn ?_
 rintro⟨i,D⟩ ⟨hi,hD⟩
 simp only at hi hD ⊢
 have x8:=hIl i hi
 have L8:=L8 i
 rw[hD] at x8 L8
 refine .seq (.sr ?_)
 refine .cs ?_ ?_<;>intro hU
 ·try simp at hU
  have et:IntKind.i64.wrap ((i:Int)+1)=((i+1:Nat):Int):=by rw[wrap64 (by omega) (by omega)];omega
  have rZ:=fun j=>rZ i j (by omega)
  have Gj:=Gj i
  have P9:=P9 i (by omega)
  refine .skip (.seq (.block (.sr ?_)))
  refine .block ?_
  refine .dw (fun z:Nat×List aK=>([(1,.ptr 0 0),(3,.grow 1 z.2.length true),(4,.int .i64 i),(5,.int .i64 z.1)],⟨2,[(1,.grow 11 (z.2.map gu)),(0,.box (cQ c))]⟩)) (fun z=>z.1≤c.c.length+1∧D++yp c i z.1=z.2) (fun z=>c.c.length+1 - z.1) (0,D) (by simp[yp]) bn ?_
  rintro⟨j,E⟩ ⟨hj,hE⟩
  simp only at hj hE ⊢
  have yam:=P9 j
  have hEl:E.length≤i*2842+j*58:=by rw[← hE,List.length_append];omega
  refine .seq (.sr ?_)
  refine .cs ?_ ?_<;>intro gT
  ·try simp at gT
   have qF:IntKind.i64.wrap ((j:Int)+1)=((j+1:Nat):Int):=by rw[wrap64 (by omega) (by omega)];omega
   have rZ:=rZ j (by omega)
   have fU:=L7 c i j (by omega)
   have Gj:=Gj j
   obtain⟨S,hS⟩:∃S,steps c i j=S:=⟨_,rfl⟩
   rw[hS] at rZ fU Gj
   have hEz:E.length+S.length≤4294967296:=by omega
   have hEn:D++yp c i (j+1)=E++S:=by rw[Gj,← hE,List.append_assoc]
   refine .skip (.seq (.block (.ay mC rfl ae (.rn gQ _ ?_))))
   refine .pc rfl rfl rfl rfl rfl call145 (rZ) ?_
   refine .rn [6,7] [] ?_
   refine .done (.rn ?_)
   refine⟨(j+1,E++S),⟨by omega,hEn⟩,bp,?_⟩
   exact(.mk [] [(1,2)] ia ix rfl rfl rfl)
  try simp at gT
  obtain rfl:j=c.c.length+1:=by omega
  refine .exit (.rn ?_)
  refine⟨(i+1,E),⟨by omega,by rw[L8,hE]⟩,bp,?_⟩
  exact bn
 try simp at hU
 obtain rfl:i=c.t.length+1:=by omega
 refine .exit (.sr ?_)
 refine .ret (au ?_)
 show eR _ _
 rw[← hIe,hD];exact oB (EG _)
end
def Gk (c:aj):List Int:=[c.om,c.le,c.tw,c.gl,c.ad]
theorem VL {vh:ai}{n2:Nat}{D:Nat→Bool}{ρ:Nat→Nat}:∀l:List Int,aD vh n2 D ρ (l.map (.int .i64)) (l.map (.int .i64))
 |[]=>.nil
 |a::r=>.cons (.same _ rfl) (VL r)
theorem VM {vh:ai}{n2:Nat}{D:Nat→Bool}{ρ:Nat→Nat}(l:List Int):mi vh n2 D ρ (.box (l.map (.int .i64))) (.box (l.map (.int .i64))):=VL l
theorem z5j (c:aj):oe c=if (Gk c).all kL=true then (if 20<c.mx.length then 2 else if mc [] c.mx=true then 0 else 1) else 1:=by
 unfold oe Gk
 simp only[List.all_cons,List.all_nil,Bool.and_true,Bool.and_assoc]
theorem Gm {α:Type}{p:α→Bool}{l:List α}{k:Nat}(h:k<l.length)(hp:(l.take k).all p=true)(hq:p l[k]=true):(l.take (k+1)).all p=true:=by
 rw[List.take_succ_eq_append_getElem h,List.all_append,hp,Bool.true_and];simpa using hq
theorem Gn {α:Type}{p:α→Bool}{l:List α}{k:Nat}(h:k<l.length)(hq:p l[k]=false):l.all p=false:=by
 rw[List.all_eq_false];exact⟨l[k],List.getElem_mem h,by simp[hq]⟩
section
variable [bF]
theorem EH (l:List Int)(hl:l.length<4611686018427387904):aN prog 129 [ints l] fun r=>r=.bool (l.all dB):=by
 refine .bT func129 rfl rfl ?_
 refine .sr ?_
 refine .seq (.sr ?_)
 refine .block ?_
 refine .dw (fun i:Nat=>([(0,ints l),(3,.int .i64 i)],ai.empty)) (fun i=>i≤l.length∧(l.take i).all dB=true) (fun i=>l.length - i) 0 (by simp) (.pure (by simp[*]) (by simp)) ?_
 rintro i ⟨hi,ht⟩
 simp only at hi ht ⊢
 refine .seq (.sr ?_)
 refine .cs ?_ ?_<;>intro c8
 ·try simp at c8
  have et:=fA i
  have dy:i<l.length:=by omega
  obtain⟨x,hx⟩:∃x,l[i]?=some x:=⟨_,List.getElem?_eq_getElem dy⟩
  have lV:l[i]=x:=(List.getElem?_eq_some_iff.1 hx).2
  have ym:=Bn x
  have eU:=@Gm _ dB l i dy ht
  have mG:=@Gn _ dB l i dy
  rw[lV] at eU mG
  obtain⟨wb,zX⟩:∃b,dB x=b:=⟨_,rfl⟩
  rw[zX] at ym eU mG
  refine .skip (.seq (.block (.seq (.ay kg rfl ae (.rn eD _ ?_)))))
  refine .pc rfl rfl rfl rfl rfl call161 (ym) ?_
  refine .rn [5] [] ?_
  refine .done (.sr ?_)
  refine .cs ?_ ?_<;>intro gT
  ·try simp at gT
   have hb:=mG (by simpa using gT)
   refine .sr ?_
   refine .ret (au ?_)
   rw[hb]
  try simp at gT
  have ha:=eU (by simpa using gT)
  refine .skip (.rn ?_)
  exact⟨i+1,⟨bp,ha⟩,bp,.pure (by simp[*]) (by simp)⟩
 try simp at c8
 obtain rfl:i=l.length:=by omega
 rw[List.take_length] at ht
 refine .exit (.sr ?_)
 refine .ret (au ?_)
 rw[ht]
theorem Qa (c:aj)(hm:c.mx.length<4611686018427387904):aN prog 128 [.agg [.int .i64 c.om,.int .i64 c.le,.int .i64 c.tw,.int .i64 c.gl,.int .i64 c.ad,.vec (c.mx.map bk)]] fun r=>r=.int .i64 (oe c):=by
 have hH:=z5j c
 refine .bT func128 rfl rfl ?_
 refine .sr ?_
 refine .sr ?_
 refine .seq (.sr ?_)
 refine .block ?_
 refine .dw (fun k:Nat=>([(1,.ptr 0 0),(3,.ptr 1 0),(4,.int .i64 k)],⟨2,[(1,.box ((Gk c).map (.int .i64))),(0,.box [.int .i64 c.om,.int .i64 c.le,.int .i64 c.tw,.int .i64 c.gl,.int .i64 c.ad,.vec (c.mx.map bk)])]⟩)) (fun k=>k≤5∧((Gk c).take k).all kL=true) (fun k=>5 - k) 0 (by simp) bn ?_
 rintro k ⟨hk,ht⟩
 simp only at hk ht ⊢
 have VN:(Gk c).length=5:=rfl
 obtain⟨L,hL⟩:∃L,Gk c=L:=⟨_,rfl⟩
 rw[hL] at hH ht VN ⊢
 refine .seq (.sr ?_)
 refine .cs ?_ ?_<;>intro pt
 ·try simp at pt
  have et:=fA k
  have dy:k<L.length:=by omega
  obtain⟨x,hx⟩:∃x,L[k]?=some x:=⟨_,List.getElem?_eq_getElem dy⟩
  have lV:L[k]=x:=(List.getElem?_eq_some_iff.1 hx).2
  have tG:=wD x 1 100
  have eU:=@Gm _ kL L k dy ht
  have mG:=@Gn _ kL L k dy
  rw[lV] at eU mG
  obtain⟨wb,zX⟩:∃b,kL x=b:=⟨_,rfl⟩
  rw[show (decide (1≤x)&&decide (x≤100))=wb from zX] at tG
  rw[zX] at eU mG
  refine .skip (.seq (.block (.seq (.ay gQ rfl ae (.rn [0,1,2] _ ?_)))))
  refine .pc rfl rfl rfl rfl rfl call99 (tG) ?_
  refine .rn [4] [] ?_
  refine .done (.sr ?_)
  refine .cs ?_ ?_<;>intro dX
  ·try simp at dX
   have hb:=mG (by simpa using dX)
   rw[if_neg (by rw[hb];simp)] at hH
   refine .sr ?_
   refine .ret (au ?_)
   rw[hH]
  try simp at dX
  have ha:=eU (by simpa using dX)
  refine .skip (.rn ?_)
  refine⟨k+1,⟨bp,ha⟩,bp,?_⟩
  exact(.mk [] [] Qb Qc rfl rfl rfl)
 try simp at pt
 obtain rfl:k=5:=by omega
 rw[← VN,List.take_length] at ht
 rw[if_pos ht] at hH
 refine .exit (.seq (.sr ?_))
 refine .cs ?_ ?_<;>intro kP
 ·try simp at kP
  rw[if_pos (by omega)] at hH
  refine .sr ?_
  refine .ret (au ?_)
  rw[hH]
 try simp at kP
 rw[if_neg (by omega)] at hH
 refine .skip (.seq (.sr ?_))
 refine .block ?_
 refine .dw (fun k:Nat=>([(1,.ptr 0 0),(6,.int .i64 k)],⟨2,[(0,.box [.int .i64 c.om,.int .i64 c.le,.int .i64 c.tw,.int .i64 c.gl,.int .i64 c.ad,.vec (c.mx.map bk)])]⟩)) (fun k=>k≤c.mx.length∧mc (c.mx.take k) (c.mx.drop k)=mc [] c.mx) (fun k=>c.mx.length - k) 0 ⟨by simp,by simp⟩ bn ?_
 rintro k ⟨hk,hr⟩
 simp only at hk hr ⊢
 refine .seq (.sr ?_)
 refine .cs ?_ ?_<;>intro IX
 ·try simp at IX
  have et:IntKind.i64.wrap ((k:Int)+1)=((k+1:Nat):Int):=by rw[wrap64 (by omega) (by omega)];omega
  rw[TB _ _ (by omega)] at hr
  obtain⟨x,hx⟩:∃x,c.mx[k]?=some x:=⟨_,List.getElem?_eq_getElem (by omega)⟩
  have lV:c.mx[k]=x:=(List.getElem?_eq_some_iff.1 hx).2
  rw[lV] at hr
  have hE:bk x=.agg [.int .i64 x.f,.int .i64 x.t,.int .i64 x.c]:=rfl
  have jQ:mT (c.mx.take k) x=true→mc (c.mx.take (k+1)) (c.mx.drop (k+1))=mc [] c.mx:=fun h=>by rw[← hr,h];rfl
  have pK:mT (c.mx.take k) x=false→mc [] c.mx=false:=fun h=>by rw[← hr,h];rfl
  clear hr
  have iI:mT (c.mx.take k) x=(dB x.f&&dB x.t&&!decide (x.f=x.t)&&kL x.c&&!((c.mx.take k).any fun y=>decide (y.f=x.f)&&decide (y.t=x.t))):=rfl
  have q1:=Bn x.f
  have q2:=Bn x.t
  have q3:=wD x.c 1 100
  obtain⟨w1,lX⟩:∃b,dB x.f=b:=⟨_,rfl⟩
  obtain⟨w3,qF⟩:∃b,dB x.t=b:=⟨_,rfl⟩
  obtain⟨w4,A5⟩:∃b,kL x.c=b:=⟨_,rfl⟩
  obtain⟨w5,u4⟩:∃b,(x.f==x.t)=b:=⟨_,rfl⟩
  rw[lX] at q1 iI
  rw[qF] at q2 iI
  rw[show (decide (1≤x.c)&&decide (x.c≤100))=w4 from A5] at q3
  rw[A5,show decide (x.f=x.t)=w5 from u4] at iI
  refine .skip (.seq (.block (.sr ?_)))
  refine .seq (.ay eD rfl ae (.rn [0,1] _ ?_))
  refine .pc rfl rfl rfl rfl rfl call161 (q1) ?_
  refine .rn [3] [] ?_
  refine .done (.seq (.ay eD rfl ae ?_))
  refine .rn [0,1] _ ?_
  refine .pc rfl rfl rfl rfl rfl call161 (q2) ?_
  refine .rn [3] [] ?_
  refine .done (.seq (.ay eD rfl ae ?_))
  refine .rn [0,1] _ ?_
  refine .pc rfl rfl rfl rfl rfl call99 (q3) ?_
  refine .rn [3] [] ?_
  refine .done (.seq (.seq (.ay [0,1,2,3,4,5,6,7,8,9,10,11,12,13,14,15,16] rfl ae ?_)))
  refine .rn [0,1,2] _ ?_
  refine .split (t:=60) rfl (fun kj=>?_) (fun kj=>?_)
  ·try subst kj
   try simp at kj
   have hf:=pK (by rw[iI,kj];simp)
   rw[if_neg (by rw[hf];simp)] at hH
   refine .rn [3,4,5,6,7,8,9,10,11,12,13,14,15,16] [] ?_
   refine .done (.eA rfl (.sr ?_))
   refine .ret (au ?_)
   rw[hH]
  try subst kj
  try simp at kj
  refine .rn [3,4,5,6] _ ?_
  refine .split (t:=64) rfl (fun rN=>?_) (fun rN=>?_)
  ·try subst rN
   try simp at rN
   have hf:=pK (by rw[iI,rN];simp)
   rw[if_neg (by rw[hf];simp)] at hH
   refine .rn [7,8,9,10,11,12,13,14,15,16] [] ?_
   refine .done (.eA rfl (.sr ?_))
   refine .ret (au ?_)
   rw[hH]
  try subst rN
  try simp at rN
  refine .rn [7,8,9,10] _ ?_
  refine .split (t:=68) rfl (fun EI=>?_) (fun EI=>?_)
  ·try subst EI
   try simp at EI
   have hf:=pK (by rw[iI,EI];simp)
   rw[if_neg (by rw[hf];simp)] at hH
   refine .rn [11,12,13,14,15,16] [] ?_
   refine .done (.eA rfl (.sr ?_))
   refine .ret (au ?_)
   rw[hH]
  try subst EI
  try simp at EI
  refine .rn [11,12,13,14,15,16] [] ?_
  refine .done ?_
  refine .cs ?_ ?_<;>intro mA
  ·try simp at mA
   have hf:=pK (by rw[iI,mA];simp)
   rw[if_neg (by rw[hf];simp)] at hH
   refine .sr ?_
   refine .ret (au ?_)
   rw[hH]
  try simp at mA
  rw[kj,rN,EI,mA] at iI
  simp only[Bool.true_and,Bool.not_false,Bool.and_true] at iI
  have Ob:(c.mx.take k).length=k:=by rw[List.length_take];omega
  refine .skip (.sr ?_)
  refine .block ?_
  refine .dw (fun m:Nat=>([(1,.ptr 0 0),(6,.int .i64 k),(7,.ptr 2 0),(11,.int .i64 m)],⟨3,[(2,.box [.int .i64 x.f,.int .i64 x.t,.int .i64 x.c]),(0,.box [.int .i64 c.om,.int .i64 c.le,.int .i64 c.tw,.int .i64 c.gl,.int .i64 c.ad,.vec (c.mx.map bk)])]⟩)) (fun m=>m≤k∧∀y∈c.mx.take m,¬(y.f=x.f∧y.t=x.t)) (fun m=>k - m) 0 (by simp) bn ?_
  rintro m ⟨Fv,hn⟩
  simp only at Fv hn ⊢
  refine .seq (.sr ?_)
  refine .cs ?_ ?_<;>intro qK
  ·try simp at qK
   have Pu:IntKind.i64.wrap ((m:Int)+1)=((m+1:Nat):Int):=by rw[wrap64 (by omega) (by omega)];omega
   have GZ:m<c.mx.length:=by omega
   obtain⟨y,hy⟩:∃y,c.mx[m]?=some y:=⟨_,List.getElem?_eq_getElem GZ⟩
   have yh:c.mx[m]=y:=(List.getElem?_eq_some_iff.1 hy).2
   have hEy:bk y=.agg [.int .i64 y.f,.int .i64 y.t,.int .i64 y.c]:=rfl
   obtain⟨e0,dz⟩:∃b,(y.f==x.f)=b:=⟨_,rfl⟩
   obtain⟨e1,gn⟩:∃b,(y.t==x.t)=b:=⟨_,rfl⟩
   have hyS:y∈c.mx.take k:=by rw[← yh];exact List.mem_take_iff_getElem.2 ⟨m,by omega,rfl⟩
   refine .skip (.seq (.block (.seq ?_)))
   refine .drawn (ms:=[0,1,0,7,15,31,0,64,255,511,1023,2047,1023,8191,16383,32767,1023,66559,262143,524287]) (W:=[]) (items:=HL) rfl ae ae ae ?_
   iterate 10 refine .rx ?_
   refine .split (t:=89) rfl (fun IY=>?_) (fun IY=>?_)
   ·try subst IY
    try simp at IY
    iterate 10 refine .rx ?_
    refine .done ?_
    refine .cs ?_ ?_<;>intro DV
    ·try simp at DV
     have LP:y.f=x.f∧y.t=x.t:=⟨by simpa using dz,by rw[DV] at gn;simpa using gn⟩
     have hf:=pK (by rw[iI,Bool.not_eq_false'];exact List.any_eq_true.2 ⟨y,hyS,by simp[LP.1,LP.2]⟩)
     rw[if_neg (by rw[hf];simp)] at hH
     refine .sr ?_
     refine .ret (au ?_)
     rw[hH]
    try simp at DV
    refine .skip (.rn ?_)
    refine⟨m+1,⟨bp,?_⟩,bp,bn⟩
    intro z hz
    rw[List.take_succ_eq_append_getElem GZ,List.mem_append,List.mem_singleton,yh] at hz
    rcases hz with hz|rfl
    ·exact hn z hz
    intro hh;rw[DV] at gn;simp[hh.2] at gn
   try subst IY
   try simp at IY
   iterate 9 refine .ux ?_
   refine .rx ?_
   refine .done (.fD rfl (.skip (.rn ?_)))
   refine⟨m+1,⟨bp,?_⟩,bp,bn⟩
   intro z hz
   rw[List.take_succ_eq_append_getElem GZ,List.mem_append,List.mem_singleton,yh] at hz
   rcases hz with hz|rfl
   ·exact hn z hz
   intro hh;simp[hh.1] at dz
  try simp at qK
  obtain rfl:m=k:=by omega
  have ha:=jQ (by rw[iI,Bool.not_eq_true',List.any_eq_false];intro z hz hh;rw[bS,decide_eq_true_eq,decide_eq_true_eq] at hh;exact hn z hz hh)
  refine .exit (.rn ?_)
  exact⟨m+1,⟨bp,ha⟩,bp,bn⟩
 try simp at IX
 obtain rfl:k=c.mx.length:=by omega
 rw[List.drop_length] at hr
 rw[if_pos (by rw[← hr];rfl)] at hH
 refine .exit (.sr ?_)
 refine .ret (au ?_)
 rw[hH]
end
theorem xbc (n:Nat)(x:lj):jr n x=((decide (0≤x.at_)&&decide (x.at_≤(n:Int)))&&(decide (1≤(x.ws.length:Int))&&decide ((x.ws.length:Int)≤6))&&x.ws.all dB):=by
 unfold jr
 rw[decide_eq_decide.2 (show (1≤(x.ws.length:Int))↔1≤x.ws.length by omega),decide_eq_decide.2 (show ((x.ws.length:Int)≤6)↔x.ws.length≤6 by omega)]
variable [bF] in
theorem p66 (c:aj)(h:BC c):aN prog 66 [aH c] fun r=>r=.int .i64 (bl c):=by
 obtain⟨hm,ht,eM,hg,hw⟩:=h
 have IZ:=Qa c hm
 have hX:bl c=if oe c≠0 then oe c else if 48<c.t.length∨48<c.c.length∨6<c.g.length then 2 else if (c.t.all dB&&c.c.all dB&&c.g.all (jr c.t.length))=true then 0 else 1:=rfl
 have hC:cR c=(cQ c):=rfl
 unfold aH
 rw[hC]
 obtain⟨H,hH⟩:∃H,oe c=H:=⟨_,rfl⟩
 rw[hH] at hX IZ
 obtain⟨g1,rK⟩:∃b,decide (48<(c.t.length:Int))=b:=⟨_,rfl⟩
 obtain⟨g2,tc⟩:∃b,decide (48<(c.c.length:Int))=b:=⟨_,rfl⟩
 obtain⟨g3,EJ⟩:∃b,decide (6<(c.g.length:Int))=b:=⟨_,rfl⟩
 have q1:=EH c.t (by omega)
 have q2:=EH c.c (by omega)
 obtain⟨w1,lX⟩:∃b,c.t.all dB=b:=⟨_,rfl⟩
 obtain⟨w2,et⟩:∃b,c.c.all dB=b:=⟨_,rfl⟩
 rw[lX] at q1 hX
 rw[et] at q2 hX
 refine .bT func66 rfl rfl ?_
 refine .sr ?_
 refine .seq (.ay eD rfl ae (.rn [0,1] _ ?_))
 refine .pc rfl rfl rfl rfl rfl call128 (IZ) ?_
 refine .rn [3] [] ?_
 refine .done (.seq (.sr ?_))
 refine .cs ?_ ?_<;>intro iy
 ·try simp at iy
  rw[if_pos iy] at hX
  refine .sr ?_
  refine .ret (au ?_)
  rw[hX]
 try simp at iy
 rw[if_neg (by simp[iy])] at hX
 refine .skip (.seq (.seq (.ay HF rfl ae (.rn gQ _ ?_))))
 refine .split (t:=20) rfl (fun I0=>?_) (fun I0=>?_)
 ·try subst I0
  try simp at I0
  rw[if_pos (.inl (by have:=of_decide_eq_true rK;omega))] at hX
  refine .rn [5,6,7,8,9,10,11,12,13,14,15] [] ?_
  refine .done (.eA rfl (.sr ?_))
  refine .ret (au ?_)
  rw[hX]
 try subst I0
 try simp at I0
 refine .rn [5,6,7,8,9,10] _ ?_
 refine .split (t:=26) rfl (fun jI=>?_) (fun jI=>?_)
 ·try subst jI
  try simp at jI
  rw[if_pos (.inr (.inl (by have:=of_decide_eq_true tc;omega)))] at hX
  refine .rn [11,12,13,14,15] [] ?_
  refine .done (.eA rfl (.sr ?_))
  refine .ret (au ?_)
  rw[hX]
 try subst jI
 try simp at jI
 refine .rn [11,12,13,14,15] [] ?_
 refine .done ?_
 refine .cs ?_ ?_<;>intro vm
 ·try simp at vm
  rw[if_pos (.inr (.inr (by rw[vm] at EJ;have:=of_decide_eq_true EJ;omega)))] at hX
  refine .sr ?_
  refine .ret (au ?_)
  rw[hX]
 try simp at vm
 rw[vm] at EJ
 simp only[decide_eq_false_iff_not] at rK tc EJ
 rw[if_neg (by omega)] at hX
 refine .skip (.seq (.ay eD rfl ae (.rn [0,1] _ ?_)))
 refine .pc rfl rfl rfl rfl rfl call129 (q1) ?_
 refine .rn [3] [] ?_
 refine .done (.seq (.ay eD rfl ae ?_))
 refine .rn [0,1] _ ?_
 refine .pc rfl rfl rfl rfl rfl call129 (q2) ?_
 refine .rn [3] [] ?_
 refine .done (.seq (.seq (.ay kg rfl ae ?_)))
 refine .rn [0,1,2] _ ?_
 refine .split (t:=40) rfl (fun kO=>?_) (fun kO=>?_)
 ·try subst kO
  try simp at kO
  rw[if_neg (by rw[kO];simp)] at hX
  refine .rn [3,4,5] [] ?_
  refine .done (.eA rfl (.sr ?_))
  refine .ret (au ?_)
  rw[hX]
 try subst kO
 try simp at kO
 refine .rn [3,4,5] [] ?_
 refine .done ?_
 refine .cs ?_ ?_<;>intro L9
 ·try simp at L9
  rw[if_neg (by rw[L9];simp)] at hX
  refine .sr ?_
  refine .ret (au ?_)
  rw[hX]
 try simp at L9
 rw[kO,L9] at hX
 simp only[Bool.true_and] at hX
 refine .skip (.seq (.sr ?_))
 refine .block ?_
 refine .dw (fun i:Nat=>([(1,.ptr 0 0),(6,.int .i64 i)],⟨1,[(0,.box (cQ c))]⟩)) (fun i=>i≤c.g.length∧(c.g.take i).all (jr c.t.length)=true) (fun i=>c.g.length - i) 0 (by simp) bn ?_
 rintro i ⟨hi,qP⟩
 simp only at hi qP ⊢
 refine .seq (.sr ?_)
 refine .cs ?_ ?_<;>intro jK
 ·try simp at jK
  have qF:IntKind.i64.wrap ((i:Int)+1)=((i+1:Nat):Int):=by rw[wrap64 (by omega) (by omega)];omega
  have dy:i<c.g.length:=by omega
  obtain⟨x,hx⟩:∃x,c.g[i]?=some x:=⟨_,List.getElem?_eq_getElem dy⟩
  have lV:c.g[i]=x:=(List.getElem?_eq_some_iff.1 hx).2
  have hG:bV x=.agg [.int .i64 x.at_,ints x.ws]:=rfl
  have eU:=@Gm _ (jr c.t.length) c.g i dy qP
  have mG:=@Gn _ (jr c.t.length) c.g i dy
  rw[lV,xbc] at eU mG
  have hxw:=hw x (List.mem_of_getElem? hx)
  have q3:=wD x.at_ 0 (c.t.length:Int)
  have q4:=wD (x.ws.length:Int) 1 6
  have q5:=EH x.ws (by omega)
  obtain⟨v1,iS⟩:∃b,(decide (0≤x.at_)&&decide (x.at_≤(c.t.length:Int)))=b:=⟨_,rfl⟩
  obtain⟨v2,eN⟩:∃b,(decide (1≤(x.ws.length:Int))&&decide ((x.ws.length:Int)≤6))=b:=⟨_,rfl⟩
  obtain⟨v3,CH⟩:∃b,x.ws.all dB=b:=⟨_,rfl⟩
  rw[iS] at q3 eU mG
  rw[eN] at q4 eU mG
  rw[CH] at q5 eU mG
  clear iS eN CH
  refine .skip (.seq (.block (.seq ?_)))
  refine .drawn (ms:=[0,1,0,7,15,31,0,64,192,511,1023]) (W:=[9]) (items:=yf) rfl ae ae ae ?_
  iterate 9 refine .rx ?_
  refine .wp rfl rfl rfl rfl rfl call99 (q3) ?_
  refine .rx ?_
  refine .done (.seq (.ay rF rfl ae ?_))
  refine .rn ik _ ?_
  refine .pc rfl rfl rfl rfl rfl call99 (q4) ?_
  refine .rn [8] [] ?_
  refine .done (.seq (.ay mC rfl ae ?_))
  refine .rn kg _ ?_
  refine .pc rfl rfl rfl rfl rfl call129 (q5) ?_
  refine .rn [7] [] ?_
  refine .done (.seq (.ay fM rfl ae ?_))
  refine .rn [0,1,2] _ ?_
  refine .split (t:=78) rfl (fun vx=>?_) (fun vx=>?_)
  ·try subst vx
   try simp at vx
   have hf:=mG (by rw[vx];simp)
   rw[if_neg (by rw[hf];simp)] at hX
   refine .rn [3,4,5,6,7,8,9] [] ?_
   refine .done (.eA rfl (.sr ?_))
   refine .ret (au ?_)
   rw[hX]
  try subst vx
  try simp at vx
  refine .rn [3,4,5,6] _ ?_
  refine .split (t:=82) rfl (fun v7=>?_) (fun v7=>?_)
  ·try subst v7
   try simp at v7
   have hf:=mG (by rw[v7];simp)
   rw[if_neg (by rw[hf];simp)] at hX
   refine .rn [7,8,9] [] ?_
   refine .done (.eA rfl (.sr ?_))
   refine .ret (au ?_)
   rw[hX]
  try subst v7
  try simp at v7
  refine .rn [7,8,9] [] ?_
  refine .done ?_
  refine .cs ?_ ?_<;>intro EK
  ·try simp at EK
   have hf:=mG (by rw[EK];simp)
   rw[if_neg (by rw[hf];simp)] at hX
   refine .sr ?_
   refine .ret (au ?_)
   rw[hX]
  try simp at EK
  have ha:=eU (by rw[vx,v7,EK];rfl)
  refine .skip (.rn ?_)
  exact⟨i+1,⟨bp,ha⟩,bp,bn⟩
 try simp at jK
 obtain rfl:i=c.g.length:=by omega
 rw[List.take_length] at qP
 rw[if_pos qP] at hX
 refine .exit (.sr ?_)
 refine .ret (au ?_)
 rw[hX]
def tM (v:Int):Bool:=decide (0≤v)&&decide (v≤1099511627776)
def qm (m:Nat)(r:List Int):Bool:=decide (r.length=m+1)&&r.all tM
def CN (T:List (List Int))(i j:Nat):Int:=(T.getD i []).getD j 0
def r5 (T:List (List Int))(x:aK):Bool:=!decide (CN T x.i x.j+x.n<CN T x.i' x.j')
def mm (c:aj)(T:List (List Int))(cost:Int):Bool:=decide (T.length=c.t.length+1)&&T.all (qm c.c.length)&&(graph c).all (r5 T)&&decide (CN T 0 0=0)&&decide (CN T c.t.length c.c.length=cost)
theorem xdw {m:Nat}{T:List (List Int)}(hT:T.all (qm m)=true){i j:Nat}(hi:i<T.length)(hj:j≤m):∃r v,T[i]?=some r∧r[j]?=some v∧CN T i j=v∧0≤v∧v≤1099511627776:=by
 rw[List.all_eq_true] at hT
 have h1:=hT T[i] (List.getElem_mem hi)
 unfold qm at h1
 rw[bS,decide_eq_true_eq,List.all_eq_true] at h1
 obtain⟨h2,h3⟩:=h1
 have ec:j<T[i].length:=by omega
 have h4:=h3 _ (List.getElem_mem ec)
 unfold tM at h4
 rw[bS,decide_eq_true_eq,decide_eq_true_eq] at h4
 refine⟨T[i],T[i][j],List.getElem?_eq_getElem hi,List.getElem?_eq_getElem ec,?_,h4.1,h4.2⟩
 unfold CN
 rw[List.getD_eq_getElem?_getD,List.getD_eq_getElem?_getD,List.getElem?_eq_getElem hi,Option.getD_some,List.getElem?_eq_getElem ec,Option.getD_some]
theorem z9m (x:aK):∃b k a i l w,gu x=.agg [.int .i64 x.i,.int .i64 x.j,.int .i64 x.i',.int .i64 x.j',.int .i64 x.n,.bool b,.int .i64 k,.int .i64 a,.int .i64 i,.int .i64 l,.int .i64 w]:=by
 unfold gu
 split
 ·exact⟨_,_,_,_,_,_,rfl⟩
 exact⟨_,_,_,_,_,_,rfl⟩
theorem xho {c:aj}{T:List (List Int)}{cost:Int}(h:¬T.length=c.t.length+1):mm c T cost=false:=by unfold mm;rw[decide_eq_false h];rfl
theorem VO {c:aj}{T:List (List Int)}{cost:Int}(h:T.all (qm c.c.length)=false):mm c T cost=false:=by unfold mm;rw[h,Bool.and_false];rfl
theorem xg5 {c:aj}{T:List (List Int)}{cost:Int}(h:(graph c).all (r5 T)=false):mm c T cost=false:=by unfold mm;rw[h,Bool.and_false];rfl
theorem xg2 {c:aj}{T:List (List Int)}{cost:Int}(h1:T.length=c.t.length+1)(h2:T.all (qm c.c.length)=true)(h3:(graph c).all (r5 T)=true):mm c T cost=(decide (CN T 0 0=0)&&decide (CN T c.t.length c.c.length=cost)):=by unfold mm;rw[decide_eq_true h1,h2,h3];rfl
def Gp (c:aj)(l:List aq)(cost:Int)(T:List (List Int)):Int:=if bl c≠0 then bl c else if ((cJ c l).getD (-1)=cost∧0≤cost)∧mm c T cost=true then 0 else 8
section
variable [bF]
theorem Qd (c:aj)(T:List (List Int))(cost:Int)(hk:bl c=0)(hT:T.length<4611686018427387904)(EL:∀r∈T,r.length<4611686018427387904):aN prog 108 [aH c,.vec (T.map ints),.int .i64 cost] fun r=>r=.bool (mm c T cost):=by
 have bo:=gR hk
 have oh:=bo.tl
 have eM:=bo.cl
 have Ma:=aN.soft (p97 c hk) (EG _)
 have hC:cR c=(cQ c):=rfl
 unfold aH at Ma ⊢
 rw[hC] at Ma ⊢
 have lX:IntKind.i64.wrap ((c.t.length:Int)+1)=((c.t.length+1:Nat):Int):=by rw[wrap64 (by omega) (by omega)];omega
 have et:IntKind.i64.wrap ((c.c.length:Int)+1)=((c.c.length+1:Nat):Int):=by rw[wrap64 (by omega) (by omega)];omega
 refine .bT func108 rfl rfl ?_
 refine .sr ?_
 refine .sr ?_
 refine .sr ?_
 refine .seq (.sr ?_)
 refine .cs ?_ ?_<;>intro gq
 ·try simp at gq
  have hX:=xho (c:=c) (T:=T) (cost:=cost) (by omega)
  refine .sr ?_
  refine .ret (au ?_)
  rw[hX]
 try simp at gq
 have PW:T.length=c.t.length+1:=by omega
 refine .skip (.seq (.sr ?_))
 refine .block ?_
 refine .dw (fun i:Nat=>([(1,.vec (T.map ints)),(2,.int .i64 cost),(3,.ptr 0 0),(7,.int .i64 c.t.length),(8,.int .i64 c.c.length),(9,.int .i64 i)],⟨1,[(0,.box (cQ c))]⟩)) (fun i=>i≤c.t.length+1∧(T.take i).all (qm c.c.length)=true) (fun i=>c.t.length+1 - i) 0 (by simp) bn ?_
 rintro i ⟨hi,ht⟩
 simp only at hi ht ⊢
 refine .seq (.sr ?_)
 refine .cs ?_ ?_<;>intro sR
 ·try simp at sR
  have qF:IntKind.i64.wrap ((i:Int)+1)=((i+1:Nat):Int):=by rw[wrap64 (by omega) (by omega)];omega
  have dy:i<T.length:=by omega
  have VP:(i:Int)<(c.t.length:Int)+1:=by omega
  obtain⟨r,hr⟩:∃r,T[i]?=some r:=⟨_,List.getElem?_eq_getElem dy⟩
  have hre:T[i]=r:=(List.getElem?_eq_some_iff.1 hr).2
  have eU:=@Gm _ (qm c.c.length) T i dy ht
  have mG:=@Gn _ (qm c.c.length) T i dy
  rw[hre] at eU mG
  have Mb:qm c.c.length r=(decide (r.length=c.c.length+1)&&r.all tM):=rfl
  refine .skip (.seq (.block (.seq (.sr ?_))))
  refine .cs ?_ ?_<;>intro kM
  ·try simp at kM
   have hX:=VO (cost:=cost) (mG (by rw[Mb,decide_eq_false (by omega)];rfl))
   refine .sr ?_
   refine .ret (au ?_)
   rw[hX]
  try simp at kM
  have Py:r.length=c.c.length+1:=by omega
  rw[decide_eq_true Py,Bool.true_and] at Mb
  refine .skip (.sr ?_)
  refine .block ?_
  refine .dw (fun j:Nat=>([(1,.vec (T.map ints)),(2,.int .i64 cost),(3,.ptr 0 0),(7,.int .i64 c.t.length),(8,.int .i64 c.c.length),(9,.int .i64 i),(10,.int .i64 j)],⟨1,[(0,.box (cQ c))]⟩)) (fun j=>j≤c.c.length+1∧(r.take j).all tM=true) (fun j=>c.c.length+1 - j) 0 (by simp) bn ?_
  rintro j ⟨hj,qP⟩
  simp only at hj qP ⊢
  refine .seq (.sr ?_)
  refine .cs ?_ ?_<;>intro IX
  ·try simp at IX
   have A5:IntKind.i64.wrap ((j:Int)+1)=((j+1:Nat):Int):=by rw[wrap64 (by omega) (by omega)];omega
   have ec:j<r.length:=by omega
   have G5:(j:Int)<(c.c.length:Int)+1:=by omega
   obtain⟨v,hv⟩:∃v,r[j]?=some v:=⟨_,List.getElem?_eq_getElem ec⟩
   have hve:r[j]=v:=(List.getElem?_eq_some_iff.1 hv).2
   have jB:=@Gm _ tM r j ec qP
   have EM:=@Gn _ tM r j ec
   rw[hve] at jB EM
   have tG:=wD v 0 1099511627776
   obtain⟨vb,VQ⟩:∃b,tM v=b:=⟨_,rfl⟩
   rw[show (decide (0≤v)&&decide (v≤1099511627776))=vb from VQ] at tG
   rw[VQ] at jB EM
   refine .skip (.seq (.block (.seq (.ay rF rfl ae (.rn ik _ ?_)))))
   refine .pc rfl rfl rfl rfl rfl call99 (tG) ?_
   refine .rn [8] [] ?_
   refine .done (.sr ?_)
   refine .cs ?_ ?_<;>intro EB
   ·try simp at EB
    have hX:=VO (cost:=cost) (mG (by rw[Mb];exact EM (by simpa using EB)))
    refine .sr ?_
    refine .ret (au ?_)
    rw[hX]
   try simp at EB
   have rz:=jB (by simpa using EB)
   refine .skip (.rn ?_)
   exact⟨j+1,⟨bp,rz⟩,bp,bn⟩
  try simp at IX
  obtain rfl:j=c.c.length+1:=by omega
  rw[← Py,List.take_length] at qP
  have ha:=eU (by rw[Mb,qP])
  refine .exit (.rn ?_)
  exact⟨i+1,⟨bp,ha⟩,bp,bn⟩
 try simp at sR
 obtain rfl:i=c.t.length+1:=by omega
 rw[← PW,List.take_length] at ht
 have Mc:=fun i j hi hj=>@xdw c.c.length T ht i j hi hj
 have VU:∀x∈graph c,∃i j,i≤c.t.length∧j≤c.c.length∧Md c i j x:=fun x hx=>by
  obtain⟨i,j,h1,h2,h3⟩:=Io.1 hx
  exact⟨i,j,h1,h2,ib bo h3⟩
 have VV:=@xg5 c T cost
 have VX:=@xg2 c T cost PW ht
 have sE:=Il bo
 obtain⟨G,hG⟩:∃G,graph c=G:=⟨_,rfl⟩
 rw[hG] at Ma VU VV VX sE
 refine .exit (.seq (.ay [0,1,2] rfl ae (.rn [0] _ ?_)))
 refine .pc rfl rfl rfl rfl rfl call97 (Ma) ?_
 refine .rn [2] [] ?_
 refine .done (.seq (.sr ?_))
 refine .block ?_
 refine .dw (fun k:Nat=>([(1,.vec (T.map ints)),(2,.int .i64 cost),(7,.int .i64 c.t.length),(8,.int .i64 c.c.length),(12,.vec (G.map gu)),(13,.int .i64 k)],ai.empty)) (fun k=>k≤G.length∧(G.take k).all (r5 T)=true) (fun k=>G.length - k) 0 (by simp) bn ?_
 rintro k ⟨eG,F1⟩
 simp only at eG F1 ⊢
 refine .seq (.sr ?_)
 refine .cs ?_ ?_<;>intro qk
 ·try simp at qk
  have u4:IntKind.i64.wrap ((k:Int)+1)=((k+1:Nat):Int):=by rw[wrap64 (by omega) (by omega)];omega
  have fO:k<G.length:=by omega
  obtain⟨x,hx⟩:∃x,G[k]?=some x:=⟨_,List.getElem?_eq_getElem fO⟩
  have lV:G[k]=x:=(List.getElem?_eq_some_iff.1 hx).2
  have eU:=@Gm _ (r5 T) G k fO F1
  have mG:=@Gn _ (r5 T) G k fO
  rw[lV] at eU mG
  obtain⟨i0,j0,Pc,hj0,fq⟩:=VU x (List.mem_of_getElem? hx)
  obtain⟨xb,xk,xa,xi,xl,xw,hD⟩:=z9m x
  have oX:=fq.fi;have uh:=fq.fj;have T7:=fq.it;have KH:=fq.jt;have Ed:=fq.n0;have jY:=fq.n1
  obtain⟨r1,v1,pK,iS,zx,Qe,Qf⟩:=Mc x.i x.j (by omega) (by omega)
  obtain⟨r2,v2,jQ,eN,qP,Qg,Qh⟩:=Mc x.i' x.j' (by omega) (by omega)
  have By:r5 T x = !decide (v1+x.n<v2):=by unfold r5;rw[zx,qP]
  have EN:=List.getElem?_eq_some_iff.1 pK
  have EO:=List.getElem?_eq_some_iff.1 jQ
  have Bq:=List.getElem?_eq_some_iff.1 iS
  have Br:=List.getElem?_eq_some_iff.1 eN
  obtain⟨Qi,EN⟩:=EN
  obtain⟨Qj,EO⟩:=EO
  obtain⟨Qk,Bq⟩:=Bq
  obtain⟨Ql,Br⟩:=Br
  have hxi:(x.i:Int)<(c.t.length:Int)+1:=by omega
  have yan:(x.i':Int)<(c.t.length:Int)+1:=by omega
  have hwx:IntKind.i64.wrap (v1+x.n)=v1+x.n:=wrap64 (by omega) (by omega)
  clear oX uh fq zx qP Pc hj0
  refine .skip (.seq (.block (.sr ?_)))
  refine .seq ?_
  refine .drawn (ms:=[0,0,2,6,15,31,0,64,192,511,1023,0,0,4096,12288,30720,63488,0,131072,393216,1046528,2095104,0,4194304,16775168,33554431]) (W:=[]) (items:=[.op 0,.op 1,.op 2,.op 3,.op 4,.op 5,.op 6,.op 7,.op 8,.op 9,.op 10,.op 11,.op 12,.op 13,.op 14,.op 15,.op 16,.op 17,.op 18,.op 19,.op 20,.op 21,.op 22,.op 23,.op 24,.op 25]) rfl ae ae ae ?_
  iterate 26 refine .rx ?_
  refine .done ?_
  refine .cs ?_ ?_<;>intro uA
  ·try simp at uA
   have hX:=VV (mG (by rw[By,decide_eq_true (by omega)];rfl))
   refine .sr ?_
   refine .ret (au ?_)
   rw[hX]
  try simp at uA
  have ha:=eU (by rw[By,decide_eq_false (by omega)];rfl)
  refine .skip (.rn ?_)
  exact⟨k+1,⟨bp,ha⟩,bp,bn⟩
 try simp at qk
 obtain rfl:k=G.length:=by omega
 rw[List.take_length] at F1
 have hX:=VX F1
 obtain⟨r1,v1,pK,iS,zx,Qe,Qf⟩:=Mc 0 0 (by omega) (by omega)
 obtain⟨r2,v2,jQ,eN,qP,Qg,Qh⟩:=Mc c.t.length c.c.length (by omega) (by omega)
 rw[zx,qP] at hX
 obtain⟨Qi,EN⟩:=List.getElem?_eq_some_iff.1 pK
 obtain⟨Qj,EO⟩:=List.getElem?_eq_some_iff.1 jQ
 obtain⟨Qk,Bq⟩:=List.getElem?_eq_some_iff.1 iS
 obtain⟨Ql,Br⟩:=List.getElem?_eq_some_iff.1 eN
 have lT:(c.t.length:Int)<(c.t.length:Int)+1:=by omega
 have km:(0:Int)<(c.t.length:Int)+1:=by omega
 obtain⟨b1,kf⟩:∃b,(v1==0)=b:=⟨_,rfl⟩
 obtain⟨b2,cT⟩:∃b,(v2==cost)=b:=⟨_,rfl⟩
 rw[show decide (v1=0)=b1 from kf,show decide (v2=cost)=b2 from cT] at hX
 refine .exit (.seq (.ay qc rfl ae (.rn ik _ ?_)))
 refine .split (t:=98) rfl (fun sS=>?_) (fun sS=>?_)
 ·try subst sS
  try simp at sS
  refine .rn [7,8,9,10,11,12,13,14,15,16,17] [] ?_
  refine .done (.ret (au ?_))
  rw[hX];rfl
 try subst sS
 try simp at sS
 refine .rn [7,8,9,10,11,12,13,14,15,16,17] [] ?_
 refine .done (.ret (au ?_))
 rw[hX];rfl
theorem p50 (c:aj)(l:List aq)(cost:Int)(T:List (List Int))(hB:BC c)(fc:l.length≤200)(hT:T.length<4611686018427387904)(EL:∀r∈T,r.length<4611686018427387904):aN prog 50 [aH c,.agg [.vec (l.map encS),.int .i64 cost,.vec (T.map ints)]] fun r=>r=.int .i64 (Gp c l cost T):=by
 have Gq:=p66 c hB
 have vy:=PL c l
 have vz:=Qd c T cost
 have hC:cR c=(cQ c):=rfl
 unfold aH at Gq vy vz ⊢
 rw[hC] at Gq vy vz ⊢
 refine .bT func50 rfl rfl ?_
 by_cases hk:bl c=0
 ·
  have vy:=vy hk fc
  have vz:=vz hk hT EL
  have hX:Gp c l cost T=if ((cJ c l).getD (-1)=cost∧0≤cost)∧mm c T cost=true then 0 else 8:=by unfold Gp;rw[if_neg (by simp[hk])]
  rw[hk] at Gq
  obtain⟨E,hE⟩:∃E,(cJ c l).getD (-1)=E:=⟨_,rfl⟩
  rw[hE] at vy hX
  obtain⟨pb,hpb⟩:∃b,mm c T cost=b:=⟨_,rfl⟩
  rw[hpb] at vz hX
  obtain⟨g1,rK⟩:∃b,decide (E<0)=b:=⟨_,rfl⟩
  obtain⟨g2,tc⟩:∃b,(E != cost)=b:=⟨_,rfl⟩
  refine .sr ?_
  refine .seq (.ay [0,1,2] rfl ae (.rn [0] _ ?_))
  refine .pc rfl rfl rfl rfl rfl call66 (Gq) ?_
  refine .rn [2] [] ?_
  refine .done (.seq (.sr ?_))
  refine .cs ?_ ?_<;>intro lI
  ·try simp at lI
  try simp at lI
  refine .skip (.seq (.ay gQ rfl ae (.rn [0,1,2] _ ?_)))
  refine .pc rfl rfl rfl rfl rfl call107 (vy) ?_
  refine .rn [4] [] ?_
  refine .done (.seq (.seq (.ay mC rfl ae ?_)))
  refine .rn [0,1,2] _ ?_
  refine .split (t:=19) rfl (fun iU=>?_) (fun iU=>?_)
  ·try subst iU
   try simp at iU
   rw[if_neg (fun hh=>by have:=of_decide_eq_true rK;omega)] at hX
   refine .rn [3,4,5,6,7] [] ?_
   refine .done (.eA rfl (.sr ?_))
   refine .ret (au ?_)
   rw[hX]
  try subst iU
  try simp at iU
  refine .rn [3,4,5,6,7] [] ?_
  refine .done ?_
  refine .cs ?_ ?_<;>intro pt
  ·try simp at pt
   rw[if_neg (fun hh=>by rw[pt] at tc;simp at tc;exact tc hh.1.1)] at hX
   refine .sr ?_
   refine .ret (au ?_)
   rw[hX]
  try simp at pt
  have hE0:E=cost:=by rw[pt] at tc;simpa using tc
  have hE1:0≤cost:=by have:=of_decide_eq_false rK;omega
  refine .skip (.seq (.ay ik rfl ae (.rn gQ _ ?_)))
  refine .pc rfl rfl rfl rfl rfl call108 (vz) ?_
  refine .rn [6] [] ?_
  refine .done (.seq (.sr ?_))
  refine .cs ?_ ?_<;>intro dX
  ·try simp at dX
   rw[if_neg (fun hh=>by have h2:=hh.2;rw[dX] at h2;cases h2)] at hX
   refine .sr ?_
   refine .ret (au ?_)
   rw[hX]
  try simp at dX
  rw[if_pos ⟨⟨hE0,hE1⟩,by simpa using dX⟩] at hX
  refine .skip (.sr ?_)
  refine .ret (au ?_)
  rw[hX]
 ·
  have hX:Gp c l cost T=bl c:=by unfold Gp;rw[if_pos hk]
  obtain⟨K,hK⟩:∃K,bl c=K:=⟨_,rfl⟩
  rw[hK] at Gq hX hk
  refine .sr ?_
  refine .seq (.ay [0,1,2] rfl ae (.rn [0] _ ?_))
  refine .pc rfl rfl rfl rfl rfl call66 (Gq) ?_
  refine .rn [2] [] ?_
  refine .done (.seq (.sr ?_))
  refine .cs ?_ ?_<;>intro lI
  ·try simp at lI
   refine .sr ?_
   refine .ret (au ?_)
   rw[hX]
  try simp at lI
  exact absurd lI hk
end
end Go.Am.Sl
end
