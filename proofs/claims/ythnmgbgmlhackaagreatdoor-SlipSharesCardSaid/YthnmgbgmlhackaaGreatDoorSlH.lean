/-
 What is used in the proof of a statement (part SlH); no condition.
-/
import Derived.Test.YthnmgbgmlhackaaGreatDoorSlZ
import Derived.Test.YthnmgbgmlhackaaGreatDoorVm2
import Derived.Test.YthnmgbgmlhackaaGreatDoorSlT
import Derived.Test.YthnmgbgmlhackaaGreatDoorSlG
set_option linter.all false
set_option maxHeartbeats 40000000
set_option maxRecDepth 100000
section
namespace Go.Am.Sl
open Go Go.Am Go.Proofs Tryz
attribute [local simp] fx ie rS dS ig nD ah.back de gJ l8 bm Nat.testBit_eq_decide_div_mod_eq cF iX ny vO qE ja qF jw cW oX oV qB jb qC pI mW rR pH qD qv qq qw qt qu qz qA od fI kl fw qG oZ pK qH qI oc rP rQ iY nz gp fY gq lV hU pA oD oE jY qi bo pG fX bU bS l9 ah.get ah.alloc ah.put ah.drop ah.empty bh dm iF jP gI cB chunk List.range List.range.loop ma rT mX bz b9 PV.aB PV.aG PV.dy PV.fW jc jd pL PV.one PV.ids PV.cO gx beq_eq sJ tW
attribute [local simp] cQ bQ jf ua yR rY sR pQ gz fG
attribute [local simp ↓ high] vm tZ Ml
def fB (x:aO):PV:=match x.s with
 |some s=>.agg [.int .i64 x.i,.int .i64 x.j,.int .i64 x.i',.int .i64 x.j',.int .i64 x.n,.bool false,.int .i64 s.k,.int .i64 s.a,.int .i64 s.i,.int .i64 s.l,.int .i64 s.w]
 |none=>.agg [.int .i64 x.i,.int .i64 x.j,.int .i64 x.i',.int .i64 x.j',.int .i64 x.n,.bool true,.int .i64 0,.int .i64 0,.int .i64 0,.int .i64 0,.int .i64 0]
theorem z9q (i j i' j':Nat)(n:Int)(s:ai):fB ⟨i,j,i',j',n,some s⟩=.agg [.int .i64 i,.int .i64 j,.int .i64 i',.int .i64 j',.int .i64 n,.bool false,.int .i64 s.k,.int .i64 s.a,.int .i64 s.i,.int .i64 s.l,.int .i64 s.w]:=rfl
theorem z7q (i j i' j':Nat)(n:Int):fB ⟨i,j,i',j',n,none⟩=.agg [.int .i64 i,.int .i64 j,.int .i64 i',.int .i64 j',.int .i64 n,.bool true,.int .i64 0,.int .i64 0,.int .i64 0,.int .i64 0,.int .i64 0]:=rfl
attribute [local simp] z9q z7q
theorem zxt (c:aq)(i j:Nat):(i<c.t.length∧j<c.c.length∧c.t.getD i 0=c.c.getD j 0)∨¬i<c.t.length∨(i<c.t.length∧¬j<c.c.length)∨(i<c.t.length∧j<c.c.length∧¬c.t.getD i 0=c.c.getD j 0):=by
 by_cases h1:i<c.t.length
 ·by_cases h2:j<c.c.length
  ·by_cases h3:c.t.getD i 0=c.c.getD j 0
   ·exact .inl ⟨h1,h2,h3⟩
   exact .inr (.inr (.inr ⟨h1,h2,h3⟩))
  exact .inr (.inr (.inl ⟨h1,h2⟩))
 exact .inr (.inl h1)
theorem z1b (x:aO):(fB x).cells.length=11:=by unfold fB;split<;>rfl
@[simp] theorem z7o (l:List aO):kj 11 (l.map fB)=true:=xj (f:=fB) (n:=11) z1b l
@[simp] theorem z6t (l:List aO):kG (l.map fB)=true:=xm (f:=fB) (fun x=>by unfold fB;split<;>simp[PV.one]) l
theorem Cp (l:List aO):(PV.vec (l.map fB)).aB=true:=by simp[PV.aB]
theorem RR (l:List ai):(PV.vec (l.map encS)).aB=true:=by simp[PV.aB]
theorem RS {α β:Type}{f g:α→Option β}:∀ {l:List α},(∀x∈l,f x=g x)→l.filterMap f=l.filterMap g
 |[],_=>rfl
 |a::r,h=>by rw[List.filterMap_cons,List.filterMap_cons,h a List.mem_cons_self,RS fun x hx=>h x (List.mem_cons_of_mem _ hx)]
theorem z0e (c:aq)(i j:Nat):steps c i j=cg c i j++(nc c i j).filterMap (stepOf c i j):=by
 unfold steps cg nc
 congr 1
 rw[List.filterMap_filter]
 refine RS ?_
 intro s hs
 unfold lJ stepOf
 have h2:=(DH hs).2
 cases hd:aR c s with
 |none=>simp
 |some x=>
  obtain⟨n,i',w⟩:=x
  simp only
  rw[h2,Int.toNat_natCast]
  split<;>rfl
theorem zv8 {c:aq}{i j:Nat}{s:ai}(h:s∈nc c i j):s.i=j∧∃n i' w,aR c s=some (n,i',w)∧stepOf c i j s=some ⟨i,j,i',j+w.length,n,some s⟩:=by
 unfold nc at h
 rw[List.mem_filter] at h
 have h2:=(DH h.1).2
 refine⟨h2,?_⟩
 have h3:=h.2
 unfold lJ at h3
 unfold stepOf
 cases hd:aR c s with
 |none=>rw[hd] at h3;cases h3
 |some x=>
  obtain⟨n,i',w⟩:=x
  rw[hd] at h3
  simp only at h3
  rw[h2,Int.toNat_natCast] at h3
  exact⟨n,i',w,rfl,by simp only;rw[if_pos h3]⟩
theorem IU {s:ai}{j:Nat}{w:List Int}(h:s.i=j)(hj:j≤100)(hw:w.length≤100):jk s w=((j+w.length:Nat):Int):=by
 unfold jk
 rw[h]
 split
 ·rename_i hh;rw[hh];simp
 rw[wrap64 (by omega) (by omega)];omega
theorem zul (c:aq)(i j:Nat)(hi:i≤c.t.length):(nc c i j).length≤c.t.length+c.g.length+4:=by
 have h1:=IV c i j hi
 have h2:(nc c i j).length≤(kS c i j).length:=List.length_filter_le _ _
 have h3:(kS c i j).length≤c.t.length+c.g.length+3:=by
  unfold kS
  simp only[List.length_append,List.length_map,List.length_range,List.length_singleton]
  have a1:(if j<c.c.length then [(⟨1,i,j,0,c.c.getD j 0⟩:ai)] else []).length≤1:=by split<;>simp
  have a2:(if j<c.c.length then [(⟨6,i,j,0,c.c.getD j 0⟩:ai)] else []).length≤1:=by split<;>simp
  omega
 omega
theorem z3r (c:aq)(i j:Nat):(cg c i j).length≤1:=by unfold cg;split<;>simp
def ti (c:aq)(i j k:Nat):List aO:=cg c i j++((nc c i j).take k).filterMap (stepOf c i j)
theorem z1n (c:aq)(i j:Nat):ti c i j 0=cg c i j:=by unfold ti;simp
theorem z0x {c:aq}{i j k:Nat}(h:k<(nc c i j).length){x:aO}(hx:stepOf c i j (nc c i j)[k]=some x):ti c i j (k+1)=ti c i j k++[x]:=by
 unfold ti
 rw[List.take_succ_eq_append_getElem h,List.filterMap_append,List.append_assoc]
 congr 2
 simp[hx]
theorem z4e (c:aq)(i j:Nat):ti c i j (nc c i j).length=steps c i j:=by unfold ti;rw[List.take_length,← z0e]
theorem z4w (c:aq)(i j k:Nat):(ti c i j k).length≤k+1:=by
 unfold ti
 have h1:=z3r c i j
 have h2:(((nc c i j).take k).filterMap (stepOf c i j)).length≤((nc c i j).take k).length:=List.length_filterMap_le _ _
 rw[List.length_take] at h2
 rw[List.length_append]
 omega
def vV (c:aq)(i j:Nat):List aO:=(List.range j).flatMap fun j=>steps c i j
def zj (c:aq)(i:Nat):List aO:=(List.range i).flatMap fun i=>vV c i (c.c.length+1)
theorem RT (c:aq)(i j:Nat):vV c i (j+1)=vV c i j++steps c i j:=by unfold vV;rw[List.range_succ,List.flatMap_append];simp
theorem RU (c:aq)(i:Nat):zj c (i+1)=zj c i++vV c i (c.c.length+1):=by unfold zj;rw[List.range_succ,List.flatMap_append];simp
theorem z9p (c:aq):zj c (c.t.length+1)=graph c:=by
 unfold zj vV graph places
 rw[List.flatMap_assoc]
 congr 1
 funext i
 rw[List.flatMap_map]
theorem MJ (c:aq)(hr:Rt c)(i:Nat)(hi:i≤c.t.length):∀j,(vV c i j).length≤j*58
 |0=>by simp[vV]
 |j+1=>by
  have h1:=IV c i j hi
  have h2:=MJ c hr i hi j
  have h3:=hr.tl
  have h4:=hr.vn
  rw[RT,List.length_append]
  omega
theorem RV (c:aq)(hr:Rt c):∀i,i≤c.t.length+1→(zj c i).length≤i*2842
 |0,_=>by simp[zj]
 |i+1,h=>by
  have h1:=MJ c hr i (by omega) (c.c.length+1)
  have h2:=RV c hr i (by omega)
  have h3:=hr.cl
  rw[RU,List.length_append]
  omega
section
variable [bE]
theorem xa9 (c:aq)(i j:Nat)(hk:bP c=0)(hi:i≤c.t.length)(hj:j≤c.c.length):aM prog 125 [aK c,.int .i64 i,.int .i64 j] fun r=>r=.vec ((nc c i j).map encS):=by
 have h:=ME c i j hk hi hj
 rw[zwp c i j hi] at h
 refine aM.soft (v:=.vec ((nc c i j).map encS)) (h.mono fun r _ hr=>⟨hr.1,?_⟩) (RR _)
 show et r _
 rw[hr.2]
 unfold eL
 split
 ·rename_i hn;rw[hn];exact .dJ
 exact q7 (RR _)
theorem MK (c:aq)(i j:Nat)(hk:bP c=0)(hi:i≤c.t.length)(hj:j≤c.c.length):aM prog 145 [aK c,.agg [.int .i64 i,.int .i64 j]] fun r=>et r ((.vec ((steps c i j).map fB))):=by
 have bq:=j7 hk
 have o4:=bq.tl
 have ep:=bq.cl
 have qL:=bq.vn
 have hC:dh c=(cQ c):=rfl
 have hE:∀s:ai,encS s=.agg [.int .i64 s.k,.int .i64 s.a,.int .i64 s.i,.int .i64 s.l,.int .i64 s.w]:=fun _=>rfl
 have cz:=fun s=>Cm c s hk
 have ri:=xa9 c i j hk hi hj
 have gd:=zul c i j hi
 have pn:=@z0x c i j
 have kK:=z4w c i j
 have Gq:=z4e c i j
 have eC:=z1n c i j
 have Gr:=@zv8 c i j
 unfold aK at cz ri ⊢
 rw[hC] at cz ri ⊢
 obtain⟨S,hS⟩:∃S,nc c i j=S:=⟨_,rfl⟩
 rw[hS] at ri gd pn Gq Gr
 refine .bV func145 rfl rfl ?_
 rcases zxt c i j with hkp|cT|⟨cT,dE⟩|⟨cT,dE,heq⟩
 ·
  obtain⟨cT,dE,heq⟩:=hkp
  obtain⟨x,hx⟩:∃x,c.t[i]?=some x:=⟨_,List.getElem?_eq_getElem cT⟩
  have ki:c.t[i]=x:=(List.getElem?_eq_some_iff.1 hx).2
  have Cq:c.c[j]?=some x:=by
   rw[List.getD_eq_getElem?_getD,hx,List.getD_eq_getElem?_getD,List.getElem?_eq_getElem dE] at heq
   rw[List.getElem?_eq_getElem dE];simp only[Option.getD_some] at heq;rw[heq]
  have yac:c.c[j]=x:=(List.getElem?_eq_some_iff.1 Cq).2
  have fD:cg c i j=[⟨i,j,i+1,j+1,0,none⟩]:=if_pos ⟨cT,dE,heq⟩
  have mT:IntKind.i64.wrap ((i:Int)+1)=((i+1:Nat):Int):=by rw[wrap64 (by omega) (by omega)];omega
  have rV:IntKind.i64.wrap ((j:Int)+1)=((j+1:Nat):Int):=by rw[wrap64 (by omega) (by omega)];omega
  refine .sr ?_
  refine .sr ?_
  refine .seq (.seq ?_)
  refine .drawn (ms:=[0,1,0,4,12,31,63,127,255,127,639,1663,4095,8191,16383,32767,65535,32767,163839,524287,1048575,32767,2129919,32767,8421375,31490047,65044479,134217727,268435455]) (W:=[]) (items:=Dy) rfl af af af ?_
  iterate 7 refine .rx ?_
  refine .split (t:=15) rfl (fun cq=>?_) (fun cq=>?_)
  ·try subst cq
   try simp at cq
   iterate 8 refine .rx ?_
   refine .split (t:=23) rfl (fun fO=>?_) (fun fO=>?_)
   ·try subst fO
    try simp at fO
    iterate 14 refine .rx ?_
    refine .done ?_
    refine .cs ?_ ?_<;>intro pU
    ·try simp at pU
     refine .rn ?_
     refine .seq (.aD iJ rfl af (.rn gy _ ?_))
     refine .pc rfl rfl rfl rfl rfl call125 (ri) ?_
     refine .rn [6] [] ?_
     refine .done (.seq (.sr ?_))
     refine .block ?_
     refine .dF (fun z:Nat×List aO=>([(2,.ptr 0 0),(3,.ptr 1 0),(5,.grow 3 z.2.length true),(6,.vec (S.map encS)),(7,.int .i64 z.1)],⟨4,[(3,.grow 11 (z.2.map fB)),(1,.box [.int .i64 i,.int .i64 j]),(0,.box (cQ c))]⟩)) (fun z=>z.1≤S.length∧ti c i j z.1=z.2) (fun z=>S.length - z.1) (0,[⟨i,j,i+1,j+1,0,none⟩]) (by simp[eC,fD]) bx ?_
     rintro⟨k,D⟩ ⟨fA,hD⟩
     simp only at fA hD ⊢
     have kK:=kK k
     rw[hD] at kK
     refine .seq (.sr ?_)
     refine .cs ?_ ?_<;>intro r9
     ·try simp at r9
      have eP:IntKind.i64.wrap ((k:Int)+1)=((k+1:Nat):Int):=by rw[wrap64 (by omega) (by omega)];omega
      have rW:k<S.length:=by omega
      obtain⟨s,hs⟩:∃s,S[k]?=some s:=⟨_,List.getElem?_eq_getElem rW⟩
      have ft:S[k]=s:=(List.getElem?_eq_some_iff.1 hs).2
      obtain⟨l6,n,i',w,hd,dw⟩:=Gr (List.mem_of_getElem? hs)
      have pn:=pn rW (by rw[ft];exact dw)
      rw[hD] at pn
      have w9:=IU l6 (by omega) (show w.length≤100 by have:=(mf bq hd).2.2.2.2.2;omega)
      clear l6
      have cz:=cz s
      rw[hE] at cz
      have vK:D.length+1≤4294967296:=by omega
      refine .skip (.seq (.block (.seq ?_)))
      refine .rX (ms:=[0,0,0,6,14,31,0,127]) (W:=[5,7]) (As:=[6]) (items:=pj) rfl af af af af (by decide) ?_
      iterate 5 refine .rf ?_
      refine .al rfl rfl (by decide) (by decide) (by decide) (by decide) fh ?_
      refine .wr rfl rfl (by decide) (.pure rfl rfl rfl call126 (by decide) (cz) (by first|rfl|simp[*]) ?_)
      intro _ e;rw[iA hd,w9] at e;subst e
      refine .wr rfl rfl (by decide) (.dS fh (by decide) ?_)
      refine .done ?_
      refine .drawn (ms:=[0,0,0,4,0,16,0,0,192,448,1022,2046,4095,8191]) (W:=[11,12]) (items:=xr) rfl af af af ?_
      iterate 11 refine .rx ?_
      refine .wv ?_
      refine .wv ?_
      refine .rx ?_
      refine .done (.rn ?_)
      refine⟨(k+1,D++[⟨i,j,i',j+w.length,n,some s⟩]),⟨by omega,pn⟩,bt,?_⟩
      exact(.mk [] [(3,6)] gK il rfl rfl rfl)
     try simp at r9
     obtain rfl:k=S.length:=by omega
     rw[Gq] at hD
     refine .exit (.sr ?_)
     refine .ret (aH ?_)
     show et _ _
     rw[hD];exact q7 (Cp _)
    try simp at pU
   try subst fO
   try simp at fO
  try subst cq
  try simp at cq
 ·
  have fD:cg c i j=[]:=if_neg (fun hh=>cT hh.1)
  refine .sr ?_
  refine .sr ?_
  refine .seq (.seq ?_)
  refine .drawn (ms:=[0,1,0,4,12,31,63,127,255,127,639,1663,4095,8191,16383,32767,65535,32767,163839,524287,1048575,32767,2129919,32767,8421375,31490047,65044479,134217727,268435455]) (W:=[]) (items:=Dy) rfl af af af ?_
  iterate 7 refine .rx ?_
  refine .split (t:=15) rfl (fun cq=>?_) (fun cq=>?_)
  ·try subst cq
   try simp at cq
  try subst cq
  try simp at cq
  iterate 6 refine .ux ?_
  iterate 2 refine .rx ?_
  iterate 13 refine .ux ?_
  refine .rx ?_
  refine .done (.iM rfl (.skip (.seq ?_)))
  refine .aD iJ rfl af (.rn gy _ ?_)
  refine .pc rfl rfl rfl rfl rfl call125 (ri) ?_
  refine .rn [6] [] ?_
  refine .done (.seq (.sr ?_))
  refine .block ?_
  refine .dF (fun z:Nat×List aO=>([(2,.ptr 0 0),(3,.ptr 1 0),(5,.grow 3 z.2.length true),(6,.vec (S.map encS)),(7,.int .i64 z.1)],⟨4,[(3,.grow 11 (z.2.map fB)),(1,.box [.int .i64 i,.int .i64 j]),(0,.box (cQ c))]⟩)) (fun z=>z.1≤S.length∧ti c i j z.1=z.2) (fun z=>S.length - z.1) (0,[]) (by simp[eC,fD]) bx ?_
  rintro⟨k,D⟩ ⟨fA,hD⟩
  simp only at fA hD ⊢
  have kK:=kK k
  rw[hD] at kK
  refine .seq (.sr ?_)
  refine .cs ?_ ?_<;>intro r9
  ·try simp at r9
   have eP:IntKind.i64.wrap ((k:Int)+1)=((k+1:Nat):Int):=by rw[wrap64 (by omega) (by omega)];omega
   have rW:k<S.length:=by omega
   obtain⟨s,hs⟩:∃s,S[k]?=some s:=⟨_,List.getElem?_eq_getElem rW⟩
   have ft:S[k]=s:=(List.getElem?_eq_some_iff.1 hs).2
   obtain⟨l6,n,i',w,hd,dw⟩:=Gr (List.mem_of_getElem? hs)
   have pn:=pn rW (by rw[ft];exact dw)
   rw[hD] at pn
   have w9:=IU l6 (by omega) (show w.length≤100 by have:=(mf bq hd).2.2.2.2.2;omega)
   clear l6
   have cz:=cz s
   rw[hE] at cz
   have vK:D.length+1≤4294967296:=by omega
   refine .skip (.seq (.block (.seq ?_)))
   refine .rX (ms:=[0,0,0,6,14,31,0,127]) (W:=[5,7]) (As:=[6]) (items:=pj) rfl af af af af (by decide) ?_
   iterate 5 refine .rf ?_
   refine .al rfl rfl (by decide) (by decide) (by decide) (by decide) fh ?_
   refine .wr rfl rfl (by decide) (.pure rfl rfl rfl call126 (by decide) (cz) (by first|rfl|simp[*]) ?_)
   intro _ e;rw[iA hd,w9] at e;subst e
   refine .wr rfl rfl (by decide) (.dS fh (by decide) ?_)
   refine .done ?_
   refine .drawn (ms:=[0,0,0,4,0,16,0,0,192,448,1022,2046,4095,8191]) (W:=[11,12]) (items:=xr) rfl af af af ?_
   iterate 11 refine .rx ?_
   refine .wv ?_
   refine .wv ?_
   refine .rx ?_
   refine .done (.rn ?_)
   refine⟨(k+1,D++[⟨i,j,i',j+w.length,n,some s⟩]),⟨by omega,pn⟩,bt,?_⟩
   exact(.mk [] [(3,6)] gK il rfl rfl rfl)
  try simp at r9
  obtain rfl:k=S.length:=by omega
  rw[Gq] at hD
  refine .exit (.sr ?_)
  refine .ret (aH ?_)
  show et _ _
  rw[hD];exact q7 (Cp _)
 ·
  have fD:cg c i j=[]:=if_neg (fun hh=>dE hh.2.1)
  refine .sr ?_
  refine .sr ?_
  refine .seq (.seq ?_)
  refine .drawn (ms:=[0,1,0,4,12,31,63,127,255,127,639,1663,4095,8191,16383,32767,65535,32767,163839,524287,1048575,32767,2129919,32767,8421375,31490047,65044479,134217727,268435455]) (W:=[]) (items:=Dy) rfl af af af ?_
  iterate 7 refine .rx ?_
  refine .split (t:=15) rfl (fun cq=>?_) (fun cq=>?_)
  ·try subst cq
   try simp at cq
   iterate 8 refine .rx ?_
   refine .split (t:=23) rfl (fun fO=>?_) (fun fO=>?_)
   ·try subst fO
    try simp at fO
   try subst fO
   try simp at fO
   iterate 13 refine .ux ?_
   refine .rx ?_
   refine .done (.iM rfl (.skip (.seq ?_)))
   refine .aD iJ rfl af (.rn gy _ ?_)
   refine .pc rfl rfl rfl rfl rfl call125 (ri) ?_
   refine .rn [6] [] ?_
   refine .done (.seq (.sr ?_))
   refine .block ?_
   refine .dF (fun z:Nat×List aO=>([(2,.ptr 0 0),(3,.ptr 1 0),(5,.grow 3 z.2.length true),(6,.vec (S.map encS)),(7,.int .i64 z.1)],⟨4,[(3,.grow 11 (z.2.map fB)),(1,.box [.int .i64 i,.int .i64 j]),(0,.box (cQ c))]⟩)) (fun z=>z.1≤S.length∧ti c i j z.1=z.2) (fun z=>S.length - z.1) (0,[]) (by simp[eC,fD]) bx ?_
   rintro⟨k,D⟩ ⟨fA,hD⟩
   simp only at fA hD ⊢
   have kK:=kK k
   rw[hD] at kK
   refine .seq (.sr ?_)
   refine .cs ?_ ?_<;>intro r9
   ·try simp at r9
    have eP:IntKind.i64.wrap ((k:Int)+1)=((k+1:Nat):Int):=by rw[wrap64 (by omega) (by omega)];omega
    have rW:k<S.length:=by omega
    obtain⟨s,hs⟩:∃s,S[k]?=some s:=⟨_,List.getElem?_eq_getElem rW⟩
    have ft:S[k]=s:=(List.getElem?_eq_some_iff.1 hs).2
    obtain⟨l6,n,i',w,hd,dw⟩:=Gr (List.mem_of_getElem? hs)
    have pn:=pn rW (by rw[ft];exact dw)
    rw[hD] at pn
    have w9:=IU l6 (by omega) (show w.length≤100 by have:=(mf bq hd).2.2.2.2.2;omega)
    clear l6
    have cz:=cz s
    rw[hE] at cz
    have vK:D.length+1≤4294967296:=by omega
    refine .skip (.seq (.block (.seq ?_)))
    refine .rX (ms:=[0,0,0,6,14,31,0,127]) (W:=[5,7]) (As:=[6]) (items:=pj) rfl af af af af (by decide) ?_
    iterate 5 refine .rf ?_
    refine .al rfl rfl (by decide) (by decide) (by decide) (by decide) fh ?_
    refine .wr rfl rfl (by decide) (.pure rfl rfl rfl call126 (by decide) (cz) (by first|rfl|simp[*]) ?_)
    intro _ e;rw[iA hd,w9] at e;subst e
    refine .wr rfl rfl (by decide) (.dS fh (by decide) ?_)
    refine .done ?_
    refine .drawn (ms:=[0,0,0,4,0,16,0,0,192,448,1022,2046,4095,8191]) (W:=[11,12]) (items:=xr) rfl af af af ?_
    iterate 11 refine .rx ?_
    refine .wv ?_
    refine .wv ?_
    refine .rx ?_
    refine .done (.rn ?_)
    refine⟨(k+1,D++[⟨i,j,i',j+w.length,n,some s⟩]),⟨by omega,pn⟩,bt,?_⟩
    exact(.mk [] [(3,6)] gK il rfl rfl rfl)
   try simp at r9
   obtain rfl:k=S.length:=by omega
   rw[Gq] at hD
   refine .exit (.sr ?_)
   refine .ret (aH ?_)
   show et _ _
   rw[hD];exact q7 (Cp _)
  try subst cq
  try simp at cq
 ·
  have fD:cg c i j=[]:=if_neg (fun hh=>heq hh.2.2)
  obtain⟨x,hx⟩:∃x,c.t[i]?=some x:=⟨_,List.getElem?_eq_getElem cT⟩
  have ki:c.t[i]=x:=(List.getElem?_eq_some_iff.1 hx).2
  obtain⟨y,hy⟩:∃y,c.c[j]?=some y:=⟨_,List.getElem?_eq_getElem dE⟩
  have zf:c.c[j]=y:=(List.getElem?_eq_some_iff.1 hy).2
  have zi:¬x=y:=fun e=>heq (by rw[List.getD_eq_getElem?_getD,hx,List.getD_eq_getElem?_getD,hy,e])
  refine .sr ?_
  refine .sr ?_
  refine .seq (.seq ?_)
  refine .drawn (ms:=[0,1,0,4,12,31,63,127,255,127,639,1663,4095,8191,16383,32767,65535,32767,163839,524287,1048575,32767,2129919,32767,8421375,31490047,65044479,134217727,268435455]) (W:=[]) (items:=Dy) rfl af af af ?_
  iterate 7 refine .rx ?_
  refine .split (t:=15) rfl (fun cq=>?_) (fun cq=>?_)
  ·try subst cq
   try simp at cq
   iterate 8 refine .rx ?_
   refine .split (t:=23) rfl (fun fO=>?_) (fun fO=>?_)
   ·try subst fO
    try simp at fO
    iterate 14 refine .rx ?_
    refine .done ?_
    refine .cs ?_ ?_<;>intro pU
    ·try simp at pU
     exact absurd pU zi
    try simp at pU
    refine .skip (.seq (.aD iJ rfl af (.rn gy _ ?_)))
    refine .pc rfl rfl rfl rfl rfl call125 (ri) ?_
    refine .rn [6] [] ?_
    refine .done (.seq (.sr ?_))
    refine .block ?_
    refine .dF (fun z:Nat×List aO=>([(2,.ptr 0 0),(3,.ptr 1 0),(5,.grow 3 z.2.length true),(6,.vec (S.map encS)),(7,.int .i64 z.1)],⟨4,[(3,.grow 11 (z.2.map fB)),(1,.box [.int .i64 i,.int .i64 j]),(0,.box (cQ c))]⟩)) (fun z=>z.1≤S.length∧ti c i j z.1=z.2) (fun z=>S.length - z.1) (0,[]) (by simp[eC,fD]) bx ?_
    rintro⟨k,D⟩ ⟨fA,hD⟩
    simp only at fA hD ⊢
    have kK:=kK k
    rw[hD] at kK
    refine .seq (.sr ?_)
    refine .cs ?_ ?_<;>intro r9
    ·try simp at r9
     have eP:IntKind.i64.wrap ((k:Int)+1)=((k+1:Nat):Int):=by rw[wrap64 (by omega) (by omega)];omega
     have rW:k<S.length:=by omega
     obtain⟨s,hs⟩:∃s,S[k]?=some s:=⟨_,List.getElem?_eq_getElem rW⟩
     have ft:S[k]=s:=(List.getElem?_eq_some_iff.1 hs).2
     obtain⟨l6,n,i',w,hd,dw⟩:=Gr (List.mem_of_getElem? hs)
     have pn:=pn rW (by rw[ft];exact dw)
     rw[hD] at pn
     have w9:=IU l6 (by omega) (show w.length≤100 by have:=(mf bq hd).2.2.2.2.2;omega)
     clear l6
     have cz:=cz s
     rw[hE] at cz
     have vK:D.length+1≤4294967296:=by omega
     refine .skip (.seq (.block (.seq ?_)))
     refine .rX (ms:=[0,0,0,6,14,31,0,127]) (W:=[5,7]) (As:=[6]) (items:=pj) rfl af af af af (by decide) ?_
     iterate 5 refine .rf ?_
     refine .al rfl rfl (by decide) (by decide) (by decide) (by decide) fh ?_
     refine .wr rfl rfl (by decide) (.pure rfl rfl rfl call126 (by decide) (cz) (by first|rfl|simp[*]) ?_)
     intro _ e;rw[iA hd,w9] at e;subst e
     refine .wr rfl rfl (by decide) (.dS fh (by decide) ?_)
     refine .done ?_
     refine .drawn (ms:=[0,0,0,4,0,16,0,0,192,448,1022,2046,4095,8191]) (W:=[11,12]) (items:=xr) rfl af af af ?_
     iterate 11 refine .rx ?_
     refine .wv ?_
     refine .wv ?_
     refine .rx ?_
     refine .done (.rn ?_)
     refine⟨(k+1,D++[⟨i,j,i',j+w.length,n,some s⟩]),⟨by omega,pn⟩,bt,?_⟩
     exact(.mk [] [(3,6)] gK il rfl rfl rfl)
    try simp at r9
    obtain rfl:k=S.length:=by omega
    rw[Gq] at hD
    refine .exit (.sr ?_)
    refine .ret (aH ?_)
    show et _ _
    rw[hD];exact q7 (Cp _)
   try subst fO
   try simp at fO
  try subst cq
  try simp at cq
theorem p97 (c:aq)(hk:bP c=0):aM prog 97 [aK c] fun r=>et r ((.vec ((graph c).map fB))):=by
 have bq:=j7 hk
 have o4:=bq.tl
 have ep:=bq.cl
 have qL:=bq.vn
 have hC:dh c=(cQ c):=rfl
 have po:=fun i j hi hj=>aM.soft (MK c i j hk hi hj) (Cp _)
 have hIe:=z9p c
 have IW:=RU c
 have DS:=RT c
 have hIl:=RV c bq
 have ML:=MJ c bq
 unfold aK at po ⊢
 rw[hC] at po ⊢
 refine .bV func97 rfl rfl ?_
 refine .sr ?_
 refine .sr ?_
 refine .seq (.sr ?_)
 refine .block ?_
 refine .dF (fun z:Nat×List aO=>([(1,.ptr 0 0),(3,.grow 1 z.2.length true),(4,.int .i64 z.1)],⟨2,[(1,.grow 11 (z.2.map fB)),(0,.box (cQ c))]⟩)) (fun z=>z.1≤c.t.length+1∧zj c z.1=z.2) (fun z=>c.t.length+1 - z.1) (0,[]) (by simp[zj]) bx ?_
 rintro⟨i,D⟩ ⟨hi,hD⟩
 simp only at hi hD ⊢
 have vK:=hIl i hi
 have IW:=IW i
 rw[hD] at vK IW
 refine .seq (.sr ?_)
 refine .cs ?_ ?_<;>intro gU
 ·try simp at gU
  have eP:IntKind.i64.wrap ((i:Int)+1)=((i+1:Nat):Int):=by rw[wrap64 (by omega) (by omega)];omega
  have po:=fun j=>po i j (by omega)
  have DS:=DS i
  have ML:=ML i (by omega)
  refine .skip (.seq (.block (.sr ?_)))
  refine .block ?_
  refine .dF (fun z:Nat×List aO=>([(1,.ptr 0 0),(3,.grow 1 z.2.length true),(4,.int .i64 i),(5,.int .i64 z.1)],⟨2,[(1,.grow 11 (z.2.map fB)),(0,.box (cQ c))]⟩)) (fun z=>z.1≤c.c.length+1∧D++vV c i z.1=z.2) (fun z=>c.c.length+1 - z.1) (0,D) (by simp[vV]) bx ?_
  rintro⟨j,E⟩ ⟨hj,hE⟩
  simp only at hj hE ⊢
  have yad:=ML j
  have hEl:E.length≤i*2842+j*58:=by rw[← hE,List.length_append];omega
  refine .seq (.sr ?_)
  refine .cs ?_ ?_<;>intro gW
  ·try simp at gW
   have rV:IntKind.i64.wrap ((j:Int)+1)=((j+1:Nat):Int):=by rw[wrap64 (by omega) (by omega)];omega
   have po:=po j (by omega)
   have gd:=IV c i j (by omega)
   have DS:=DS j
   obtain⟨S,hS⟩:∃S,steps c i j=S:=⟨_,rfl⟩
   rw[hS] at po gd DS
   have hEz:E.length+S.length≤4294967296:=by omega
   have hEn:D++vV c i (j+1)=E++S:=by rw[DS,← hE,List.append_assoc]
   refine .skip (.seq (.block (.aD lF rfl af (.rn gy _ ?_))))
   refine .pc rfl rfl rfl rfl rfl call145 (po) ?_
   refine .rn [6,7] [] ?_
   refine .done (.rn ?_)
   refine⟨(j+1,E++S),⟨by omega,hEn⟩,bt,?_⟩
   exact(.mk [] [(1,2)] gK il rfl rfl rfl)
  try simp at gW
  obtain rfl:j=c.c.length+1:=by omega
  refine .exit (.rn ?_)
  refine⟨(i+1,E),⟨by omega,by rw[IW,hE]⟩,bt,?_⟩
  exact bx
 try simp at gU
 obtain rfl:i=c.t.length+1:=by omega
 refine .exit (.sr ?_)
 refine .ret (aH ?_)
 show et _ _
 rw[← hIe,hD];exact q7 (Cp _)
end
def DT (c:aq):List Int:=[c.om,c.le,c.tw,c.gl,c.ad]
theorem RW {vh:ah}{n2:Nat}{D:Nat→Bool}{ρ:Nat→Nat}:∀l:List Int,aA vh n2 D ρ (l.map (.int .i64)) (l.map (.int .i64))
 |[]=>.nil
 |a::r=>.cons (.same _ rfl) (RW r)
theorem RX {vh:ah}{n2:Nat}{D:Nat→Bool}{ρ:Nat→Nat}(l:List Int):kf vh n2 D ρ (.box (l.map (.int .i64))) (.box (l.map (.int .i64))):=RW l
theorem z1m (c:aq):pM c=if (DT c).all jQ=true then (if 20<c.mx.length then 2 else if me [] c.mx=true then 0 else 1) else 1:=by
 unfold pM DT
 simp only[List.all_cons,List.all_nil,Bool.and_true,Bool.and_assoc]
theorem DU {α:Type}{p:α→Bool}{l:List α}{k:Nat}(h:k<l.length)(hp:(l.take k).all p=true)(hq:p l[k]=true):(l.take (k+1)).all p=true:=by
 rw[List.take_succ_eq_append_getElem h,List.all_append,hp,Bool.true_and];simpa using hq
theorem DV {α:Type}{p:α→Bool}{l:List α}{k:Nat}(h:k<l.length)(hq:p l[k]=false):l.all p=false:=by
 rw[List.all_eq_false];exact⟨l[k],List.getElem_mem h,by simp[hq]⟩
section
variable [bE]
theorem Cr (l:List Int)(hl:l.length<4611686018427387904):aM prog 129 [ints l] fun r=>r=.bool (l.all eV):=by
 refine .bV func129 rfl rfl ?_
 refine .sr ?_
 refine .seq (.sr ?_)
 refine .block ?_
 refine .dF (fun i:Nat=>([(0,ints l),(3,.int .i64 i)],ah.empty)) (fun i=>i≤l.length∧(l.take i).all eV=true) (fun i=>l.length - i) 0 (by simp) (.pure (by simp[*]) (by simp)) ?_
 rintro i ⟨hi,ht⟩
 simp only at hi ht ⊢
 refine .seq (.sr ?_)
 refine .cs ?_ ?_<;>intro c8
 ·try simp at c8
  have eP:=fy i
  have cT:i<l.length:=by omega
  obtain⟨x,hx⟩:∃x,l[i]?=some x:=⟨_,List.getElem?_eq_getElem cT⟩
  have ki:l[i]=x:=(List.getElem?_eq_some_iff.1 hx).2
  have vS:=y6 x
  have ef:=@DU _ eV l i cT ht
  have kY:=@DV _ eV l i cT
  rw[ki] at ef kY
  obtain⟨wb,xK⟩:∃b,eV x=b:=⟨_,rfl⟩
  rw[xK] at vS ef kY
  refine .skip (.seq (.block (.seq (.aD jR rfl af (.rn dU _ ?_)))))
  refine .pc rfl rfl rfl rfl rfl call161 (vS) ?_
  refine .rn [5] [] ?_
  refine .done (.sr ?_)
  refine .cs ?_ ?_<;>intro gW
  ·try simp at gW
   have hb:=kY (by simpa using gW)
   refine .sr ?_
   refine .ret (aH ?_)
   rw[hb]
  try simp at gW
  have ha:=ef (by simpa using gW)
  refine .skip (.rn ?_)
  exact⟨i+1,⟨bt,ha⟩,bt,.pure (by simp[*]) (by simp)⟩
 try simp at c8
 obtain rfl:i=l.length:=by omega
 rw[List.take_length] at ht
 refine .exit (.sr ?_)
 refine .ret (aH ?_)
 rw[ht]
theorem MM (c:aq)(hm:c.mx.length<4611686018427387904):aM prog 128 [.agg [.int .i64 c.om,.int .i64 c.le,.int .i64 c.tw,.int .i64 c.gl,.int .i64 c.ad,.vec (c.mx.map bs)]] fun r=>r=.int .i64 (pM c):=by
 have hH:=z1m c
 refine .bV func128 rfl rfl ?_
 refine .sr ?_
 refine .sr ?_
 refine .seq (.sr ?_)
 refine .block ?_
 refine .dF (fun k:Nat=>([(1,.ptr 0 0),(3,.ptr 1 0),(4,.int .i64 k)],⟨2,[(1,.box ((DT c).map (.int .i64))),(0,.box [.int .i64 c.om,.int .i64 c.le,.int .i64 c.tw,.int .i64 c.gl,.int .i64 c.ad,.vec (c.mx.map bs)])]⟩)) (fun k=>k≤5∧((DT c).take k).all jQ=true) (fun k=>5 - k) 0 (by simp) bx ?_
 rintro k ⟨hk,ht⟩
 simp only at hk ht ⊢
 have RY:(DT c).length=5:=rfl
 obtain⟨L,hL⟩:∃L,DT c=L:=⟨_,rfl⟩
 rw[hL] at hH ht RY ⊢
 refine .seq (.sr ?_)
 refine .cs ?_ ?_<;>intro lD
 ·try simp at lD
  have eP:=fy k
  have cT:k<L.length:=by omega
  obtain⟨x,hx⟩:∃x,L[k]?=some x:=⟨_,List.getElem?_eq_getElem cT⟩
  have ki:L[k]=x:=(List.getElem?_eq_some_iff.1 hx).2
  have ra:=uw x 1 100
  have ef:=@DU _ jQ L k cT ht
  have kY:=@DV _ jQ L k cT
  rw[ki] at ef kY
  obtain⟨wb,xK⟩:∃b,jQ x=b:=⟨_,rfl⟩
  rw[show (decide (1≤x)&&decide (x≤100))=wb from xK] at ra
  rw[xK] at ef kY
  refine .skip (.seq (.block (.seq (.aD gy rfl af (.rn [0,1,2] _ ?_)))))
  refine .pc rfl rfl rfl rfl rfl call99 (ra) ?_
  refine .rn [4] [] ?_
  refine .done (.sr ?_)
  refine .cs ?_ ?_<;>intro eX
  ·try simp at eX
   have hb:=kY (by simpa using eX)
   rw[if_neg (by rw[hb];simp)] at hH
   refine .sr ?_
   refine .ret (aH ?_)
   rw[hH]
  try simp at eX
  have ha:=ef (by simpa using eX)
  refine .skip (.rn ?_)
  refine⟨k+1,⟨bt,ha⟩,bt,?_⟩
  exact(.mk [] [] MN MO rfl rfl rfl)
 try simp at lD
 obtain rfl:k=5:=by omega
 rw[← RY,List.take_length] at ht
 rw[if_pos ht] at hH
 refine .exit (.seq (.sr ?_))
 refine .cs ?_ ?_<;>intro lE
 ·try simp at lE
  rw[if_pos (by omega)] at hH
  refine .sr ?_
  refine .ret (aH ?_)
  rw[hH]
 try simp at lE
 rw[if_neg (by omega)] at hH
 refine .skip (.seq (.sr ?_))
 refine .block ?_
 refine .dF (fun k:Nat=>([(1,.ptr 0 0),(6,.int .i64 k)],⟨2,[(0,.box [.int .i64 c.om,.int .i64 c.le,.int .i64 c.tw,.int .i64 c.gl,.int .i64 c.ad,.vec (c.mx.map bs)])]⟩)) (fun k=>k≤c.mx.length∧me (c.mx.take k) (c.mx.drop k)=me [] c.mx) (fun k=>c.mx.length - k) 0 ⟨by simp,by simp⟩ bx ?_
 rintro k ⟨hk,hr⟩
 simp only at hk hr ⊢
 refine .seq (.sr ?_)
 refine .cs ?_ ?_<;>intro Gs
 ·try simp at Gs
  have eP:IntKind.i64.wrap ((k:Int)+1)=((k+1:Nat):Int):=by rw[wrap64 (by omega) (by omega)];omega
  rw[PO _ _ (by omega)] at hr
  obtain⟨x,hx⟩:∃x,c.mx[k]?=some x:=⟨_,List.getElem?_eq_getElem (by omega)⟩
  have ki:c.mx[k]=x:=(List.getElem?_eq_some_iff.1 hx).2
  rw[ki] at hr
  have hE:bs x=.agg [.int .i64 x.f,.int .i64 x.t,.int .i64 x.c]:=rfl
  have iU:mw (c.mx.take k) x=true→me (c.mx.take (k+1)) (c.mx.drop (k+1))=me [] c.mx:=fun h=>by rw[← hr,h];rfl
  have oJ:mw (c.mx.take k) x=false→me [] c.mx=false:=fun h=>by rw[← hr,h];rfl
  clear hr
  have ia:mw (c.mx.take k) x=(eV x.f&&eV x.t&&!decide (x.f=x.t)&&jQ x.c&&!((c.mx.take k).any fun y=>decide (y.f=x.f)&&decide (y.t=x.t))):=rfl
  have q1:=y6 x.f
  have q2:=y6 x.t
  have q3:=uw x.c 1 100
  obtain⟨w1,mT⟩:∃b,eV x.f=b:=⟨_,rfl⟩
  obtain⟨w3,rV⟩:∃b,eV x.t=b:=⟨_,rfl⟩
  obtain⟨w4,BP⟩:∃b,jQ x.c=b:=⟨_,rfl⟩
  obtain⟨w5,xt⟩:∃b,(x.f==x.t)=b:=⟨_,rfl⟩
  rw[mT] at q1 ia
  rw[rV] at q2 ia
  rw[show (decide (1≤x.c)&&decide (x.c≤100))=w4 from BP] at q3
  rw[BP,show decide (x.f=x.t)=w5 from xt] at ia
  refine .skip (.seq (.block (.sr ?_)))
  refine .seq (.aD dU rfl af (.rn [0,1] _ ?_))
  refine .pc rfl rfl rfl rfl rfl call161 (q1) ?_
  refine .rn [3] [] ?_
  refine .done (.seq (.aD dU rfl af ?_))
  refine .rn [0,1] _ ?_
  refine .pc rfl rfl rfl rfl rfl call161 (q2) ?_
  refine .rn [3] [] ?_
  refine .done (.seq (.aD dU rfl af ?_))
  refine .rn [0,1] _ ?_
  refine .pc rfl rfl rfl rfl rfl call99 (q3) ?_
  refine .rn [3] [] ?_
  refine .done (.seq (.seq (.aD Gt rfl af ?_)))
  refine .rn [0,1,2] _ ?_
  refine .split (t:=60) rfl (fun j8=>?_) (fun j8=>?_)
  ·try subst j8
   try simp at j8
   have hf:=oJ (by rw[ia,j8];simp)
   rw[if_neg (by rw[hf];simp)] at hH
   refine .rn [3,4,5,6,7,8,9,10,11,12,13,14,15,16] [] ?_
   refine .done (.eK rfl (.sr ?_))
   refine .ret (aH ?_)
   rw[hH]
  try subst j8
  try simp at j8
  refine .rn [3,4,5,6] _ ?_
  refine .split (t:=64) rfl (fun o8=>?_) (fun o8=>?_)
  ·try subst o8
   try simp at o8
   have hf:=oJ (by rw[ia,o8];simp)
   rw[if_neg (by rw[hf];simp)] at hH
   refine .rn [7,8,9,10,11,12,13,14,15,16] [] ?_
   refine .done (.eK rfl (.sr ?_))
   refine .ret (aH ?_)
   rw[hH]
  try subst o8
  try simp at o8
  refine .rn [7,8,9,10] _ ?_
  refine .split (t:=68) rfl (fun Cs=>?_) (fun Cs=>?_)
  ·try subst Cs
   try simp at Cs
   have hf:=oJ (by rw[ia,Cs];simp)
   rw[if_neg (by rw[hf];simp)] at hH
   refine .rn [11,12,13,14,15,16] [] ?_
   refine .done (.eK rfl (.sr ?_))
   refine .ret (aH ?_)
   rw[hH]
  try subst Cs
  try simp at Cs
  refine .rn [11,12,13,14,15,16] [] ?_
  refine .done ?_
  refine .cs ?_ ?_<;>intro kR
  ·try simp at kR
   have hf:=oJ (by rw[ia,kR];simp)
   rw[if_neg (by rw[hf];simp)] at hH
   refine .sr ?_
   refine .ret (aH ?_)
   rw[hH]
  try simp at kR
  rw[j8,o8,Cs,kR] at ia
  simp only[Bool.true_and,Bool.not_false,Bool.and_true] at ia
  have KQ:(c.mx.take k).length=k:=by rw[List.length_take];omega
  refine .skip (.sr ?_)
  refine .block ?_
  refine .dF (fun m:Nat=>([(1,.ptr 0 0),(6,.int .i64 k),(7,.ptr 2 0),(11,.int .i64 m)],⟨3,[(2,.box [.int .i64 x.f,.int .i64 x.t,.int .i64 x.c]),(0,.box [.int .i64 c.om,.int .i64 c.le,.int .i64 c.tw,.int .i64 c.gl,.int .i64 c.ad,.vec (c.mx.map bs)])]⟩)) (fun m=>m≤k∧∀y∈c.mx.take m,¬(y.f=x.f∧y.t=x.t)) (fun m=>k - m) 0 (by simp) bx ?_
  rintro m ⟨C7,hn⟩
  simp only at C7 hn ⊢
  refine .seq (.sr ?_)
  refine .cs ?_ ?_<;>intro ue
  ·try simp at ue
   have hw6:IntKind.i64.wrap ((m:Int)+1)=((m+1:Nat):Int):=by rw[wrap64 (by omega) (by omega)];omega
   have C8:m<c.mx.length:=by omega
   obtain⟨y,hy⟩:∃y,c.mx[m]?=some y:=⟨_,List.getElem?_eq_getElem C8⟩
   have zf:c.mx[m]=y:=(List.getElem?_eq_some_iff.1 hy).2
   have hEy:bs y=.agg [.int .i64 y.f,.int .i64 y.t,.int .i64 y.c]:=rfl
   obtain⟨e0,eC⟩:∃b,(y.f==x.f)=b:=⟨_,rfl⟩
   obtain⟨e1,iL⟩:∃b,(y.t==x.t)=b:=⟨_,rfl⟩
   have hyS:y∈c.mx.take k:=by rw[← zf];exact List.mem_take_iff_getElem.2 ⟨m,by omega,rfl⟩
   refine .skip (.seq (.block (.seq ?_)))
   refine .drawn (ms:=[0,1,0,7,15,31,0,64,255,511,1023,2047,1023,8191,16383,32767,1023,66559,262143,524287]) (W:=[]) (items:=Fj) rfl af af af ?_
   iterate 10 refine .rx ?_
   refine .split (t:=89) rfl (fun Gu=>?_) (fun Gu=>?_)
   ·try subst Gu
    try simp at Gu
    iterate 10 refine .rx ?_
    refine .done ?_
    refine .cs ?_ ?_<;>intro BL
    ·try simp at BL
     have IF:y.f=x.f∧y.t=x.t:=⟨by simpa using eC,by rw[BL] at iL;simpa using iL⟩
     have hf:=oJ (by rw[ia,Bool.not_eq_false'];exact List.any_eq_true.2 ⟨y,hyS,by simp[IF.1,IF.2]⟩)
     rw[if_neg (by rw[hf];simp)] at hH
     refine .sr ?_
     refine .ret (aH ?_)
     rw[hH]
    try simp at BL
    refine .skip (.rn ?_)
    refine⟨m+1,⟨bt,?_⟩,bt,bx⟩
    intro z hz
    rw[List.take_succ_eq_append_getElem C8,List.mem_append,List.mem_singleton,zf] at hz
    rcases hz with hz|rfl
    ·exact hn z hz
    intro hh;rw[BL] at iL;simp[hh.2] at iL
   try subst Gu
   try simp at Gu
   iterate 9 refine .ux ?_
   refine .rx ?_
   refine .done (.iM rfl (.skip (.rn ?_)))
   refine⟨m+1,⟨bt,?_⟩,bt,bx⟩
   intro z hz
   rw[List.take_succ_eq_append_getElem C8,List.mem_append,List.mem_singleton,zf] at hz
   rcases hz with hz|rfl
   ·exact hn z hz
   intro hh;simp[hh.1] at eC
  try simp at ue
  obtain rfl:m=k:=by omega
  have ha:=iU (by rw[ia,Bool.not_eq_true',List.any_eq_false];intro z hz hh;rw[bR,decide_eq_true_eq,decide_eq_true_eq] at hh;exact hn z hz hh)
  refine .exit (.rn ?_)
  exact⟨m+1,⟨bt,ha⟩,bt,bx⟩
 try simp at Gs
 obtain rfl:k=c.mx.length:=by omega
 rw[List.drop_length] at hr
 rw[if_pos (by rw[← hr];rfl)] at hH
 refine .exit (.sr ?_)
 refine .ret (aH ?_)
 rw[hH]
end
theorem z3x (n:Nat)(x:mc):j6 n x=((decide (0≤x.at_)&&decide (x.at_≤(n:Int)))&&(decide (1≤(x.ws.length:Int))&&decide ((x.ws.length:Int)≤6))&&x.ws.all eV):=by
 unfold j6
 rw[decide_eq_decide.2 (show (1≤(x.ws.length:Int))↔1≤x.ws.length by omega),decide_eq_decide.2 (show ((x.ws.length:Int)≤6)↔x.ws.length≤6 by omega)]
variable [bE] in
theorem p66 (c:aq)(h:BC c):aM prog 66 [aK c] fun r=>r=.int .i64 (bP c):=by
 obtain⟨hm,ht,ep,hg,hw⟩:=h
 have Gv:=MM c hm
 have hX:bP c=if pM c≠0 then pM c else if 48<c.t.length∨48<c.c.length∨6<c.g.length then 2 else if (c.t.all eV&&c.c.all eV&&c.g.all (j6 c.t.length))=true then 0 else 1:=rfl
 have hC:dh c=(cQ c):=rfl
 unfold aK
 rw[hC]
 obtain⟨H,hH⟩:∃H,pM c=H:=⟨_,rfl⟩
 rw[hH] at hX Gv
 obtain⟨g1,vt⟩:∃b,decide (48<(c.t.length:Int))=b:=⟨_,rfl⟩
 obtain⟨g2,ud⟩:∃b,decide (48<(c.c.length:Int))=b:=⟨_,rfl⟩
 obtain⟨g3,Ct⟩:∃b,decide (6<(c.g.length:Int))=b:=⟨_,rfl⟩
 have q1:=Cr c.t (by omega)
 have q2:=Cr c.c (by omega)
 obtain⟨w1,mT⟩:∃b,c.t.all eV=b:=⟨_,rfl⟩
 obtain⟨w2,eP⟩:∃b,c.c.all eV=b:=⟨_,rfl⟩
 rw[mT] at q1 hX
 rw[eP] at q2 hX
 refine .bV func66 rfl rfl ?_
 refine .sr ?_
 refine .seq (.aD dU rfl af (.rn [0,1] _ ?_))
 refine .pc rfl rfl rfl rfl rfl call128 (Gv) ?_
 refine .rn [3] [] ?_
 refine .done (.seq (.sr ?_))
 refine .cs ?_ ?_<;>intro oe
 ·try simp at oe
  rw[if_pos oe] at hX
  refine .sr ?_
  refine .ret (aH ?_)
  rw[hX]
 try simp at oe
 rw[if_neg (by simp[oe])] at hX
 refine .skip (.seq (.seq (.aD Fb rfl af (.rn gy _ ?_))))
 refine .split (t:=20) rfl (fun Gw=>?_) (fun Gw=>?_)
 ·try subst Gw
  try simp at Gw
  rw[if_pos (.inl (by have:=of_decide_eq_true vt;omega))] at hX
  refine .rn [5,6,7,8,9,10,11,12,13,14,15] [] ?_
  refine .done (.eK rfl (.sr ?_))
  refine .ret (aH ?_)
  rw[hX]
 try subst Gw
 try simp at Gw
 refine .rn [5,6,7,8,9,10] _ ?_
 refine .split (t:=26) rfl (fun Ai=>?_) (fun Ai=>?_)
 ·try subst Ai
  try simp at Ai
  rw[if_pos (.inr (.inl (by have:=of_decide_eq_true ud;omega)))] at hX
  refine .rn [11,12,13,14,15] [] ?_
  refine .done (.eK rfl (.sr ?_))
  refine .ret (aH ?_)
  rw[hX]
 try subst Ai
 try simp at Ai
 refine .rn [11,12,13,14,15] [] ?_
 refine .done ?_
 refine .cs ?_ ?_<;>intro ta
 ·try simp at ta
  rw[if_pos (.inr (.inr (by rw[ta] at Ct;have:=of_decide_eq_true Ct;omega)))] at hX
  refine .sr ?_
  refine .ret (aH ?_)
  rw[hX]
 try simp at ta
 rw[ta] at Ct
 simp only[decide_eq_false_iff_not] at vt ud Ct
 rw[if_neg (by omega)] at hX
 refine .skip (.seq (.aD dU rfl af (.rn [0,1] _ ?_)))
 refine .pc rfl rfl rfl rfl rfl call129 (q1) ?_
 refine .rn [3] [] ?_
 refine .done (.seq (.aD dU rfl af ?_))
 refine .rn [0,1] _ ?_
 refine .pc rfl rfl rfl rfl rfl call129 (q2) ?_
 refine .rn [3] [] ?_
 refine .done (.seq (.seq (.aD jR rfl af ?_)))
 refine .rn [0,1,2] _ ?_
 refine .split (t:=40) rfl (fun ka=>?_) (fun ka=>?_)
 ·try subst ka
  try simp at ka
  rw[if_neg (by rw[ka];simp)] at hX
  refine .rn [3,4,5] [] ?_
  refine .done (.eK rfl (.sr ?_))
  refine .ret (aH ?_)
  rw[hX]
 try subst ka
 try simp at ka
 refine .rn [3,4,5] [] ?_
 refine .done ?_
 refine .cs ?_ ?_<;>intro xL
 ·try simp at xL
  rw[if_neg (by rw[xL];simp)] at hX
  refine .sr ?_
  refine .ret (aH ?_)
  rw[hX]
 try simp at xL
 rw[ka,xL] at hX
 simp only[Bool.true_and] at hX
 refine .skip (.seq (.sr ?_))
 refine .block ?_
 refine .dF (fun i:Nat=>([(1,.ptr 0 0),(6,.int .i64 i)],⟨1,[(0,.box (cQ c))]⟩)) (fun i=>i≤c.g.length∧(c.g.take i).all (j6 c.t.length)=true) (fun i=>c.g.length - i) 0 (by simp) bx ?_
 rintro i ⟨hi,rj⟩
 simp only at hi rj ⊢
 refine .seq (.sr ?_)
 refine .cs ?_ ?_<;>intro iO
 ·try simp at iO
  have rV:IntKind.i64.wrap ((i:Int)+1)=((i+1:Nat):Int):=by rw[wrap64 (by omega) (by omega)];omega
  have cT:i<c.g.length:=by omega
  obtain⟨x,hx⟩:∃x,c.g[i]?=some x:=⟨_,List.getElem?_eq_getElem cT⟩
  have ki:c.g[i]=x:=(List.getElem?_eq_some_iff.1 hx).2
  have hG:cb x=.agg [.int .i64 x.at_,ints x.ws]:=rfl
  have ef:=@DU _ (j6 c.t.length) c.g i cT rj
  have kY:=@DV _ (j6 c.t.length) c.g i cT
  rw[ki,z3x] at ef kY
  have hxw:=hw x (List.mem_of_getElem? hx)
  have q3:=uw x.at_ 0 (c.t.length:Int)
  have q4:=uw (x.ws.length:Int) 1 6
  have q5:=Cr x.ws (by omega)
  obtain⟨v1,iK⟩:∃b,(decide (0≤x.at_)&&decide (x.at_≤(c.t.length:Int)))=b:=⟨_,rfl⟩
  obtain⟨v2,eI⟩:∃b,(decide (1≤(x.ws.length:Int))&&decide ((x.ws.length:Int)≤6))=b:=⟨_,rfl⟩
  obtain⟨v3,Av⟩:∃b,x.ws.all eV=b:=⟨_,rfl⟩
  rw[iK] at q3 ef kY
  rw[eI] at q4 ef kY
  rw[Av] at q5 ef kY
  clear iK eI Av
  refine .skip (.seq (.block (.seq ?_)))
  refine .drawn (ms:=[0,1,0,7,15,31,0,64,192,511,1023]) (W:=[9]) (items:=y3) rfl af af af ?_
  iterate 9 refine .rx ?_
  refine .wp rfl rfl rfl rfl rfl call99 (q3) ?_
  refine .rx ?_
  refine .done (.seq (.aD qJ rfl af ?_))
  refine .rn iJ _ ?_
  refine .pc rfl rfl rfl rfl rfl call99 (q4) ?_
  refine .rn [8] [] ?_
  refine .done (.seq (.aD lF rfl af ?_))
  refine .rn jR _ ?_
  refine .pc rfl rfl rfl rfl rfl call129 (q5) ?_
  refine .rn [7] [] ?_
  refine .done (.seq (.aD ij rfl af ?_))
  refine .rn [0,1,2] _ ?_
  refine .split (t:=78) rfl (fun Cu=>?_) (fun Cu=>?_)
  ·try subst Cu
   try simp at Cu
   have hf:=kY (by rw[Cu];simp)
   rw[if_neg (by rw[hf];simp)] at hX
   refine .rn [3,4,5,6,7,8,9] [] ?_
   refine .done (.eK rfl (.sr ?_))
   refine .ret (aH ?_)
   rw[hX]
  try subst Cu
  try simp at Cu
  refine .rn [3,4,5,6] _ ?_
  refine .split (t:=82) rfl (fun tY=>?_) (fun tY=>?_)
  ·try subst tY
   try simp at tY
   have hf:=kY (by rw[tY];simp)
   rw[if_neg (by rw[hf];simp)] at hX
   refine .rn [7,8,9] [] ?_
   refine .done (.eK rfl (.sr ?_))
   refine .ret (aH ?_)
   rw[hX]
  try subst tY
  try simp at tY
  refine .rn [7,8,9] [] ?_
  refine .done ?_
  refine .cs ?_ ?_<;>intro IX
  ·try simp at IX
   have hf:=kY (by rw[IX];simp)
   rw[if_neg (by rw[hf];simp)] at hX
   refine .sr ?_
   refine .ret (aH ?_)
   rw[hX]
  try simp at IX
  have ha:=ef (by rw[Cu,tY,IX];rfl)
  refine .skip (.rn ?_)
  exact⟨i+1,⟨bt,ha⟩,bt,bx⟩
 try simp at iO
 obtain rfl:i=c.g.length:=by omega
 rw[List.take_length] at rj
 rw[if_pos rj] at hX
 refine .exit (.sr ?_)
 refine .ret (aH ?_)
 rw[hX]
def rl (v:Int):Bool:=decide (0≤v)&&decide (v≤1099511627776)
def nP (m:Nat)(r:List Int):Bool:=decide (r.length=m+1)&&r.all rl
def AD (T:List (List Int))(i j:Nat):Int:=(T.getD i []).getD j 0
def pq (T:List (List Int))(x:aO):Bool:=!decide (AD T x.i x.j+x.n<AD T x.i' x.j')
def kM (c:aq)(T:List (List Int))(cost:Int):Bool:=decide (T.length=c.t.length+1)&&T.all (nP c.c.length)&&(graph c).all (pq T)&&decide (AD T 0 0=0)&&decide (AD T c.t.length c.c.length=cost)
theorem xan {m:Nat}{T:List (List Int)}(hT:T.all (nP m)=true){i j:Nat}(hi:i<T.length)(hj:j≤m):∃r v,T[i]?=some r∧r[j]?=some v∧AD T i j=v∧0≤v∧v≤1099511627776:=by
 rw[List.all_eq_true] at hT
 have h1:=hT T[i] (List.getElem_mem hi)
 unfold nP at h1
 rw[bR,decide_eq_true_eq,List.all_eq_true] at h1
 obtain⟨h2,h3⟩:=h1
 have dE:j<T[i].length:=by omega
 have h4:=h3 _ (List.getElem_mem dE)
 unfold rl at h4
 rw[bR,decide_eq_true_eq,decide_eq_true_eq] at h4
 refine⟨T[i],T[i][j],List.getElem?_eq_getElem hi,List.getElem?_eq_getElem dE,?_,h4.1,h4.2⟩
 unfold AD
 rw[List.getD_eq_getElem?_getD,List.getD_eq_getElem?_getD,List.getElem?_eq_getElem hi,Option.getD_some,List.getElem?_eq_getElem dE,Option.getD_some]
theorem z4v (x:aO):∃b k a i l w,fB x=.agg [.int .i64 x.i,.int .i64 x.j,.int .i64 x.i',.int .i64 x.j',.int .i64 x.n,.bool b,.int .i64 k,.int .i64 a,.int .i64 i,.int .i64 l,.int .i64 w]:=by
 unfold fB
 split
 ·exact⟨_,_,_,_,_,_,rfl⟩
 exact⟨_,_,_,_,_,_,rfl⟩
theorem xcq {c:aq}{T:List (List Int)}{cost:Int}(h:¬T.length=c.t.length+1):kM c T cost=false:=by unfold kM;rw[decide_eq_false h];rfl
theorem RZ {c:aq}{T:List (List Int)}{cost:Int}(h:T.all (nP c.c.length)=false):kM c T cost=false:=by unfold kM;rw[h,Bool.and_false];rfl
theorem xdb {c:aq}{T:List (List Int)}{cost:Int}(h:(graph c).all (pq T)=false):kM c T cost=false:=by unfold kM;rw[h,Bool.and_false];rfl
theorem xc5 {c:aq}{T:List (List Int)}{cost:Int}(h1:T.length=c.t.length+1)(h2:T.all (nP c.c.length)=true)(h3:(graph c).all (pq T)=true):kM c T cost=(decide (AD T 0 0=0)&&decide (AD T c.t.length c.c.length=cost)):=by unfold kM;rw[decide_eq_true h1,h2,h3];rfl
def DW (c:aq)(l:List ai)(cost:Int)(T:List (List Int)):Int:=if bP c≠0 then bP c else if ((eO c l).getD (-1)=cost∧0≤cost)∧kM c T cost=true then 0 else 8
section
variable [bE]
theorem MP (c:aq)(T:List (List Int))(cost:Int)(hk:bP c=0)(hT:T.length<4611686018427387904)(R0:∀r∈T,r.length<4611686018427387904):aM prog 108 [aK c,.vec (T.map ints),.int .i64 cost] fun r=>r=.bool (kM c T cost):=by
 have bq:=j7 hk
 have o4:=bq.tl
 have ep:=bq.cl
 have IY:=aM.soft (p97 c hk) (Cp _)
 have hC:dh c=(cQ c):=rfl
 unfold aK at IY ⊢
 rw[hC] at IY ⊢
 have mT:IntKind.i64.wrap ((c.t.length:Int)+1)=((c.t.length+1:Nat):Int):=by rw[wrap64 (by omega) (by omega)];omega
 have eP:IntKind.i64.wrap ((c.c.length:Int)+1)=((c.c.length+1:Nat):Int):=by rw[wrap64 (by omega) (by omega)];omega
 refine .bV func108 rfl rfl ?_
 refine .sr ?_
 refine .sr ?_
 refine .sr ?_
 refine .seq (.sr ?_)
 refine .cs ?_ ?_<;>intro fN
 ·try simp at fN
  have hX:=xcq (c:=c) (T:=T) (cost:=cost) (by omega)
  refine .sr ?_
  refine .ret (aH ?_)
  rw[hX]
 try simp at fN
 have Mz:T.length=c.t.length+1:=by omega
 refine .skip (.seq (.sr ?_))
 refine .block ?_
 refine .dF (fun i:Nat=>([(1,.vec (T.map ints)),(2,.int .i64 cost),(3,.ptr 0 0),(7,.int .i64 c.t.length),(8,.int .i64 c.c.length),(9,.int .i64 i)],⟨1,[(0,.box (cQ c))]⟩)) (fun i=>i≤c.t.length+1∧(T.take i).all (nP c.c.length)=true) (fun i=>c.t.length+1 - i) 0 (by simp) bx ?_
 rintro i ⟨hi,ht⟩
 simp only at hi ht ⊢
 refine .seq (.sr ?_)
 refine .cs ?_ ?_<;>intro p7
 ·try simp at p7
  have rV:IntKind.i64.wrap ((i:Int)+1)=((i+1:Nat):Int):=by rw[wrap64 (by omega) (by omega)];omega
  have cT:i<T.length:=by omega
  have R1:(i:Int)<(c.t.length:Int)+1:=by omega
  obtain⟨r,hr⟩:∃r,T[i]?=some r:=⟨_,List.getElem?_eq_getElem cT⟩
  have hre:T[i]=r:=(List.getElem?_eq_some_iff.1 hr).2
  have ef:=@DU _ (nP c.c.length) T i cT ht
  have kY:=@DV _ (nP c.c.length) T i cT
  rw[hre] at ef kY
  have IZ:nP c.c.length r=(decide (r.length=c.c.length+1)&&r.all rl):=rfl
  refine .skip (.seq (.block (.seq (.sr ?_))))
  refine .cs ?_ ?_<;>intro mY
  ·try simp at mY
   have hX:=RZ (cost:=cost) (kY (by rw[IZ,decide_eq_false (by omega)];rfl))
   refine .sr ?_
   refine .ret (aH ?_)
   rw[hX]
  try simp at mY
  have Mc:r.length=c.c.length+1:=by omega
  rw[decide_eq_true Mc,Bool.true_and] at IZ
  refine .skip (.sr ?_)
  refine .block ?_
  refine .dF (fun j:Nat=>([(1,.vec (T.map ints)),(2,.int .i64 cost),(3,.ptr 0 0),(7,.int .i64 c.t.length),(8,.int .i64 c.c.length),(9,.int .i64 i),(10,.int .i64 j)],⟨1,[(0,.box (cQ c))]⟩)) (fun j=>j≤c.c.length+1∧(r.take j).all rl=true) (fun j=>c.c.length+1 - j) 0 (by simp) bx ?_
  rintro j ⟨hj,rj⟩
  simp only at hj rj ⊢
  refine .seq (.sr ?_)
  refine .cs ?_ ?_<;>intro Gs
  ·try simp at Gs
   have BP:IntKind.i64.wrap ((j:Int)+1)=((j+1:Nat):Int):=by rw[wrap64 (by omega) (by omega)];omega
   have dE:j<r.length:=by omega
   have EC:(j:Int)<(c.c.length:Int)+1:=by omega
   obtain⟨v,hv⟩:∃v,r[j]?=some v:=⟨_,List.getElem?_eq_getElem dE⟩
   have hve:r[j]=v:=(List.getElem?_eq_some_iff.1 hv).2
   have iz:=@DU _ rl r j dE rj
   have Cv:=@DV _ rl r j dE
   rw[hve] at iz Cv
   have ra:=uw v 0 1099511627776
   obtain⟨vb,R3⟩:∃b,rl v=b:=⟨_,rfl⟩
   rw[show (decide (0≤v)&&decide (v≤1099511627776))=vb from R3] at ra
   rw[R3] at iz Cv
   refine .skip (.seq (.block (.seq (.aD qJ rfl af (.rn iJ _ ?_)))))
   refine .pc rfl rfl rfl rfl rfl call99 (ra) ?_
   refine .rn [8] [] ?_
   refine .done (.sr ?_)
   refine .cs ?_ ?_<;>intro Cl
   ·try simp at Cl
    have hX:=RZ (cost:=cost) (kY (by rw[IZ];exact Cv (by simpa using Cl)))
    refine .sr ?_
    refine .ret (aH ?_)
    rw[hX]
   try simp at Cl
   have oR:=iz (by simpa using Cl)
   refine .skip (.rn ?_)
   exact⟨j+1,⟨bt,oR⟩,bt,bx⟩
  try simp at Gs
  obtain rfl:j=c.c.length+1:=by omega
  rw[← Mc,List.take_length] at rj
  have ha:=ef (by rw[IZ,rj])
  refine .exit (.rn ?_)
  exact⟨i+1,⟨bt,ha⟩,bt,bx⟩
 try simp at p7
 obtain rfl:i=c.t.length+1:=by omega
 rw[← Mz,List.take_length] at ht
 have I0:=fun i j hi hj=>@xan c.c.length T ht i j hi hj
 have R4:∀x∈graph c,∃i j,i≤c.t.length∧j≤c.c.length∧I1 c i j x:=fun x hx=>by
  obtain⟨i,j,h1,h2,h3⟩:=FW.1 hx
  exact⟨i,j,h1,h2,jh bq h3⟩
 have R5:=@xdb c T cost
 have R6:=@xc5 c T cost Mz ht
 have qL:=Iu bq
 obtain⟨G,hG⟩:∃G,graph c=G:=⟨_,rfl⟩
 rw[hG] at IY R4 R5 R6 qL
 refine .exit (.seq (.aD [0,1,2] rfl af (.rn [0] _ ?_)))
 refine .pc rfl rfl rfl rfl rfl call97 (IY) ?_
 refine .rn [2] [] ?_
 refine .done (.seq (.sr ?_))
 refine .block ?_
 refine .dF (fun k:Nat=>([(1,.vec (T.map ints)),(2,.int .i64 cost),(7,.int .i64 c.t.length),(8,.int .i64 c.c.length),(12,.vec (G.map fB)),(13,.int .i64 k)],ah.empty)) (fun k=>k≤G.length∧(G.take k).all (pq T)=true) (fun k=>G.length - k) 0 (by simp) bx ?_
 rintro k ⟨fD,Dz⟩
 simp only at fD Dz ⊢
 refine .seq (.sr ?_)
 refine .cs ?_ ?_<;>intro r9
 ·try simp at r9
  have xt:IntKind.i64.wrap ((k:Int)+1)=((k+1:Nat):Int):=by rw[wrap64 (by omega) (by omega)];omega
  have fA:k<G.length:=by omega
  obtain⟨x,hx⟩:∃x,G[k]?=some x:=⟨_,List.getElem?_eq_getElem fA⟩
  have ki:G[k]=x:=(List.getElem?_eq_some_iff.1 hx).2
  have ef:=@DU _ (pq T) G k fA Dz
  have kY:=@DV _ (pq T) G k fA
  rw[ki] at ef kY
  obtain⟨i0,j0,Cf,hj0,gg⟩:=R4 x (List.mem_of_getElem? hx)
  obtain⟨xb,xk,xa,xi,xl,xw,hD⟩:=z4v x
  have pE:=gg.fi;have w7:=gg.fj;have Yd:=gg.it;have Kf:=gg.jt;have BX:=gg.n0;have jy:=gg.n1
  obtain⟨r1,v1,oJ,iK,Bw,MQ,MR⟩:=I0 x.i x.j (by omega) (by omega)
  obtain⟨r2,v2,iU,eI,rj,MS,MT⟩:=I0 x.i' x.j' (by omega) (by omega)
  have R7:pq T x = !decide (v1+x.n<v2):=by unfold pq;rw[Bw,rj]
  have Cw:=List.getElem?_eq_some_iff.1 oJ
  have Cx:=List.getElem?_eq_some_iff.1 iU
  have y9:=List.getElem?_eq_some_iff.1 iK
  have za:=List.getElem?_eq_some_iff.1 eI
  obtain⟨MU,Cw⟩:=Cw
  obtain⟨MV,Cx⟩:=Cx
  obtain⟨MW,y9⟩:=y9
  obtain⟨MX,za⟩:=za
  have hxi:(x.i:Int)<(c.t.length:Int)+1:=by omega
  have yae:(x.i':Int)<(c.t.length:Int)+1:=by omega
  have hwx:IntKind.i64.wrap (v1+x.n)=v1+x.n:=wrap64 (by omega) (by omega)
  clear pE w7 gg Bw rj Cf hj0
  refine .skip (.seq (.block (.sr ?_)))
  refine .seq ?_
  refine .drawn (ms:=[0,0,2,6,15,31,0,64,192,511,1023,0,0,4096,12288,30720,63488,0,131072,393216,1046528,2095104,0,4194304,16775168,33554431]) (W:=[]) (items:=[.op 0,.op 1,.op 2,.op 3,.op 4,.op 5,.op 6,.op 7,.op 8,.op 9,.op 10,.op 11,.op 12,.op 13,.op 14,.op 15,.op 16,.op 17,.op 18,.op 19,.op 20,.op 21,.op 22,.op 23,.op 24,.op 25]) rfl af af af ?_
  iterate 26 refine .rx ?_
  refine .done ?_
  refine .cs ?_ ?_<;>intro R8
  ·try simp at R8
   have hX:=R5 (kY (by rw[R7,decide_eq_true (by omega)];rfl))
   refine .sr ?_
   refine .ret (aH ?_)
   rw[hX]
  try simp at R8
  have ha:=ef (by rw[R7,decide_eq_false (by omega)];rfl)
  refine .skip (.rn ?_)
  exact⟨k+1,⟨bt,ha⟩,bt,bx⟩
 try simp at r9
 obtain rfl:k=G.length:=by omega
 rw[List.take_length] at Dz
 have hX:=R6 Dz
 obtain⟨r1,v1,oJ,iK,Bw,MQ,MR⟩:=I0 0 0 (by omega) (by omega)
 obtain⟨r2,v2,iU,eI,rj,MS,MT⟩:=I0 c.t.length c.c.length (by omega) (by omega)
 rw[Bw,rj] at hX
 obtain⟨MU,Cw⟩:=List.getElem?_eq_some_iff.1 oJ
 obtain⟨MV,Cx⟩:=List.getElem?_eq_some_iff.1 iU
 obtain⟨MW,y9⟩:=List.getElem?_eq_some_iff.1 iK
 obtain⟨MX,za⟩:=List.getElem?_eq_some_iff.1 eI
 have kP:(c.t.length:Int)<(c.t.length:Int)+1:=by omega
 have j9:(0:Int)<(c.t.length:Int)+1:=by omega
 obtain⟨b1,gG⟩:∃b,(v1==0)=b:=⟨_,rfl⟩
 obtain⟨b2,cK⟩:∃b,(v2==cost)=b:=⟨_,rfl⟩
 rw[show decide (v1=0)=b1 from gG,show decide (v2=cost)=b2 from cK] at hX
 refine .exit (.seq (.aD nJ rfl af (.rn iJ _ ?_)))
 refine .split (t:=98) rfl (fun vW=>?_) (fun vW=>?_)
 ·try subst vW
  try simp at vW
  refine .rn [7,8,9,10,11,12,13,14,15,16,17] [] ?_
  refine .done (.ret (aH ?_))
  rw[hX];rfl
 try subst vW
 try simp at vW
 refine .rn [7,8,9,10,11,12,13,14,15,16,17] [] ?_
 refine .done (.ret (aH ?_))
 rw[hX];rfl
theorem p50 (c:aq)(l:List ai)(cost:Int)(T:List (List Int))(hB:BC c)(fa:l.length≤200)(hT:T.length<4611686018427387904)(R0:∀r∈T,r.length<4611686018427387904):aM prog 50 [aK c,.agg [.vec (l.map encS),.int .i64 cost,.vec (T.map ints)]] fun r=>r=.int .i64 (DW c l cost T):=by
 have DX:=p66 c hB
 have tj:=Mo c l
 have tk:=MP c T cost
 have hC:dh c=(cQ c):=rfl
 unfold aK at DX tj tk ⊢
 rw[hC] at DX tj tk ⊢
 refine .bV func50 rfl rfl ?_
 by_cases hk:bP c=0
 ·
  have tj:=tj hk fa
  have tk:=tk hk hT R0
  have hX:DW c l cost T=if ((eO c l).getD (-1)=cost∧0≤cost)∧kM c T cost=true then 0 else 8:=by unfold DW;rw[if_neg (by simp[hk])]
  rw[hk] at DX
  obtain⟨E,hE⟩:∃E,(eO c l).getD (-1)=E:=⟨_,rfl⟩
  rw[hE] at tj hX
  obtain⟨pb,hpb⟩:∃b,kM c T cost=b:=⟨_,rfl⟩
  rw[hpb] at tk hX
  obtain⟨g1,vt⟩:∃b,decide (E<0)=b:=⟨_,rfl⟩
  obtain⟨g2,ud⟩:∃b,(E != cost)=b:=⟨_,rfl⟩
  refine .sr ?_
  refine .seq (.aD [0,1,2] rfl af (.rn [0] _ ?_))
  refine .pc rfl rfl rfl rfl rfl call66 (DX) ?_
  refine .rn [2] [] ?_
  refine .done (.seq (.sr ?_))
  refine .cs ?_ ?_<;>intro ku
  ·try simp at ku
  try simp at ku
  refine .skip (.seq (.aD gy rfl af (.rn [0,1,2] _ ?_)))
  refine .pc rfl rfl rfl rfl rfl call107 (tj) ?_
  refine .rn [4] [] ?_
  refine .done (.seq (.seq (.aD lF rfl af ?_)))
  refine .rn [0,1,2] _ ?_
  refine .split (t:=19) rfl (fun jJ=>?_) (fun jJ=>?_)
  ·try subst jJ
   try simp at jJ
   rw[if_neg (fun hh=>by have:=of_decide_eq_true vt;omega)] at hX
   refine .rn [3,4,5,6,7] [] ?_
   refine .done (.eK rfl (.sr ?_))
   refine .ret (aH ?_)
   rw[hX]
  try subst jJ
  try simp at jJ
  refine .rn [3,4,5,6,7] [] ?_
  refine .done ?_
  refine .cs ?_ ?_<;>intro lD
  ·try simp at lD
   rw[if_neg (fun hh=>by rw[lD] at ud;simp at ud;exact ud hh.1.1)] at hX
   refine .sr ?_
   refine .ret (aH ?_)
   rw[hX]
  try simp at lD
  have hE0:E=cost:=by rw[lD] at ud;simpa using ud
  have hE1:0≤cost:=by have:=of_decide_eq_false vt;omega
  refine .skip (.seq (.aD iJ rfl af (.rn gy _ ?_)))
  refine .pc rfl rfl rfl rfl rfl call108 (tk) ?_
  refine .rn [6] [] ?_
  refine .done (.seq (.sr ?_))
  refine .cs ?_ ?_<;>intro eX
  ·try simp at eX
   rw[if_neg (fun hh=>by have h2:=hh.2;rw[eX] at h2;cases h2)] at hX
   refine .sr ?_
   refine .ret (aH ?_)
   rw[hX]
  try simp at eX
  rw[if_pos ⟨⟨hE0,hE1⟩,by simpa using eX⟩] at hX
  refine .skip (.sr ?_)
  refine .ret (aH ?_)
  rw[hX]
 ·
  have hX:DW c l cost T=bP c:=by unfold DW;rw[if_pos hk]
  obtain⟨K,hK⟩:∃K,bP c=K:=⟨_,rfl⟩
  rw[hK] at DX hX hk
  refine .sr ?_
  refine .seq (.aD [0,1,2] rfl af (.rn [0] _ ?_))
  refine .pc rfl rfl rfl rfl rfl call66 (DX) ?_
  refine .rn [2] [] ?_
  refine .done (.seq (.sr ?_))
  refine .cs ?_ ?_<;>intro ku
  ·try simp at ku
   refine .sr ?_
   refine .ret (aH ?_)
   rw[hX]
  try simp at ku
  exact absurd ku hk
end
end Go.Am.Sl
end
