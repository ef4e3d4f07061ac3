/-
 What is used in the proof of a statement (part SlH); no condition.
-/
import Derived.Test.YthnmgbgmlhackaaGreatDoorSlZ
import Derived.Test.YthnmgbgmlhackaaGreatDoorVm2
import Derived.Test.YthnmgbgmlhackaaGreatDoorSlT
import Derived.Test.YthnmgbgmlhackaaGreatDoorSlG
set_option linter.all false
set_option maxHeartbeats 40000000
set_option maxRecDepth 100000
section
namespace Go.Am.Sl
open Go Go.Am Go.Proofs Tryz
attribute [local simp] fZ jh tW eo jM pg ai.back dE ji nr bm Nat.testBit_eq_decide_div_mod_eq cN jL o9 vO sy kh sA jY dh qq qo ss ki su rp oz tU rm sv sg sd sh se sf sj sn pO gz lq fY sB qt rq sC sD pN tR tS kg pa iz gO iA nc jF qZ qe qf kL rY bp rl gN bZ cm nR ai.get ai.alloc ai.put ai.drop ai.empty bs dN jz kx gA cG chunk List.range List.range.loop ns tX oA bK cA PV.aH PV.aJ PV.dU PV.gM kQ kj ru PV.one PV.ids PV.di ia beq_eq vc xq
attribute [local simp] cQ bQ km tZ y1 ue uf sU jk gr
attribute [local simp ↓ high] xu vi IX
def fI (x:aR):PV:=match x.s with
 |some s=>.agg [.int .i64 x.i,.int .i64 x.j,.int .i64 x.i',.int .i64 x.j',.int .i64 x.n,.bool false,.int .i64 s.k,.int .i64 s.a,.int .i64 s.i,.int .i64 s.l,.int .i64 s.w]
 |none=>.agg [.int .i64 x.i,.int .i64 x.j,.int .i64 x.i',.int .i64 x.j',.int .i64 x.n,.bool true,.int .i64 0,.int .i64 0,.int .i64 0,.int .i64 0,.int .i64 0]
theorem z8k (i j i' j':Nat)(n:Int)(s:aq):fI ⟨i,j,i',j',n,some s⟩=.agg [.int .i64 i,.int .i64 j,.int .i64 i',.int .i64 j',.int .i64 n,.bool false,.int .i64 s.k,.int .i64 s.a,.int .i64 s.i,.int .i64 s.l,.int .i64 s.w]:=rfl
theorem z8e (i j i' j':Nat)(n:Int):fI ⟨i,j,i',j',n,none⟩=.agg [.int .i64 i,.int .i64 j,.int .i64 i',.int .i64 j',.int .i64 n,.bool true,.int .i64 0,.int .i64 0,.int .i64 0,.int .i64 0,.int .i64 0]:=rfl
attribute [local simp] z8k z8e
theorem zwt (c:ao)(i j:Nat):(i<c.t.length∧j<c.c.length∧c.t.getD i 0=c.c.getD j 0)∨¬i<c.t.length∨(i<c.t.length∧¬j<c.c.length)∨(i<c.t.length∧j<c.c.length∧¬c.t.getD i 0=c.c.getD j 0):=by
 by_cases h1:i<c.t.length
 ·by_cases h2:j<c.c.length
  ·by_cases h3:c.t.getD i 0=c.c.getD j 0
   ·exact .inl ⟨h1,h2,h3⟩
   exact .inr (.inr (.inr ⟨h1,h2,h3⟩))
  exact .inr (.inr (.inl ⟨h1,h2⟩))
 exact .inr (.inl h1)
theorem z0p (x:aR):(fI x).cells.length=11:=by unfold fI;split<;>rfl
@[simp] theorem z7e (l:List aR):ky 11 (l.map fI)=true:=xr (f:=fI) (n:=11) z0p l
@[simp] theorem z3n (l:List aR):kz (l.map fI)=true:=xt (f:=fI) (fun x=>by unfold fI;split<;>simp[PV.one]) l
theorem Cy (l:List aR):(PV.vec (l.map fI)).aH=true:=by simp[PV.aH]
theorem RQ (l:List aq):(PV.vec (l.map encS)).aH=true:=by simp[PV.aH]
theorem RR {α β:Type}{f g:α→Option β}:∀ {l:List α},(∀x∈l,f x=g x)→l.filterMap f=l.filterMap g
 |[],_=>rfl
 |a::r,h=>by rw[List.filterMap_cons,List.filterMap_cons,h a List.mem_cons_self,RR fun x hx=>h x (List.mem_cons_of_mem _ hx)]
theorem zzf (c:ao)(i j:Nat):steps c i j=cp c i j++(kF c i j).filterMap (stepOf c i j):=by
 unfold steps cp kF
 congr 1
 rw[List.filterMap_filter]
 refine RR ?_
 intro s hs
 unfold jj stepOf
 have h2:=(DK hs).2
 cases hd:aK c s with
 |none=>simp
 |some x=>
  obtain⟨n,i',w⟩:=x
  simp only
  rw[h2,Int.toNat_natCast]
  split<;>rfl
theorem zxc {c:ao}{i j:Nat}{s:aq}(h:s∈kF c i j):s.i=j∧∃n i' w,aK c s=some (n,i',w)∧stepOf c i j s=some ⟨i,j,i',j+w.length,n,some s⟩:=by
 unfold kF at h
 rw[List.mem_filter] at h
 have h2:=(DK h.1).2
 refine⟨h2,?_⟩
 have h3:=h.2
 unfold jj at h3
 unfold stepOf
 cases hd:aK c s with
 |none=>rw[hd] at h3;cases h3
 |some x=>
  obtain⟨n,i',w⟩:=x
  rw[hd] at h3
  simp only at h3
  rw[h2,Int.toNat_natCast] at h3
  exact⟨n,i',w,rfl,by simp only;rw[if_pos h3]⟩
theorem I3 {s:aq}{j:Nat}{w:List Int}(h:s.i=j)(hj:j≤100)(hw:w.length≤100):iV s w=((j+w.length:Nat):Int):=by
 unfold iV
 rw[h]
 split
 ·rename_i hh;rw[hh];simp
 rw[wrap64 (by omega) (by omega)];omega
theorem zvi (c:ao)(i j:Nat)(hi:i≤c.t.length):(kF c i j).length≤c.t.length+c.g.length+4:=by
 have h1:=I4 c i j hi
 have h2:(kF c i j).length≤(kE c i j).length:=List.length_filter_le _ _
 have h3:(kE c i j).length≤c.t.length+c.g.length+3:=by
  unfold kE
  simp only[List.length_append,List.length_map,List.length_range,List.length_singleton]
  have a1:(if j<c.c.length then [(⟨1,i,j,0,c.c.getD j 0⟩:aq)] else []).length≤1:=by split<;>simp
  have a2:(if j<c.c.length then [(⟨6,i,j,0,c.c.getD j 0⟩:aq)] else []).length≤1:=by split<;>simp
  omega
 omega
theorem z4f (c:ao)(i j:Nat):(cp c i j).length≤1:=by unfold cp;split<;>simp
def tg (c:ao)(i j k:Nat):List aR:=cp c i j++((kF c i j).take k).filterMap (stepOf c i j)
theorem z1w (c:ao)(i j:Nat):tg c i j 0=cp c i j:=by unfold tg;simp
theorem z0w {c:ao}{i j k:Nat}(h:k<(kF c i j).length){x:aR}(hx:stepOf c i j (kF c i j)[k]=some x):tg c i j (k+1)=tg c i j k++[x]:=by
 unfold tg
 rw[List.take_succ_eq_append_getElem h,List.filterMap_append,List.append_assoc]
 congr 2
 simp[hx]
theorem z4v (c:ao)(i j:Nat):tg c i j (kF c i j).length=steps c i j:=by unfold tg;rw[List.take_length,← zzf]
theorem z6s (c:ao)(i j k:Nat):(tg c i j k).length≤k+1:=by
 unfold tg
 have h1:=z4f c i j
 have h2:(((kF c i j).take k).filterMap (stepOf c i j)).length≤((kF c i j).take k).length:=List.length_filterMap_le _ _
 rw[List.length_take] at h2
 rw[List.length_append]
 omega
def vX (c:ao)(i j:Nat):List aR:=(List.range j).flatMap fun j=>steps c i j
def zu (c:ao)(i:Nat):List aR:=(List.range i).flatMap fun i=>vX c i (c.c.length+1)
theorem RS (c:ao)(i j:Nat):vX c i (j+1)=vX c i j++steps c i j:=by unfold vX;rw[List.range_succ,List.flatMap_append];simp
theorem RT (c:ao)(i:Nat):zu c (i+1)=zu c i++vX c i (c.c.length+1):=by unfold zu;rw[List.range_succ,List.flatMap_append];simp
theorem xaq (c:ao):zu c (c.t.length+1)=graph c:=by
 unfold zu vX graph places
 rw[List.flatMap_assoc]
 congr 1
 funext i
 rw[List.flatMap_map]
theorem MP (c:ao)(hr:Rt c)(i:Nat)(hi:i≤c.t.length):∀j,(vX c i j).length≤j*58
 |0=>by simp[vX]
 |j+1=>by
  have h1:=I4 c i j hi
  have h2:=MP c hr i hi j
  have h3:=hr.tl
  have h4:=hr.sH
  rw[RS,List.length_append]
  omega
theorem RU (c:ao)(hr:Rt c):∀i,i≤c.t.length+1→(zu c i).length≤i*2842
 |0,_=>by simp[zu]
 |i+1,h=>by
  have h1:=MP c hr i (by omega) (c.c.length+1)
  have h2:=RU c hr i (by omega)
  have h3:=hr.cl
  rw[RT,List.length_append]
  omega
section
variable [bG]
theorem RV (c:ao)(i j:Nat)(hk:bf c=0)(hi:i≤c.t.length)(hj:j≤c.c.length):aN prog 125 [aD c,.int .i64 i,.int .i64 j] fun r=>r=.vec ((kF c i j).map encS):=by
 have h:=MM c i j hk hi hj
 rw[zxn c i j hi] at h
 refine aN.soft (v:=.vec ((kF c i j).map encS)) (h.mono fun r _ hr=>⟨hr.1,?_⟩) (RQ _)
 show dO r _
 rw[hr.2]
 unfold eL
 split
 ·rename_i hn;rw[hn];exact .dV
 exact ly (RQ _)
theorem MQ (c:ao)(i j:Nat)(hk:bf c=0)(hi:i≤c.t.length)(hj:j≤c.c.length):aN prog 145 [aD c,.agg [.int .i64 i,.int .i64 j]] fun r=>dO r ((.vec ((steps c i j).map fI))):=by
 have bj:=iC hk
 have oB:=bj.tl
 have eJ:=bj.cl
 have pS:=bj.sH
 have hC:cw c=(cQ c):=rfl
 have hE:∀s:aq,encS s=.agg [.int .i64 s.k,.int .i64 s.a,.int .i64 s.i,.int .i64 s.l,.int .i64 s.w]:=fun _=>rfl
 have bU:=fun s=>zf c s hk
 have jS:=RV c i j hk hi hj
 have fL:=zvi c i j hi
 have pC:=@z0w c i j
 have lf:=z6s c i j
 have GA:=z4v c i j
 have er:=z1w c i j
 have GB:=@zxc c i j
 unfold aD at bU jS ⊢
 rw[hC] at bU jS ⊢
 obtain⟨S,hS⟩:∃S,kF c i j=S:=⟨_,rfl⟩
 rw[hS] at jS fL pC GA GB
 refine .bP func145 rfl rfl ?_
 rcases zwt c i j with hkp|dx|⟨dx,dY⟩|⟨dx,dY,heq⟩
 ·
  obtain⟨dx,dY,heq⟩:=hkp
  obtain⟨x,hx⟩:∃x,c.t[i]?=some x:=⟨_,List.getElem?_eq_getElem dx⟩
  have lL:c.t[i]=x:=(List.getElem?_eq_some_iff.1 hx).2
  have MR:c.c[j]?=some x:=by
   rw[List.getD_eq_getElem?_getD,hx,List.getD_eq_getElem?_getD,List.getElem?_eq_getElem dY] at heq
   rw[List.getElem?_eq_getElem dY];simp only[Option.getD_some] at heq;rw[heq]
  have yac:c.c[j]=x:=(List.getElem?_eq_some_iff.1 MR).2
  have gP:cp c i j=[⟨i,j,i+1,j+1,0,none⟩]:=if_pos ⟨dx,dY,heq⟩
  have np:IntKind.i64.wrap ((i:Int)+1)=((i+1:Nat):Int):=by rw[wrap64 (by omega) (by omega)];omega
  have rB:IntKind.i64.wrap ((j:Int)+1)=((j+1:Nat):Int):=by rw[wrap64 (by omega) (by omega)];omega
  refine .sr ?_
  refine .sr ?_
  refine .seq (.seq ?_)
  refine .drawn (ms:=[0,1,0,4,12,31,63,127,255,127,639,1663,4095,8191,16383,32767,65535,32767,163839,524287,1048575,32767,2129919,32767,8421375,31490047,65044479,134217727,268435455]) (W:=[]) (items:=B7) rfl af af af ?_
  iterate 7 refine .rx ?_
  refine .split (t:=15) rfl (fun cb=>?_) (fun cb=>?_)
  ·try subst cb
   try simp at cb
   iterate 8 refine .rx ?_
   refine .split (t:=23) rfl (fun fm=>?_) (fun fm=>?_)
   ·try subst fm
    try simp at fm
    iterate 14 refine .rx ?_
    refine .done ?_
    refine .cs ?_ ?_<;>intro nX
    ·try simp at nX
     refine .rn ?_
     refine .seq (.au gE rfl af (.rn fe _ ?_))
     refine .pc rfl rfl rfl rfl rfl call125 (jS) ?_
     refine .rn [6] [] ?_
     refine .done (.seq (.sr ?_))
     refine .block ?_
     refine .ec (fun z:Nat×List aR=>([(2,.ptr 0 0),(3,.ptr 1 0),(5,.grow 3 z.2.length true),(6,.vec (S.map encS)),(7,.int .i64 z.1)],⟨4,[(3,.grow 11 (z.2.map fI)),(1,.box [.int .i64 i,.int .i64 j]),(0,.box (cQ c))]⟩)) (fun z=>z.1≤S.length∧tg c i j z.1=z.2) (fun z=>S.length - z.1) (0,[⟨i,j,i+1,j+1,0,none⟩]) (by simp[er,gP]) bT ?_
     rintro⟨k,D⟩ ⟨fH,hD⟩
     simp only at fH hD ⊢
     have lf:=lf k
     rw[hD] at lf
     refine .seq (.sr ?_)
     refine .cs ?_ ?_<;>intro rM
     ·try simp at rM
      have eO:IntKind.i64.wrap ((k:Int)+1)=((k+1:Nat):Int):=by rw[wrap64 (by omega) (by omega)];omega
      have rC:k<S.length:=by omega
      obtain⟨s,hs⟩:∃s,S[k]?=some s:=⟨_,List.getElem?_eq_getElem rC⟩
      have fU:S[k]=s:=(List.getElem?_eq_some_iff.1 hs).2
      obtain⟨nP,n,i',w,hd,dB⟩:=GB (List.mem_of_getElem? hs)
      have pC:=pC rC (by rw[fU];exact dB)
      rw[hD] at pC
      have xf:=I3 nP (by omega) (show w.length≤100 by have:=(kS bj hd).2.2.2.2.2;omega)
      clear nP
      have bU:=bU s
      rw[hE] at bU
      have vL:D.length+1≤4294967296:=by omega
      refine .skip (.seq (.block (.seq ?_)))
      refine .rD (ms:=[0,0,0,6,14,31,0,127]) (W:=[5,7]) (As:=[6]) (items:=pB) rfl af af af af (by decide) ?_
      iterate 5 refine .rf ?_
      refine .al rfl rfl (by decide) (by decide) (by decide) (by decide) fA ?_
      refine .wr rfl rfl (by decide) (.pure rfl rfl rfl call126 (by decide) (bU) (by first|rfl|simp[*]) ?_)
      intro _ e;rw[ig hd,xf] at e;subst e
      refine .wr rfl rfl (by decide) (.eo fA (by decide) ?_)
      refine .done ?_
      refine .drawn (ms:=[0,0,0,4,0,16,0,0,192,448,1022,2046,4095,8191]) (W:=[11,12]) (items:=xB) rfl af af af ?_
      iterate 11 refine .rx ?_
      refine .wv ?_
      refine .wv ?_
      refine .rx ?_
      refine .done (.rn ?_)
      refine⟨(k+1,D++[⟨i,j,i',j+w.length,n,some s⟩]),⟨by omega,pC⟩,bC,?_⟩
      exact(.mk [] [(3,6)] ib iQ rfl rfl rfl)
     try simp at rM
     obtain rfl:k=S.length:=by omega
     rw[GA] at hD
     refine .exit (.sr ?_)
     refine .ret (aA ?_)
     show dO _ _
     rw[hD];exact ly (Cy _)
    try simp at nX
   try subst fm
   try simp at fm
  try subst cb
  try simp at cb
 ·
  have gP:cp c i j=[]:=if_neg (fun hh=>dx hh.1)
  refine .sr ?_
  refine .sr ?_
  refine .seq (.seq ?_)
  refine .drawn (ms:=[0,1,0,4,12,31,63,127,255,127,639,1663,4095,8191,16383,32767,65535,32767,163839,524287,1048575,32767,2129919,32767,8421375,31490047,65044479,134217727,268435455]) (W:=[]) (items:=B7) rfl af af af ?_
  iterate 7 refine .rx ?_
  refine .split (t:=15) rfl (fun cb=>?_) (fun cb=>?_)
  ·try subst cb
   try simp at cb
  try subst cb
  try simp at cb
  iterate 6 refine .ux ?_
  iterate 2 refine .rx ?_
  iterate 13 refine .ux ?_
  refine .rx ?_
  refine .done (.gn rfl (.skip (.seq ?_)))
  refine .au gE rfl af (.rn fe _ ?_)
  refine .pc rfl rfl rfl rfl rfl call125 (jS) ?_
  refine .rn [6] [] ?_
  refine .done (.seq (.sr ?_))
  refine .block ?_
  refine .ec (fun z:Nat×List aR=>([(2,.ptr 0 0),(3,.ptr 1 0),(5,.grow 3 z.2.length true),(6,.vec (S.map encS)),(7,.int .i64 z.1)],⟨4,[(3,.grow 11 (z.2.map fI)),(1,.box [.int .i64 i,.int .i64 j]),(0,.box (cQ c))]⟩)) (fun z=>z.1≤S.length∧tg c i j z.1=z.2) (fun z=>S.length - z.1) (0,[]) (by simp[er,gP]) bT ?_
  rintro⟨k,D⟩ ⟨fH,hD⟩
  simp only at fH hD ⊢
  have lf:=lf k
  rw[hD] at lf
  refine .seq (.sr ?_)
  refine .cs ?_ ?_<;>intro rM
  ·try simp at rM
   have eO:IntKind.i64.wrap ((k:Int)+1)=((k+1:Nat):Int):=by rw[wrap64 (by omega) (by omega)];omega
   have rC:k<S.length:=by omega
   obtain⟨s,hs⟩:∃s,S[k]?=some s:=⟨_,List.getElem?_eq_getElem rC⟩
   have fU:S[k]=s:=(List.getElem?_eq_some_iff.1 hs).2
   obtain⟨nP,n,i',w,hd,dB⟩:=GB (List.mem_of_getElem? hs)
   have pC:=pC rC (by rw[fU];exact dB)
   rw[hD] at pC
   have xf:=I3 nP (by omega) (show w.length≤100 by have:=(kS bj hd).2.2.2.2.2;omega)
   clear nP
   have bU:=bU s
   rw[hE] at bU
   have vL:D.length+1≤4294967296:=by omega
   refine .skip (.seq (.block (.seq ?_)))
   refine .rD (ms:=[0,0,0,6,14,31,0,127]) (W:=[5,7]) (As:=[6]) (items:=pB) rfl af af af af (by decide) ?_
   iterate 5 refine .rf ?_
   refine .al rfl rfl (by decide) (by decide) (by decide) (by decide) fA ?_
   refine .wr rfl rfl (by decide) (.pure rfl rfl rfl call126 (by decide) (bU) (by first|rfl|simp[*]) ?_)
   intro _ e;rw[ig hd,xf] at e;subst e
   refine .wr rfl rfl (by decide) (.eo fA (by decide) ?_)
   refine .done ?_
   refine .drawn (ms:=[0,0,0,4,0,16,0,0,192,448,1022,2046,4095,8191]) (W:=[11,12]) (items:=xB) rfl af af af ?_
   iterate 11 refine .rx ?_
   refine .wv ?_
   refine .wv ?_
   refine .rx ?_
   refine .done (.rn ?_)
   refine⟨(k+1,D++[⟨i,j,i',j+w.length,n,some s⟩]),⟨by omega,pC⟩,bC,?_⟩
   exact(.mk [] [(3,6)] ib iQ rfl rfl rfl)
  try simp at rM
  obtain rfl:k=S.length:=by omega
  rw[GA] at hD
  refine .exit (.sr ?_)
  refine .ret (aA ?_)
  show dO _ _
  rw[hD];exact ly (Cy _)
 ·
  have gP:cp c i j=[]:=if_neg (fun hh=>dY hh.2.1)
  refine .sr ?_
  refine .sr ?_
  refine .seq (.seq ?_)
  refine .drawn (ms:=[0,1,0,4,12,31,63,127,255,127,639,1663,4095,8191,16383,32767,65535,32767,163839,524287,1048575,32767,2129919,32767,8421375,31490047,65044479,134217727,268435455]) (W:=[]) (items:=B7) rfl af af af ?_
  iterate 7 refine .rx ?_
  refine .split (t:=15) rfl (fun cb=>?_) (fun cb=>?_)
  ·try subst cb
   try simp at cb
   iterate 8 refine .rx ?_
   refine .split (t:=23) rfl (fun fm=>?_) (fun fm=>?_)
   ·try subst fm
    try simp at fm
   try subst fm
   try simp at fm
   iterate 13 refine .ux ?_
   refine .rx ?_
   refine .done (.gn rfl (.skip (.seq ?_)))
   refine .au gE rfl af (.rn fe _ ?_)
   refine .pc rfl rfl rfl rfl rfl call125 (jS) ?_
   refine .rn [6] [] ?_
   refine .done (.seq (.sr ?_))
   refine .block ?_
   refine .ec (fun z:Nat×List aR=>([(2,.ptr 0 0),(3,.ptr 1 0),(5,.grow 3 z.2.length true),(6,.vec (S.map encS)),(7,.int .i64 z.1)],⟨4,[(3,.grow 11 (z.2.map fI)),(1,.box [.int .i64 i,.int .i64 j]),(0,.box (cQ c))]⟩)) (fun z=>z.1≤S.length∧tg c i j z.1=z.2) (fun z=>S.length - z.1) (0,[]) (by simp[er,gP]) bT ?_
   rintro⟨k,D⟩ ⟨fH,hD⟩
   simp only at fH hD ⊢
   have lf:=lf k
   rw[hD] at lf
   refine .seq (.sr ?_)
   refine .cs ?_ ?_<;>intro rM
   ·try simp at rM
    have eO:IntKind.i64.wrap ((k:Int)+1)=((k+1:Nat):Int):=by rw[wrap64 (by omega) (by omega)];omega
    have rC:k<S.length:=by omega
    obtain⟨s,hs⟩:∃s,S[k]?=some s:=⟨_,List.getElem?_eq_getElem rC⟩
    have fU:S[k]=s:=(List.getElem?_eq_some_iff.1 hs).2
    obtain⟨nP,n,i',w,hd,dB⟩:=GB (List.mem_of_getElem? hs)
    have pC:=pC rC (by rw[fU];exact dB)
    rw[hD] at pC
    have xf:=I3 nP (by omega) (show w.length≤100 by have:=(kS bj hd).2.2.2.2.2;omega)
    clear nP
    have bU:=bU s
    rw[hE] at bU
    have vL:D.length+1≤4294967296:=by omega
    refine .skip (.seq (.block (.seq ?_)))
    refine .rD (ms:=[0,0,0,6,14,31,0,127]) (W:=[5,7]) (As:=[6]) (items:=pB) rfl af af af af (by decide) ?_
    iterate 5 refine .rf ?_
    refine .al rfl rfl (by decide) (by decide) (by decide) (by decide) fA ?_
    refine .wr rfl rfl (by decide) (.pure rfl rfl rfl call126 (by decide) (bU) (by first|rfl|simp[*]) ?_)
    intro _ e;rw[ig hd,xf] at e;subst e
    refine .wr rfl rfl (by decide) (.eo fA (by decide) ?_)
    refine .done ?_
    refine .drawn (ms:=[0,0,0,4,0,16,0,0,192,448,1022,2046,4095,8191]) (W:=[11,12]) (items:=xB) rfl af af af ?_
    iterate 11 refine .rx ?_
    refine .wv ?_
    refine .wv ?_
    refine .rx ?_
    refine .done (.rn ?_)
    refine⟨(k+1,D++[⟨i,j,i',j+w.length,n,some s⟩]),⟨by omega,pC⟩,bC,?_⟩
    exact(.mk [] [(3,6)] ib iQ rfl rfl rfl)
   try simp at rM
   obtain rfl:k=S.length:=by omega
   rw[GA] at hD
   refine .exit (.sr ?_)
   refine .ret (aA ?_)
   show dO _ _
   rw[hD];exact ly (Cy _)
  try subst cb
  try simp at cb
 ·
  have gP:cp c i j=[]:=if_neg (fun hh=>heq hh.2.2)
  obtain⟨x,hx⟩:∃x,c.t[i]?=some x:=⟨_,List.getElem?_eq_getElem dx⟩
  have lL:c.t[i]=x:=(List.getElem?_eq_some_iff.1 hx).2
  obtain⟨y,hy⟩:∃y,c.c[j]?=some y:=⟨_,List.getElem?_eq_getElem dY⟩
  have zp:c.c[j]=y:=(List.getElem?_eq_some_iff.1 hy).2
  have zt:¬x=y:=fun e=>heq (by rw[List.getD_eq_getElem?_getD,hx,List.getD_eq_getElem?_getD,hy,e])
  refine .sr ?_
  refine .sr ?_
  refine .seq (.seq ?_)
  refine .drawn (ms:=[0,1,0,4,12,31,63,127,255,127,639,1663,4095,8191,16383,32767,65535,32767,163839,524287,1048575,32767,2129919,32767,8421375,31490047,65044479,134217727,268435455]) (W:=[]) (items:=B7) rfl af af af ?_
  iterate 7 refine .rx ?_
  refine .split (t:=15) rfl (fun cb=>?_) (fun cb=>?_)
  ·try subst cb
   try simp at cb
   iterate 8 refine .rx ?_
   refine .split (t:=23) rfl (fun fm=>?_) (fun fm=>?_)
   ·try subst fm
    try simp at fm
    iterate 14 refine .rx ?_
    refine .done ?_
    refine .cs ?_ ?_<;>intro nX
    ·try simp at nX
     exact absurd nX zt
    try simp at nX
    refine .skip (.seq (.au gE rfl af (.rn fe _ ?_)))
    refine .pc rfl rfl rfl rfl rfl call125 (jS) ?_
    refine .rn [6] [] ?_
    refine .done (.seq (.sr ?_))
    refine .block ?_
    refine .ec (fun z:Nat×List aR=>([(2,.ptr 0 0),(3,.ptr 1 0),(5,.grow 3 z.2.length true),(6,.vec (S.map encS)),(7,.int .i64 z.1)],⟨4,[(3,.grow 11 (z.2.map fI)),(1,.box [.int .i64 i,.int .i64 j]),(0,.box (cQ c))]⟩)) (fun z=>z.1≤S.length∧tg c i j z.1=z.2) (fun z=>S.length - z.1) (0,[]) (by simp[er,gP]) bT ?_
    rintro⟨k,D⟩ ⟨fH,hD⟩
    simp only at fH hD ⊢
    have lf:=lf k
    rw[hD] at lf
    refine .seq (.sr ?_)
    refine .cs ?_ ?_<;>intro rM
    ·try simp at rM
     have eO:IntKind.i64.wrap ((k:Int)+1)=((k+1:Nat):Int):=by rw[wrap64 (by omega) (by omega)];omega
     have rC:k<S.length:=by omega
     obtain⟨s,hs⟩:∃s,S[k]?=some s:=⟨_,List.getElem?_eq_getElem rC⟩
     have fU:S[k]=s:=(List.getElem?_eq_some_iff.1 hs).2
     obtain⟨nP,n,i',w,hd,dB⟩:=GB (List.mem_of_getElem? hs)
     have pC:=pC rC (by rw[fU];exact dB)
     rw[hD] at pC
     have xf:=I3 nP (by omega) (show w.length≤100 by have:=(kS bj hd).2.2.2.2.2;omega)
     clear nP
     have bU:=bU s
     rw[hE] at bU
     have vL:D.length+1≤4294967296:=by omega
     refine .skip (.seq (.block (.seq ?_)))
     refine .rD (ms:=[0,0,0,6,14,31,0,127]) (W:=[5,7]) (As:=[6]) (items:=pB) rfl af af af af (by decide) ?_
     iterate 5 refine .rf ?_
     refine .al rfl rfl (by decide) (by decide) (by decide) (by decide) fA ?_
     refine .wr rfl rfl (by decide) (.pure rfl rfl rfl call126 (by decide) (bU) (by first|rfl|simp[*]) ?_)
     intro _ e;rw[ig hd,xf] at e;subst e
     refine .wr rfl rfl (by decide) (.eo fA (by decide) ?_)
     refine .done ?_
     refine .drawn (ms:=[0,0,0,4,0,16,0,0,192,448,1022,2046,4095,8191]) (W:=[11,12]) (items:=xB) rfl af af af ?_
     iterate 11 refine .rx ?_
     refine .wv ?_
     refine .wv ?_
     refine .rx ?_
     refine .done (.rn ?_)
     refine⟨(k+1,D++[⟨i,j,i',j+w.length,n,some s⟩]),⟨by omega,pC⟩,bC,?_⟩
     exact(.mk [] [(3,6)] ib iQ rfl rfl rfl)
    try simp at rM
    obtain rfl:k=S.length:=by omega
    rw[GA] at hD
    refine .exit (.sr ?_)
    refine .ret (aA ?_)
    show dO _ _
    rw[hD];exact ly (Cy _)
   try subst fm
   try simp at fm
  try subst cb
  try simp at cb
theorem p97 (c:ao)(hk:bf c=0):aN prog 97 [aD c] fun r=>dO r ((.vec ((graph c).map fI))):=by
 have bj:=iC hk
 have oB:=bj.tl
 have eJ:=bj.cl
 have pS:=bj.sH
 have hC:cw c=(cQ c):=rfl
 have pD:=fun i j hi hj=>aN.soft (MQ c i j hk hi hj) (Cy _)
 have hIe:=xaq c
 have I5:=RT c
 have DU:=RS c
 have hIl:=RU c bj
 have MS:=MP c bj
 unfold aD at pD ⊢
 rw[hC] at pD ⊢
 refine .bP func97 rfl rfl ?_
 refine .sr ?_
 refine .sr ?_
 refine .seq (.sr ?_)
 refine .block ?_
 refine .ec (fun z:Nat×List aR=>([(1,.ptr 0 0),(3,.grow 1 z.2.length true),(4,.int .i64 z.1)],⟨2,[(1,.grow 11 (z.2.map fI)),(0,.box (cQ c))]⟩)) (fun z=>z.1≤c.t.length+1∧zu c z.1=z.2) (fun z=>c.t.length+1 - z.1) (0,[]) (by simp[zu]) bT ?_
 rintro⟨i,D⟩ ⟨hi,hD⟩
 simp only at hi hD ⊢
 have vL:=hIl i hi
 have I5:=I5 i
 rw[hD] at vL I5
 refine .seq (.sr ?_)
 refine .cs ?_ ?_<;>intro fc
 ·try simp at fc
  have eO:IntKind.i64.wrap ((i:Int)+1)=((i+1:Nat):Int):=by rw[wrap64 (by omega) (by omega)];omega
  have pD:=fun j=>pD i j (by omega)
  have DU:=DU i
  have MS:=MS i (by omega)
  refine .skip (.seq (.block (.sr ?_)))
  refine .block ?_
  refine .ec (fun z:Nat×List aR=>([(1,.ptr 0 0),(3,.grow 1 z.2.length true),(4,.int .i64 i),(5,.int .i64 z.1)],⟨2,[(1,.grow 11 (z.2.map fI)),(0,.box (cQ c))]⟩)) (fun z=>z.1≤c.c.length+1∧D++vX c i z.1=z.2) (fun z=>c.c.length+1 - z.1) (0,D) (by simp[vX]) bT ?_
  rintro⟨j,E⟩ ⟨hj,hE⟩
  simp only at hj hE ⊢
  have yad:=MS j
  have hEl:E.length≤i*2842+j*58:=by rw[← hE,List.length_append];omega
  refine .seq (.sr ?_)
  refine .cs ?_ ?_<;>intro iT
  ·try simp at iT
   have rB:IntKind.i64.wrap ((j:Int)+1)=((j+1:Nat):Int):=by rw[wrap64 (by omega) (by omega)];omega
   have pD:=pD j (by omega)
   have fL:=I4 c i j (by omega)
   have DU:=DU j
   obtain⟨S,hS⟩:∃S,steps c i j=S:=⟨_,rfl⟩
   rw[hS] at pD fL DU
   have hEz:E.length+S.length≤4294967296:=by omega
   have hEn:D++vX c i (j+1)=E++S:=by rw[DU,← hE,List.append_assoc]
   refine .skip (.seq (.block (.au lV rfl af (.rn fe _ ?_))))
   refine .pc rfl rfl rfl rfl rfl call145 (pD) ?_
   refine .rn [6,7] [] ?_
   refine .done (.rn ?_)
   refine⟨(j+1,E++S),⟨by omega,hEn⟩,bC,?_⟩
   exact(.mk [] [(1,2)] ib iQ rfl rfl rfl)
  try simp at iT
  obtain rfl:j=c.c.length+1:=by omega
  refine .exit (.rn ?_)
  refine⟨(i+1,E),⟨by omega,by rw[I5,hE]⟩,bC,?_⟩
  exact bT
 try simp at fc
 obtain rfl:i=c.t.length+1:=by omega
 refine .exit (.sr ?_)
 refine .ret (aA ?_)
 show dO _ _
 rw[← hIe,hD];exact ly (Cy _)
end
def DV (c:ao):List Int:=[c.om,c.le,c.tw,c.gl,c.ad]
theorem RW {vh:ai}{n2:Nat}{D:Nat→Bool}{ρ:Nat→Nat}:∀l:List Int,aF vh n2 D ρ (l.map (.int .i64)) (l.map (.int .i64))
 |[]=>.nil
 |a::r=>.cons (.same _ rfl) (RW r)
theorem RX {vh:ai}{n2:Nat}{D:Nat→Bool}{ρ:Nat→Nat}(l:List Int):kZ vh n2 D ρ (.box (l.map (.int .i64))) (.box (l.map (.int .i64))):=RW l
theorem zzo (c:ao):pR c=if (DV c).all jZ=true then (if 20<c.mx.length then 2 else if mq [] c.mx=true then 0 else 1) else 1:=by
 unfold pR DV
 simp only[List.all_cons,List.all_nil,Bool.and_true,Bool.and_assoc]
theorem DW {α:Type}{p:α→Bool}{l:List α}{k:Nat}(h:k<l.length)(hp:(l.take k).all p=true)(hq:p l[k]=true):(l.take (k+1)).all p=true:=by
 rw[List.take_succ_eq_append_getElem h,List.all_append,hp,Bool.true_and];simpa using hq
theorem DX {α:Type}{p:α→Bool}{l:List α}{k:Nat}(h:k<l.length)(hq:p l[k]=false):l.all p=false:=by
 rw[List.all_eq_false];exact⟨l[k],List.getElem_mem h,by simp[hq]⟩
section
variable [bG]
theorem Cz (l:List Int)(hl:l.length<4611686018427387904):aN prog 129 [ints l] fun r=>r=.bool (l.all fa):=by
 refine .bP func129 rfl rfl ?_
 refine .sr ?_
 refine .seq (.sr ?_)
 refine .block ?_
 refine .ec (fun i:Nat=>([(0,ints l),(3,.int .i64 i)],ai.empty)) (fun i=>i≤l.length∧(l.take i).all fa=true) (fun i=>l.length - i) 0 (by simp) (.pure (by simp[*]) (by simp)) ?_
 rintro i ⟨hi,ht⟩
 simp only at hi ht ⊢
 refine .seq (.sr ?_)
 refine .cs ?_ ?_<;>intro c8
 ·try simp at c8
  have eO:=gD i
  have dx:i<l.length:=by omega
  obtain⟨x,hx⟩:∃x,l[i]?=some x:=⟨_,List.getElem?_eq_getElem dx⟩
  have lL:l[i]=x:=(List.getElem?_eq_some_iff.1 hx).2
  have vU:=ze x
  have eG:=@DW _ fa l i dx ht
  have lB:=@DX _ fa l i dx
  rw[lL] at eG lB
  obtain⟨wb,rK⟩:∃b,fa x=b:=⟨_,rfl⟩
  rw[rK] at vU eG lB
  refine .skip (.seq (.block (.seq (.au iB rfl af (.rn dt _ ?_)))))
  refine .pc rfl rfl rfl rfl rfl call161 (vU) ?_
  refine .rn [5] [] ?_
  refine .done (.sr ?_)
  refine .cs ?_ ?_<;>intro iT
  ·try simp at iT
   have hb:=lB (by simpa using iT)
   refine .sr ?_
   refine .ret (aA ?_)
   rw[hb]
  try simp at iT
  have ha:=eG (by simpa using iT)
  refine .skip (.rn ?_)
  exact⟨i+1,⟨bC,ha⟩,bC,.pure (by simp[*]) (by simp)⟩
 try simp at c8
 obtain rfl:i=l.length:=by omega
 rw[List.take_length] at ht
 refine .exit (.sr ?_)
 refine .ret (aA ?_)
 rw[ht]
theorem MT (c:ao)(hm:c.mx.length<4611686018427387904):aN prog 128 [.agg [.int .i64 c.om,.int .i64 c.le,.int .i64 c.tw,.int .i64 c.gl,.int .i64 c.ad,.vec (c.mx.map bu)]] fun r=>r=.int .i64 (pR c):=by
 have hH:=zzo c
 refine .bP func128 rfl rfl ?_
 refine .sr ?_
 refine .sr ?_
 refine .seq (.sr ?_)
 refine .block ?_
 refine .ec (fun k:Nat=>([(1,.ptr 0 0),(3,.ptr 1 0),(4,.int .i64 k)],⟨2,[(1,.box ((DV c).map (.int .i64))),(0,.box [.int .i64 c.om,.int .i64 c.le,.int .i64 c.tw,.int .i64 c.gl,.int .i64 c.ad,.vec (c.mx.map bu)])]⟩)) (fun k=>k≤5∧((DV c).take k).all jZ=true) (fun k=>5 - k) 0 (by simp) bT ?_
 rintro k ⟨hk,ht⟩
 simp only at hk ht ⊢
 have RY:(DV c).length=5:=rfl
 obtain⟨L,hL⟩:∃L,DV c=L:=⟨_,rfl⟩
 rw[hL] at hH ht RY ⊢
 refine .seq (.sr ?_)
 refine .cs ?_ ?_<;>intro nv
 ·try simp at nv
  have eO:=gD k
  have dx:k<L.length:=by omega
  obtain⟨x,hx⟩:∃x,L[k]?=some x:=⟨_,List.getElem?_eq_getElem dx⟩
  have lL:L[k]=x:=(List.getElem?_eq_some_iff.1 hx).2
  have oJ:=qJ x 1 100
  have eG:=@DW _ jZ L k dx ht
  have lB:=@DX _ jZ L k dx
  rw[lL] at eG lB
  obtain⟨wb,rK⟩:∃b,jZ x=b:=⟨_,rfl⟩
  rw[show (decide (1≤x)&&decide (x≤100))=wb from rK] at oJ
  rw[rK] at eG lB
  refine .skip (.seq (.block (.seq (.au fe rfl af (.rn [0,1,2] _ ?_)))))
  refine .pc rfl rfl rfl rfl rfl call99 (oJ) ?_
  refine .rn [4] [] ?_
  refine .done (.sr ?_)
  refine .cs ?_ ?_<;>intro eC
  ·try simp at eC
   have hb:=lB (by simpa using eC)
   rw[if_neg (by rw[hb];simp)] at hH
   refine .sr ?_
   refine .ret (aA ?_)
   rw[hH]
  try simp at eC
  have ha:=eG (by simpa using eC)
  refine .skip (.rn ?_)
  refine⟨k+1,⟨bC,ha⟩,bC,?_⟩
  exact(.mk [] [] MU MV rfl rfl rfl)
 try simp at nv
 obtain rfl:k=5:=by omega
 rw[← RY,List.take_length] at ht
 rw[if_pos ht] at hH
 refine .exit (.seq (.sr ?_))
 refine .cs ?_ ?_<;>intro gT
 ·try simp at gT
  rw[if_pos (by omega)] at hH
  refine .sr ?_
  refine .ret (aA ?_)
  rw[hH]
 try simp at gT
 rw[if_neg (by omega)] at hH
 refine .skip (.seq (.sr ?_))
 refine .block ?_
 refine .ec (fun k:Nat=>([(1,.ptr 0 0),(6,.int .i64 k)],⟨2,[(0,.box [.int .i64 c.om,.int .i64 c.le,.int .i64 c.tw,.int .i64 c.gl,.int .i64 c.ad,.vec (c.mx.map bu)])]⟩)) (fun k=>k≤c.mx.length∧mq (c.mx.take k) (c.mx.drop k)=mq [] c.mx) (fun k=>c.mx.length - k) 0 ⟨by simp,by simp⟩ bT ?_
 rintro k ⟨hk,hr⟩
 simp only at hk hr ⊢
 refine .seq (.sr ?_)
 refine .cs ?_ ?_<;>intro GC
 ·try simp at GC
  have eO:IntKind.i64.wrap ((k:Int)+1)=((k+1:Nat):Int):=by rw[wrap64 (by omega) (by omega)];omega
  rw[PI _ _ (by omega)] at hr
  obtain⟨x,hx⟩:∃x,c.mx[k]?=some x:=⟨_,List.getElem?_eq_getElem (by omega)⟩
  have lL:c.mx[k]=x:=(List.getElem?_eq_some_iff.1 hx).2
  rw[lL] at hr
  have hE:bu x=.agg [.int .i64 x.f,.int .i64 x.t,.int .i64 x.c]:=rfl
  have jb:mI (c.mx.take k) x=true→mq (c.mx.take (k+1)) (c.mx.drop (k+1))=mq [] c.mx:=fun h=>by rw[← hr,h];rfl
  have oU:mI (c.mx.take k) x=false→mq [] c.mx=false:=fun h=>by rw[← hr,h];rfl
  clear hr
  have iq:mI (c.mx.take k) x=(fa x.f&&fa x.t&&!decide (x.f=x.t)&&jZ x.c&&!((c.mx.take k).any fun y=>decide (y.f=x.f)&&decide (y.t=x.t))):=rfl
  have q1:=ze x.f
  have q2:=ze x.t
  have q3:=qJ x.c 1 100
  obtain⟨w1,np⟩:∃b,fa x.f=b:=⟨_,rfl⟩
  obtain⟨w3,rB⟩:∃b,fa x.t=b:=⟨_,rfl⟩
  obtain⟨w4,BV⟩:∃b,jZ x.c=b:=⟨_,rfl⟩
  obtain⟨w5,xC⟩:∃b,(x.f==x.t)=b:=⟨_,rfl⟩
  rw[np] at q1 iq
  rw[rB] at q2 iq
  rw[show (decide (1≤x.c)&&decide (x.c≤100))=w4 from BV] at q3
  rw[BV,show decide (x.f=x.t)=w5 from xC] at iq
  refine .skip (.seq (.block (.sr ?_)))
  refine .seq (.au dt rfl af (.rn [0,1] _ ?_))
  refine .pc rfl rfl rfl rfl rfl call161 (q1) ?_
  refine .rn [3] [] ?_
  refine .done (.seq (.au dt rfl af ?_))
  refine .rn [0,1] _ ?_
  refine .pc rfl rfl rfl rfl rfl call161 (q2) ?_
  refine .rn [3] [] ?_
  refine .done (.seq (.au dt rfl af ?_))
  refine .rn [0,1] _ ?_
  refine .pc rfl rfl rfl rfl rfl call99 (q3) ?_
  refine .rn [3] [] ?_
  refine .done (.seq (.seq (.au [0,1,2,3,4,5,6,7,8,9,10,11,12,13,14,15,16] rfl af ?_)))
  refine .rn [0,1,2] _ ?_
  refine .split (t:=60) rfl (fun jB=>?_) (fun jB=>?_)
  ·try subst jB
   try simp at jB
   have hf:=oU (by rw[iq,jB];simp)
   rw[if_neg (by rw[hf];simp)] at hH
   refine .rn [3,4,5,6,7,8,9,10,11,12,13,14,15,16] [] ?_
   refine .done (.ep rfl (.sr ?_))
   refine .ret (aA ?_)
   rw[hH]
  try subst jB
  try simp at jB
  refine .rn [3,4,5,6] _ ?_
  refine .split (t:=64) rfl (fun pq=>?_) (fun pq=>?_)
  ·try subst pq
   try simp at pq
   have hf:=oU (by rw[iq,pq];simp)
   rw[if_neg (by rw[hf];simp)] at hH
   refine .rn [7,8,9,10,11,12,13,14,15,16] [] ?_
   refine .done (.ep rfl (.sr ?_))
   refine .ret (aA ?_)
   rw[hH]
  try subst pq
  try simp at pq
  refine .rn [7,8,9,10] _ ?_
  refine .split (t:=68) rfl (fun CA=>?_) (fun CA=>?_)
  ·try subst CA
   try simp at CA
   have hf:=oU (by rw[iq,CA];simp)
   rw[if_neg (by rw[hf];simp)] at hH
   refine .rn [11,12,13,14,15,16] [] ?_
   refine .done (.ep rfl (.sr ?_))
   refine .ret (aA ?_)
   rw[hH]
  try subst CA
  try simp at CA
  refine .rn [11,12,13,14,15,16] [] ?_
  refine .done ?_
  refine .cs ?_ ?_<;>intro lr
  ·try simp at lr
   have hf:=oU (by rw[iq,lr];simp)
   rw[if_neg (by rw[hf];simp)] at hH
   refine .sr ?_
   refine .ret (aA ?_)
   rw[hH]
  try simp at lr
  rw[jB,pq,CA,lr] at iq
  simp only[Bool.true_and,Bool.not_false,Bool.and_true] at iq
  have KY:(c.mx.take k).length=k:=by rw[List.length_take];omega
  refine .skip (.sr ?_)
  refine .block ?_
  refine .ec (fun m:Nat=>([(1,.ptr 0 0),(6,.int .i64 k),(7,.ptr 2 0),(11,.int .i64 m)],⟨3,[(2,.box [.int .i64 x.f,.int .i64 x.t,.int .i64 x.c]),(0,.box [.int .i64 c.om,.int .i64 c.le,.int .i64 c.tw,.int .i64 c.gl,.int .i64 c.ad,.vec (c.mx.map bu)])]⟩)) (fun m=>m≤k∧∀y∈c.mx.take m,¬(y.f=x.f∧y.t=x.t)) (fun m=>k - m) 0 (by simp) bT ?_
  rintro m ⟨Df,hn⟩
  simp only at Df hn ⊢
  refine .seq (.sr ?_)
  refine .cs ?_ ?_<;>intro po
  ·try simp at po
   have hw6:IntKind.i64.wrap ((m:Int)+1)=((m+1:Nat):Int):=by rw[wrap64 (by omega) (by omega)];omega
   have Hy:m<c.mx.length:=by omega
   obtain⟨y,hy⟩:∃y,c.mx[m]?=some y:=⟨_,List.getElem?_eq_getElem Hy⟩
   have zp:c.mx[m]=y:=(List.getElem?_eq_some_iff.1 hy).2
   have hEy:bu y=.agg [.int .i64 y.f,.int .i64 y.t,.int .i64 y.c]:=rfl
   obtain⟨e0,er⟩:∃b,(y.f==x.f)=b:=⟨_,rfl⟩
   obtain⟨e1,fG⟩:∃b,(y.t==x.t)=b:=⟨_,rfl⟩
   have hyS:y∈c.mx.take k:=by rw[← zp];exact List.mem_take_iff_getElem.2 ⟨m,by omega,rfl⟩
   refine .skip (.seq (.block (.seq ?_)))
   refine .drawn (ms:=[0,1,0,7,15,31,0,64,255,511,1023,2047,1023,8191,16383,32767,1023,66559,262143,524287]) (W:=[]) (items:=Fo) rfl af af af ?_
   iterate 10 refine .rx ?_
   refine .split (t:=89) rfl (fun GD=>?_) (fun GD=>?_)
   ·try subst GD
    try simp at GD
    iterate 10 refine .rx ?_
    refine .done ?_
    refine .cs ?_ ?_<;>intro BP
    ·try simp at BP
     have IP:y.f=x.f∧y.t=x.t:=⟨by simpa using er,by rw[BP] at fG;simpa using fG⟩
     have hf:=oU (by rw[iq,Bool.not_eq_false'];exact List.any_eq_true.2 ⟨y,hyS,by simp[IP.1,IP.2]⟩)
     rw[if_neg (by rw[hf];simp)] at hH
     refine .sr ?_
     refine .ret (aA ?_)
     rw[hH]
    try simp at BP
    refine .skip (.rn ?_)
    refine⟨m+1,⟨bC,?_⟩,bC,bT⟩
    intro z hz
    rw[List.take_succ_eq_append_getElem Hy,List.mem_append,List.mem_singleton,zp] at hz
    rcases hz with hz|rfl
    ·exact hn z hz
    intro hh;rw[BP] at fG;simp[hh.2] at fG
   try subst GD
   try simp at GD
   iterate 9 refine .ux ?_
   refine .rx ?_
   refine .done (.gn rfl (.skip (.rn ?_)))
   refine⟨m+1,⟨bC,?_⟩,bC,bT⟩
   intro z hz
   rw[List.take_succ_eq_append_getElem Hy,List.mem_append,List.mem_singleton,zp] at hz
   rcases hz with hz|rfl
   ·exact hn z hz
   intro hh;simp[hh.1] at er
  try simp at po
  obtain rfl:m=k:=by omega
  have ha:=jb (by rw[iq,Bool.not_eq_true',List.any_eq_false];intro z hz hh;rw[bV,decide_eq_true_eq,decide_eq_true_eq] at hh;exact hn z hz hh)
  refine .exit (.rn ?_)
  exact⟨m+1,⟨bC,ha⟩,bC,bT⟩
 try simp at GC
 obtain rfl:k=c.mx.length:=by omega
 rw[List.drop_length] at hr
 rw[if_pos (by rw[← hr];rfl)] at hH
 refine .exit (.sr ?_)
 refine .ret (aA ?_)
 rw[hH]
end
theorem z3u (n:Nat)(x:mo):kl n x=((decide (0≤x.at_)&&decide (x.at_≤(n:Int)))&&(decide (1≤(x.ws.length:Int))&&decide ((x.ws.length:Int)≤6))&&x.ws.all fa):=by
 unfold kl
 rw[decide_eq_decide.2 (show (1≤(x.ws.length:Int))↔1≤x.ws.length by omega),decide_eq_decide.2 (show ((x.ws.length:Int)≤6)↔x.ws.length≤6 by omega)]
variable [bG] in
theorem CB (c:ao)(h:BC c):aN prog 66 [aD c] fun r=>r=.int .i64 (bf c):=by
 obtain⟨hm,ht,eJ,hg,hw⟩:=h
 have GF:=MT c hm
 have hX:bf c=if pR c≠0 then pR c else if 48<c.t.length∨48<c.c.length∨6<c.g.length then 2 else if (c.t.all fa&&c.c.all fa&&c.g.all (kl c.t.length))=true then 0 else 1:=rfl
 have hC:cw c=(cQ c):=rfl
 unfold aD
 rw[hC]
 obtain⟨H,hH⟩:∃H,pR c=H:=⟨_,rfl⟩
 rw[hH] at hX GF
 obtain⟨g1,sL⟩:∃b,decide (48<(c.t.length:Int))=b:=⟨_,rfl⟩
 obtain⟨g2,uc⟩:∃b,decide (48<(c.c.length:Int))=b:=⟨_,rfl⟩
 obtain⟨g3,CC⟩:∃b,decide (6<(c.g.length:Int))=b:=⟨_,rfl⟩
 have q1:=Cz c.t (by omega)
 have q2:=Cz c.c (by omega)
 obtain⟨w1,np⟩:∃b,c.t.all fa=b:=⟨_,rfl⟩
 obtain⟨w2,eO⟩:∃b,c.c.all fa=b:=⟨_,rfl⟩
 rw[np] at q1 hX
 rw[eO] at q2 hX
 refine .bP func66 rfl rfl ?_
 refine .sr ?_
 refine .seq (.au dt rfl af (.rn [0,1] _ ?_))
 refine .pc rfl rfl rfl rfl rfl call128 (GF) ?_
 refine .rn [3] [] ?_
 refine .done (.seq (.sr ?_))
 refine .cs ?_ ?_<;>intro gR
 ·try simp at gR
  rw[if_pos gR] at hX
  refine .sr ?_
  refine .ret (aA ?_)
  rw[hX]
 try simp at gR
 rw[if_neg (by simp[gR])] at hX
 refine .skip (.seq (.seq (.au BO rfl af (.rn fe _ ?_))))
 refine .split (t:=20) rfl (fun rE=>?_) (fun rE=>?_)
 ·try subst rE
  try simp at rE
  rw[if_pos (.inl (by have:=of_decide_eq_true sL;omega))] at hX
  refine .rn [5,6,7,8,9,10,11,12,13,14,15] [] ?_
  refine .done (.ep rfl (.sr ?_))
  refine .ret (aA ?_)
  rw[hX]
 try subst rE
 try simp at rE
 refine .rn [5,6,7,8,9,10] _ ?_
 refine .split (t:=26) rfl (fun kD=>?_) (fun kD=>?_)
 ·try subst kD
  try simp at kD
  rw[if_pos (.inr (.inl (by have:=of_decide_eq_true uc;omega)))] at hX
  refine .rn [11,12,13,14,15] [] ?_
  refine .done (.ep rfl (.sr ?_))
  refine .ret (aA ?_)
  rw[hX]
 try subst kD
 try simp at kD
 refine .rn [11,12,13,14,15] [] ?_
 refine .done ?_
 refine .cs ?_ ?_<;>intro n4
 ·try simp at n4
  rw[if_pos (.inr (.inr (by rw[n4] at CC;have:=of_decide_eq_true CC;omega)))] at hX
  refine .sr ?_
  refine .ret (aA ?_)
  rw[hX]
 try simp at n4
 rw[n4] at CC
 simp only[decide_eq_false_iff_not] at sL uc CC
 rw[if_neg (by omega)] at hX
 refine .skip (.seq (.au dt rfl af (.rn [0,1] _ ?_)))
 refine .pc rfl rfl rfl rfl rfl call129 (q1) ?_
 refine .rn [3] [] ?_
 refine .done (.seq (.au dt rfl af ?_))
 refine .rn [0,1] _ ?_
 refine .pc rfl rfl rfl rfl rfl call129 (q2) ?_
 refine .rn [3] [] ?_
 refine .done (.seq (.seq (.au iB rfl af ?_)))
 refine .rn [0,1,2] _ ?_
 refine .split (t:=40) rfl (fun mw=>?_) (fun mw=>?_)
 ·try subst mw
  try simp at mw
  rw[if_neg (by rw[mw];simp)] at hX
  refine .rn [3,4,5] [] ?_
  refine .done (.ep rfl (.sr ?_))
  refine .ret (aA ?_)
  rw[hX]
 try subst mw
 try simp at mw
 refine .rn [3,4,5] [] ?_
 refine .done ?_
 refine .cs ?_ ?_<;>intro I6
 ·try simp at I6
  rw[if_neg (by rw[I6];simp)] at hX
  refine .sr ?_
  refine .ret (aA ?_)
  rw[hX]
 try simp at I6
 rw[mw,I6] at hX
 simp only[Bool.true_and] at hX
 refine .skip (.seq (.sr ?_))
 refine .block ?_
 refine .ec (fun i:Nat=>([(1,.ptr 0 0),(6,.int .i64 i)],⟨1,[(0,.box (cQ c))]⟩)) (fun i=>i≤c.g.length∧(c.g.take i).all (kl c.t.length)=true) (fun i=>c.g.length - i) 0 (by simp) bT ?_
 rintro i ⟨hi,qN⟩
 simp only at hi qN ⊢
 refine .seq (.sr ?_)
 refine .cs ?_ ?_<;>intro iU
 ·try simp at iU
  have rB:IntKind.i64.wrap ((i:Int)+1)=((i+1:Nat):Int):=by rw[wrap64 (by omega) (by omega)];omega
  have dx:i<c.g.length:=by omega
  obtain⟨x,hx⟩:∃x,c.g[i]?=some x:=⟨_,List.getElem?_eq_getElem dx⟩
  have lL:c.g[i]=x:=(List.getElem?_eq_some_iff.1 hx).2
  have hG:cn x=.agg [.int .i64 x.at_,ints x.ws]:=rfl
  have eG:=@DW _ (kl c.t.length) c.g i dx qN
  have lB:=@DX _ (kl c.t.length) c.g i dx
  rw[lL,z3u] at eG lB
  have hxw:=hw x (List.mem_of_getElem? hx)
  have q3:=qJ x.at_ 0 (c.t.length:Int)
  have q4:=qJ (x.ws.length:Int) 1 6
  have q5:=Cz x.ws (by omega)
  obtain⟨v1,iP⟩:∃b,(decide (0≤x.at_)&&decide (x.at_≤(c.t.length:Int)))=b:=⟨_,rfl⟩
  obtain⟨v2,eT⟩:∃b,(decide (1≤(x.ws.length:Int))&&decide ((x.ws.length:Int)≤6))=b:=⟨_,rfl⟩
  obtain⟨v3,AG⟩:∃b,x.ws.all fa=b:=⟨_,rfl⟩
  rw[iP] at q3 eG lB
  rw[eT] at q4 eG lB
  rw[AG] at q5 eG lB
  clear iP eT AG
  refine .skip (.seq (.block (.seq ?_)))
  refine .drawn (ms:=[0,1,0,7,15,31,0,64,192,511,1023]) (W:=[9]) (items:=zb) rfl af af af ?_
  iterate 9 refine .rx ?_
  refine .wp rfl rfl rfl rfl rfl call99 (q3) ?_
  refine .rx ?_
  refine .done (.seq (.au pQ rfl af ?_))
  refine .rn gE _ ?_
  refine .pc rfl rfl rfl rfl rfl call99 (q4) ?_
  refine .rn [8] [] ?_
  refine .done (.seq (.au lV rfl af ?_))
  refine .rn iB _ ?_
  refine .pc rfl rfl rfl rfl rfl call129 (q5) ?_
  refine .rn [7] [] ?_
  refine .done (.seq (.au fw rfl af ?_))
  refine .rn [0,1,2] _ ?_
  refine .split (t:=78) rfl (fun th=>?_) (fun th=>?_)
  ·try subst th
   try simp at th
   have hf:=lB (by rw[th];simp)
   rw[if_neg (by rw[hf];simp)] at hX
   refine .rn [3,4,5,6,7,8,9] [] ?_
   refine .done (.ep rfl (.sr ?_))
   refine .ret (aA ?_)
   rw[hX]
  try subst th
  try simp at th
  refine .rn [3,4,5,6] _ ?_
  refine .split (t:=82) rfl (fun tY=>?_) (fun tY=>?_)
  ·try subst tY
   try simp at tY
   have hf:=lB (by rw[tY];simp)
   rw[if_neg (by rw[hf];simp)] at hX
   refine .rn [7,8,9] [] ?_
   refine .done (.ep rfl (.sr ?_))
   refine .ret (aA ?_)
   rw[hX]
  try subst tY
  try simp at tY
  refine .rn [7,8,9] [] ?_
  refine .done ?_
  refine .cs ?_ ?_<;>intro I7
  ·try simp at I7
   have hf:=lB (by rw[I7];simp)
   rw[if_neg (by rw[hf];simp)] at hX
   refine .sr ?_
   refine .ret (aA ?_)
   rw[hX]
  try simp at I7
  have ha:=eG (by rw[th,tY,I7];rfl)
  refine .skip (.rn ?_)
  exact⟨i+1,⟨bC,ha⟩,bC,bT⟩
 try simp at iU
 obtain rfl:i=c.g.length:=by omega
 rw[List.take_length] at qN
 rw[if_pos qN] at hX
 refine .exit (.sr ?_)
 refine .ret (aA ?_)
 rw[hX]
def qO (v:Int):Bool:=decide (0≤v)&&decide (v≤1099511627776)
def oc (m:Nat)(r:List Int):Bool:=decide (r.length=m+1)&&r.all qO
def AK (T:List (List Int))(i j:Nat):Int:=(T.getD i []).getD j 0
def pE (T:List (List Int))(x:aR):Bool:=!decide (AK T x.i x.j+x.n<AK T x.i' x.j')
def lh (c:ao)(T:List (List Int))(cost:Int):Bool:=decide (T.length=c.t.length+1)&&T.all (oc c.c.length)&&(graph c).all (pE T)&&decide (AK T 0 0=0)&&decide (AK T c.t.length c.c.length=cost)
theorem z8m {m:Nat}{T:List (List Int)}(hT:T.all (oc m)=true){i j:Nat}(hi:i<T.length)(hj:j≤m):∃r v,T[i]?=some r∧r[j]?=some v∧AK T i j=v∧0≤v∧v≤1099511627776:=by
 rw[List.all_eq_true] at hT
 have h1:=hT T[i] (List.getElem_mem hi)
 unfold oc at h1
 rw[bV,decide_eq_true_eq,List.all_eq_true] at h1
 obtain⟨h2,h3⟩:=h1
 have dY:j<T[i].length:=by omega
 have h4:=h3 _ (List.getElem_mem dY)
 unfold qO at h4
 rw[bV,decide_eq_true_eq,decide_eq_true_eq] at h4
 refine⟨T[i],T[i][j],List.getElem?_eq_getElem hi,List.getElem?_eq_getElem dY,?_,h4.1,h4.2⟩
 unfold AK
 rw[List.getD_eq_getElem?_getD,List.getD_eq_getElem?_getD,List.getElem?_eq_getElem hi,Option.getD_some,List.getElem?_eq_getElem dY,Option.getD_some]
theorem z3e (x:aR):∃b k a i l w,fI x=.agg [.int .i64 x.i,.int .i64 x.j,.int .i64 x.i',.int .i64 x.j',.int .i64 x.n,.bool b,.int .i64 k,.int .i64 a,.int .i64 i,.int .i64 l,.int .i64 w]:=by
 unfold fI
 split
 ·exact⟨_,_,_,_,_,_,rfl⟩
 exact⟨_,_,_,_,_,_,rfl⟩
theorem xbt {c:ao}{T:List (List Int)}{cost:Int}(h:¬T.length=c.t.length+1):lh c T cost=false:=by unfold lh;rw[decide_eq_false h];rfl
theorem RZ {c:ao}{T:List (List Int)}{cost:Int}(h:T.all (oc c.c.length)=false):lh c T cost=false:=by unfold lh;rw[h,Bool.and_false];rfl
theorem xb1 {c:ao}{T:List (List Int)}{cost:Int}(h:(graph c).all (pE T)=false):lh c T cost=false:=by unfold lh;rw[h,Bool.and_false];rfl
theorem xbs {c:ao}{T:List (List Int)}{cost:Int}(h1:T.length=c.t.length+1)(h2:T.all (oc c.c.length)=true)(h3:(graph c).all (pE T)=true):lh c T cost=(decide (AK T 0 0=0)&&decide (AK T c.t.length c.c.length=cost)):=by unfold lh;rw[decide_eq_true h1,h2,h3];rfl
def DY (c:ao)(l:List aq)(cost:Int)(T:List (List Int)):Int:=if bf c≠0 then bf c else if ((cF c l).getD (-1)=cost∧0≤cost)∧lh c T cost=true then 0 else 8
def zw (c:ao)(l:List aq):PV:=if bf c≠0 then .agg [.int .i64 0,.bool false,.int .i64 (bf c)] else match cF c l with
 |some n=>.agg [.int .i64 n,.bool true,.int .i64 0]
 |none=>.agg [.int .i64 0,.bool false,.int .i64 0]
theorem z0a {c:ao}(hr:Rt c){l:List aq}{n:Int}(h:cF c l=some n):0≤n:=by
 unfold cF at h
 split at h
 ·cases h
 cases hw:dF c l with
 |none=>rw[hw] at h;cases h
 |some x=>
  obtain⟨o,k⟩:=x
  rw[hw] at h
  simp only at h
  split at h
  ·injection h with h
   have:=IG hr hw
   omega
  cases h
section
variable [bG]
theorem p65 (c:ao)(l:List aq)(hB:BC c)(da:l.length≤200):aN prog 65 [aD c,.vec (l.map encS)] fun r=>r=zw c l:=by
 have gh:=CB c hB
 have ku:=Gx c l
 have hC:cw c=(cQ c):=rfl
 unfold aD at gh ku ⊢
 rw[hC] at gh ku ⊢
 refine .bP func65 rfl rfl ?_
 by_cases hk:bf c=0
 ·
  have ku:=ku hk da
  have hX:zw c l=match cF c l with
   |some n=>.agg [.int .i64 n,.bool true,.int .i64 0]
   |none=>.agg [.int .i64 0,.bool false,.int .i64 0]:=by unfold zw;rw[if_neg (by simp[hk])]
  rw[hk] at gh
  have fy:=@z0a c (iC hk) l
  have hn:(cF c l).getD (-1)<0→zw c l=.agg [.int .i64 0,.bool false,.int .i64 0]:=fun h=>by
   cases he:cF c l with
   |none=>rw[hX,he]
   |some n=>have:=fy he;rw[he] at h;simp at h;omega
  have hs:¬(cF c l).getD (-1)<0→zw c l=.agg [.int .i64 ((cF c l).getD (-1)),.bool true,.int .i64 0]:=fun h=>by
   cases he:cF c l with
   |none=>rw[he] at h;simp at h
   |some n=>rw[hX,he];rfl
  obtain⟨E,hE⟩:∃E,(cF c l).getD (-1)=E:=⟨_,rfl⟩
  rw[hE] at ku hn hs
  clear hX fy
  refine .sr ?_
  refine .seq (.au [0,1,2] rfl af (.rn [0] _ ?_))
  refine .pc rfl rfl rfl rfl rfl call66 (gh) ?_
  refine .rn [2] [] ?_
  refine .done (.seq (.sr ?_))
  refine .cs ?_ ?_<;>intro fc
  ·try simp at fc
  try simp at fc
  refine .skip (.seq (.au dt rfl af (.rn [0,1] _ ?_)))
  refine .pc rfl rfl rfl rfl rfl call107 (ku) ?_
  refine .rn [3] [] ?_
  refine .done (.seq (.sr ?_))
  refine .cs ?_ ?_<;>intro iT
  ·try simp at iT
   have hX:=hn iT
   refine .sr ?_
   refine .ret (aA ?_)
   rw[hX]
  try simp at iT
  have hX:=hs (by omega)
  refine .skip (.sr ?_)
  refine .ret (aA ?_)
  rw[hX]
 ·
  have hX:zw c l=.agg [.int .i64 0,.bool false,.int .i64 (bf c)]:=by unfold zw;rw[if_pos hk]
  obtain⟨K,hK⟩:∃K,bf c=K:=⟨_,rfl⟩
  rw[hK] at gh hX hk
  refine .sr ?_
  refine .seq (.au [0,1,2] rfl af (.rn [0] _ ?_))
  refine .pc rfl rfl rfl rfl rfl call66 (gh) ?_
  refine .rn [2] [] ?_
  refine .done (.seq (.sr ?_))
  refine .cs ?_ ?_<;>intro fc
  ·try simp at fc
   refine .sr ?_
   refine .ret (aA ?_)
   rw[hX]
  try simp at fc
  exact absurd fc hk
theorem MW (c:ao)(T:List (List Int))(cost:Int)(hk:bf c=0)(hT:T.length<4611686018427387904)(R0:∀r∈T,r.length<4611686018427387904):aN prog 108 [aD c,.vec (T.map ints),.int .i64 cost] fun r=>r=.bool (lh c T cost):=by
 have bj:=iC hk
 have oB:=bj.tl
 have eJ:=bj.cl
 have I8:=aN.soft (p97 c hk) (Cy _)
 have hC:cw c=(cQ c):=rfl
 unfold aD at I8 ⊢
 rw[hC] at I8 ⊢
 have np:IntKind.i64.wrap ((c.t.length:Int)+1)=((c.t.length+1:Nat):Int):=by rw[wrap64 (by omega) (by omega)];omega
 have eO:IntKind.i64.wrap ((c.c.length:Int)+1)=((c.c.length+1:Nat):Int):=by rw[wrap64 (by omega) (by omega)];omega
 refine .bP func108 rfl rfl ?_
 refine .sr ?_
 refine .sr ?_
 refine .sr ?_
 refine .seq (.sr ?_)
 refine .cs ?_ ?_<;>intro fx
 ·try simp at fx
  have hX:=xbt (c:=c) (T:=T) (cost:=cost) (by omega)
  refine .sr ?_
  refine .ret (aA ?_)
  rw[hX]
 try simp at fx
 have B0:T.length=c.t.length+1:=by omega
 refine .skip (.seq (.sr ?_))
 refine .block ?_
 refine .ec (fun i:Nat=>([(1,.vec (T.map ints)),(2,.int .i64 cost),(3,.ptr 0 0),(7,.int .i64 c.t.length),(8,.int .i64 c.c.length),(9,.int .i64 i)],⟨1,[(0,.box (cQ c))]⟩)) (fun i=>i≤c.t.length+1∧(T.take i).all (oc c.c.length)=true) (fun i=>c.t.length+1 - i) 0 (by simp) bT ?_
 rintro i ⟨hi,ht⟩
 simp only at hi ht ⊢
 refine .seq (.sr ?_)
 refine .cs ?_ ?_<;>intro jr
 ·try simp at jr
  have rB:IntKind.i64.wrap ((i:Int)+1)=((i+1:Nat):Int):=by rw[wrap64 (by omega) (by omega)];omega
  have dx:i<T.length:=by omega
  have Fy:(i:Int)<(c.t.length:Int)+1:=by omega
  obtain⟨r,hr⟩:∃r,T[i]?=some r:=⟨_,List.getElem?_eq_getElem dx⟩
  have hre:T[i]=r:=(List.getElem?_eq_some_iff.1 hr).2
  have eG:=@DW _ (oc c.c.length) T i dx ht
  have lB:=@DX _ (oc c.c.length) T i dx
  rw[hre] at eG lB
  have I9:oc c.c.length r=(decide (r.length=c.c.length+1)&&r.all qO):=rfl
  refine .skip (.seq (.block (.seq (.sr ?_))))
  refine .cs ?_ ?_<;>intro nt
  ·try simp at nt
   have hX:=RZ (cost:=cost) (lB (by rw[I9,decide_eq_false (by omega)];rfl))
   refine .sr ?_
   refine .ret (aA ?_)
   rw[hX]
  try simp at nt
  have Mn:r.length=c.c.length+1:=by omega
  rw[decide_eq_true Mn,Bool.true_and] at I9
  refine .skip (.sr ?_)
  refine .block ?_
  refine .ec (fun j:Nat=>([(1,.vec (T.map ints)),(2,.int .i64 cost),(3,.ptr 0 0),(7,.int .i64 c.t.length),(8,.int .i64 c.c.length),(9,.int .i64 i),(10,.int .i64 j)],⟨1,[(0,.box (cQ c))]⟩)) (fun j=>j≤c.c.length+1∧(r.take j).all qO=true) (fun j=>c.c.length+1 - j) 0 (by simp) bT ?_
  rintro j ⟨hj,qN⟩
  simp only at hj qN ⊢
  refine .seq (.sr ?_)
  refine .cs ?_ ?_<;>intro GC
  ·try simp at GC
   have BV:IntKind.i64.wrap ((j:Int)+1)=((j+1:Nat):Int):=by rw[wrap64 (by omega) (by omega)];omega
   have dY:j<r.length:=by omega
   have zT:(j:Int)<(c.c.length:Int)+1:=by omega
   obtain⟨v,hv⟩:∃v,r[j]?=some v:=⟨_,List.getElem?_eq_getElem dY⟩
   have hve:r[j]=v:=(List.getElem?_eq_some_iff.1 hv).2
   have iK:=@DW _ qO r j dY qN
   have CD:=@DX _ qO r j dY
   rw[hve] at iK CD
   have oJ:=qJ v 0 1099511627776
   obtain⟨vb,R1⟩:∃b,qO v=b:=⟨_,rfl⟩
   rw[show (decide (0≤v)&&decide (v≤1099511627776))=vb from R1] at oJ
   rw[R1] at iK CD
   refine .skip (.seq (.block (.seq (.au pQ rfl af (.rn gE _ ?_)))))
   refine .pc rfl rfl rfl rfl rfl call99 (oJ) ?_
   refine .rn [8] [] ?_
   refine .done (.sr ?_)
   refine .cs ?_ ?_<;>intro Cu
   ·try simp at Cu
    have hX:=RZ (cost:=cost) (lB (by rw[I9];exact CD (by simpa using Cu)))
    refine .sr ?_
    refine .ret (aA ?_)
    rw[hX]
   try simp at Cu
   have o6:=iK (by simpa using Cu)
   refine .skip (.rn ?_)
   exact⟨j+1,⟨bC,o6⟩,bC,bT⟩
  try simp at GC
  obtain rfl:j=c.c.length+1:=by omega
  rw[← Mn,List.take_length] at qN
  have ha:=eG (by rw[I9,qN])
  refine .exit (.rn ?_)
  exact⟨i+1,⟨bC,ha⟩,bC,bT⟩
 try simp at jr
 obtain rfl:i=c.t.length+1:=by omega
 rw[← B0,List.take_length] at ht
 have zx:=fun i j hi hj=>@z8m c.c.length T ht i j hi hj
 have R3:∀x∈graph c,∃i j,i≤c.t.length∧j≤c.c.length∧Ja c i j x:=fun x hx=>by
  obtain⟨i,j,h1,h2,h3⟩:=F2.1 hx
  exact⟨i,j,h1,h2,jn bj h3⟩
 have R4:=@xb1 c T cost
 have R5:=@xbs c T cost B0 ht
 have pS:=IA bj
 obtain⟨G,hG⟩:∃G,graph c=G:=⟨_,rfl⟩
 rw[hG] at I8 R3 R4 R5 pS
 refine .exit (.seq (.au [0,1,2] rfl af (.rn [0] _ ?_)))
 refine .pc rfl rfl rfl rfl rfl call97 (I8) ?_
 refine .rn [2] [] ?_
 refine .done (.seq (.sr ?_))
 refine .block ?_
 refine .ec (fun k:Nat=>([(1,.vec (T.map ints)),(2,.int .i64 cost),(7,.int .i64 c.t.length),(8,.int .i64 c.c.length),(12,.vec (G.map fI)),(13,.int .i64 k)],ai.empty)) (fun k=>k≤G.length∧(G.take k).all (pE T)=true) (fun k=>G.length - k) 0 (by simp) bT ?_
 rintro k ⟨gP,DC⟩
 simp only at gP DC ⊢
 refine .seq (.sr ?_)
 refine .cs ?_ ?_<;>intro rM
 ·try simp at rM
  have xC:IntKind.i64.wrap ((k:Int)+1)=((k+1:Nat):Int):=by rw[wrap64 (by omega) (by omega)];omega
  have fH:k<G.length:=by omega
  obtain⟨x,hx⟩:∃x,G[k]?=some x:=⟨_,List.getElem?_eq_getElem fH⟩
  have lL:G[k]=x:=(List.getElem?_eq_some_iff.1 hx).2
  have eG:=@DW _ (pE T) G k fH DC
  have lB:=@DX _ (pE T) G k fH
  rw[lL] at eG lB
  obtain⟨i0,j0,L5,hj0,fP⟩:=R3 x (List.mem_of_getElem? hx)
  obtain⟨xb,xk,xa,xi,xl,xw,hD⟩:=z3e x
  have pL:=fP.fi;have xc:=fP.fj;have PZ:=fP.it;have Km:=fP.jt;have Lc:=fP.n0;have iR:=fP.n1
  obtain⟨r1,v1,oU,iP,BA,MX,MY⟩:=zx x.i x.j (by omega) (by omega)
  obtain⟨r2,v2,jb,eT,qN,MZ,M1⟩:=zx x.i' x.j' (by omega) (by omega)
  have R6:pE T x = !decide (v1+x.n<v2):=by unfold pE;rw[BA,qN]
  have CE:=List.getElem?_eq_some_iff.1 oU
  have CF:=List.getElem?_eq_some_iff.1 jb
  have zi:=List.getElem?_eq_some_iff.1 iP
  have zj:=List.getElem?_eq_some_iff.1 eT
  obtain⟨M2,CE⟩:=CE
  obtain⟨M3,CF⟩:=CF
  obtain⟨M4,zi⟩:=zi
  obtain⟨M5,zj⟩:=zj
  have hxi:(x.i:Int)<(c.t.length:Int)+1:=by omega
  have yae:(x.i':Int)<(c.t.length:Int)+1:=by omega
  have hwx:IntKind.i64.wrap (v1+x.n)=v1+x.n:=wrap64 (by omega) (by omega)
  clear pL xc fP BA qN L5 hj0
  refine .skip (.seq (.block (.sr ?_)))
  refine .seq ?_
  refine .drawn (ms:=[0,0,2,6,15,31,0,64,192,511,1023,0,0,4096,12288,30720,63488,0,131072,393216,1046528,2095104,0,4194304,16775168,33554431]) (W:=[]) (items:=[.op 0,.op 1,.op 2,.op 3,.op 4,.op 5,.op 6,.op 7,.op 8,.op 9,.op 10,.op 11,.op 12,.op 13,.op 14,.op 15,.op 16,.op 17,.op 18,.op 19,.op 20,.op 21,.op 22,.op 23,.op 24,.op 25]) rfl af af af ?_
  iterate 26 refine .rx ?_
  refine .done ?_
  refine .cs ?_ ?_<;>intro R7
  ·try simp at R7
   have hX:=R4 (lB (by rw[R6,decide_eq_true (by omega)];rfl))
   refine .sr ?_
   refine .ret (aA ?_)
   rw[hX]
  try simp at R7
  have ha:=eG (by rw[R6,decide_eq_false (by omega)];rfl)
  refine .skip (.rn ?_)
  exact⟨k+1,⟨bC,ha⟩,bC,bT⟩
 try simp at rM
 obtain rfl:k=G.length:=by omega
 rw[List.take_length] at DC
 have hX:=R5 DC
 obtain⟨r1,v1,oU,iP,BA,MX,MY⟩:=zx 0 0 (by omega) (by omega)
 obtain⟨r2,v2,jb,eT,qN,MZ,M1⟩:=zx c.t.length c.c.length (by omega) (by omega)
 rw[BA,qN] at hX
 obtain⟨M2,CE⟩:=List.getElem?_eq_some_iff.1 oU
 obtain⟨M3,CF⟩:=List.getElem?_eq_some_iff.1 jb
 obtain⟨M4,zi⟩:=List.getElem?_eq_some_iff.1 iP
 obtain⟨M5,zj⟩:=List.getElem?_eq_some_iff.1 eT
 have ll:(c.t.length:Int)<(c.t.length:Int)+1:=by omega
 have ko:(0:Int)<(c.t.length:Int)+1:=by omega
 obtain⟨b1,kf⟩:∃b,(v1==0)=b:=⟨_,rfl⟩
 obtain⟨b2,cS⟩:∃b,(v2==cost)=b:=⟨_,rfl⟩
 rw[show decide (v1=0)=b1 from kf,show decide (v2=cost)=b2 from cS] at hX
 refine .exit (.seq (.au kR rfl af (.rn gE _ ?_)))
 refine .split (t:=98) rfl (fun vY=>?_) (fun vY=>?_)
 ·try subst vY
  try simp at vY
  refine .rn [7,8,9,10,11,12,13,14,15,16,17] [] ?_
  refine .done (.ret (aA ?_))
  rw[hX];rfl
 try subst vY
 try simp at vY
 refine .rn [7,8,9,10,11,12,13,14,15,16,17] [] ?_
 refine .done (.ret (aA ?_))
 rw[hX];rfl
theorem p50 (c:ao)(l:List aq)(cost:Int)(T:List (List Int))(hB:BC c)(da:l.length≤200)(hT:T.length<4611686018427387904)(R0:∀r∈T,r.length<4611686018427387904):aN prog 50 [aD c,.agg [.vec (l.map encS),.int .i64 cost,.vec (T.map ints)]] fun r=>r=.int .i64 (DY c l cost T):=by
 have gh:=CB c hB
 have ku:=Gx c l
 have ti:=MW c T cost
 have hC:cw c=(cQ c):=rfl
 unfold aD at gh ku ti ⊢
 rw[hC] at gh ku ti ⊢
 refine .bP func50 rfl rfl ?_
 by_cases hk:bf c=0
 ·
  have ku:=ku hk da
  have ti:=ti hk hT R0
  have hX:DY c l cost T=if ((cF c l).getD (-1)=cost∧0≤cost)∧lh c T cost=true then 0 else 8:=by unfold DY;rw[if_neg (by simp[hk])]
  rw[hk] at gh
  obtain⟨E,hE⟩:∃E,(cF c l).getD (-1)=E:=⟨_,rfl⟩
  rw[hE] at ku hX
  obtain⟨pb,hpb⟩:∃b,lh c T cost=b:=⟨_,rfl⟩
  rw[hpb] at ti hX
  obtain⟨g1,sL⟩:∃b,decide (E<0)=b:=⟨_,rfl⟩
  obtain⟨g2,uc⟩:∃b,(E != cost)=b:=⟨_,rfl⟩
  refine .sr ?_
  refine .seq (.au [0,1,2] rfl af (.rn [0] _ ?_))
  refine .pc rfl rfl rfl rfl rfl call66 (gh) ?_
  refine .rn [2] [] ?_
  refine .done (.seq (.sr ?_))
  refine .cs ?_ ?_<;>intro jq
  ·try simp at jq
  try simp at jq
  refine .skip (.seq (.au fe rfl af (.rn [0,1,2] _ ?_)))
  refine .pc rfl rfl rfl rfl rfl call107 (ku) ?_
  refine .rn [4] [] ?_
  refine .done (.seq (.seq (.au lV rfl af ?_)))
  refine .rn [0,1,2] _ ?_
  refine .split (t:=19) rfl (fun jC=>?_) (fun jC=>?_)
  ·try subst jC
   try simp at jC
   rw[if_neg (fun hh=>by have:=of_decide_eq_true sL;omega)] at hX
   refine .rn [3,4,5,6,7] [] ?_
   refine .done (.ep rfl (.sr ?_))
   refine .ret (aA ?_)
   rw[hX]
  try subst jC
  try simp at jC
  refine .rn [3,4,5,6,7] [] ?_
  refine .done ?_
  refine .cs ?_ ?_<;>intro nv
  ·try simp at nv
   rw[if_neg (fun hh=>by rw[nv] at uc;simp at uc;exact uc hh.1.1)] at hX
   refine .sr ?_
   refine .ret (aA ?_)
   rw[hX]
  try simp at nv
  have hE0:E=cost:=by rw[nv] at uc;simpa using uc
  have hE1:0≤cost:=by have:=of_decide_eq_false sL;omega
  refine .skip (.seq (.au gE rfl af (.rn fe _ ?_)))
  refine .pc rfl rfl rfl rfl rfl call108 (ti) ?_
  refine .rn [6] [] ?_
  refine .done (.seq (.sr ?_))
  refine .cs ?_ ?_<;>intro eC
  ·try simp at eC
   rw[if_neg (fun hh=>by have h2:=hh.2;rw[eC] at h2;cases h2)] at hX
   refine .sr ?_
   refine .ret (aA ?_)
   rw[hX]
  try simp at eC
  rw[if_pos ⟨⟨hE0,hE1⟩,by simpa using eC⟩] at hX
  refine .skip (.sr ?_)
  refine .ret (aA ?_)
  rw[hX]
 ·
  have hX:DY c l cost T=bf c:=by unfold DY;rw[if_pos hk]
  obtain⟨K,hK⟩:∃K,bf c=K:=⟨_,rfl⟩
  rw[hK] at gh hX hk
  refine .sr ?_
  refine .seq (.au [0,1,2] rfl af (.rn [0] _ ?_))
  refine .pc rfl rfl rfl rfl rfl call66 (gh) ?_
  refine .rn [2] [] ?_
  refine .done (.seq (.sr ?_))
  refine .cs ?_ ?_<;>intro jq
  ·try simp at jq
   refine .sr ?_
   refine .ret (aA ?_)
   rw[hX]
  try simp at jq
  exact absurd jq hk
end
end Go.Am.Sl
end
