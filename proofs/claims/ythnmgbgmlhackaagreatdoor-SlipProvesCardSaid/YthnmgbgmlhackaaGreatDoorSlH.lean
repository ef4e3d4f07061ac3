/-
 What is used in the proof of a statement (part SlH); no condition.
-/
import Derived.Test.YthnmgbgmlhackaaGreatDoorSlZ
import Derived.Test.YthnmgbgmlhackaaGreatDoorVm2
import Derived.Test.YthnmgbgmlhackaaGreatDoorSlT
import Derived.Test.YthnmgbgmlhackaaGreatDoorSlG
set_option linter.all false
set_option maxHeartbeats 40000000
set_option maxRecDepth 100000
section
namespace Go.Am.Sl
open Go Go.Am Go.Proofs Tryz
attribute [local simp] de fQ lz dz dN jD af.back b6 dG iO bm Nat.testBit_eq_decide_div_mod_eq ct gf jB vO kN dX kO gE cJ jR jQ kK dY kL j9 jq ly j8 kM kF kC kG kD kE kH kI jM di ig dd kP jS ka kQ kR jL ls lu dW jC dy dx dA iL dK jY jO jP gX kz a7 j7 dw bA bC ja af.get af.alloc af.put af.drop af.empty bq cg gd gR fe cp chunk List.range List.range.loop iP lA jr bI bG PV.aD PV.az PV.b8 PV.dv eu dZ kc PV.one PV.ids PV.bT fJ beq_eq lQ l9
attribute [local simp] cQ bQ cw jU lD jE jN jc ef dD
attribute [local simp ↓ high] mG ma Ry
def bZ (x:ay):PV:=match x.s with
 |some s=>.agg [.int .i64 x.i,.int .i64 x.j,.int .i64 x.i',.int .i64 x.j',.int .i64 x.n,.bool false,.int .i64 s.k,.int .i64 s.a,.int .i64 s.i,.int .i64 s.l,.int .i64 s.w]
 |none=>.agg [.int .i64 x.i,.int .i64 x.j,.int .i64 x.i',.int .i64 x.j',.int .i64 x.n,.bool true,.int .i64 0,.int .i64 0,.int .i64 0,.int .i64 0,.int .i64 0]
theorem xih (i j i' j':Nat)(n:Int)(s:ak):bZ ⟨i,j,i',j',n,some s⟩=.agg [.int .i64 i,.int .i64 j,.int .i64 i',.int .i64 j',.int .i64 n,.bool false,.int .i64 s.k,.int .i64 s.a,.int .i64 s.i,.int .i64 s.l,.int .i64 s.w]:=rfl
theorem xiy (i j i' j':Nat)(n:Int):bZ ⟨i,j,i',j',n,none⟩=.agg [.int .i64 i,.int .i64 j,.int .i64 i',.int .i64 j',.int .i64 n,.bool true,.int .i64 0,.int .i64 0,.int .i64 0,.int .i64 0,.int .i64 0]:=rfl
attribute [local simp] xih xiy
theorem zzz (c:aj)(i j:Nat):(i<c.t.length∧j<c.c.length∧c.t.getD i 0=c.c.getD j 0)∨¬i<c.t.length∨(i<c.t.length∧¬j<c.c.length)∨(i<c.t.length∧j<c.c.length∧¬c.t.getD i 0=c.c.getD j 0):=by
 by_cases h1:i<c.t.length
 ·by_cases h2:j<c.c.length
  ·by_cases h3:c.t.getD i 0=c.c.getD j 0
   ·exact .inl ⟨h1,h2,h3⟩
   exact .inr (.inr (.inr ⟨h1,h2,h3⟩))
  exact .inr (.inr (.inl ⟨h1,h2⟩))
 exact .inr (.inl h1)
theorem z7n (x:ay):(bZ x).cells.length=11:=by unfold bZ;split<;>rfl
@[simp] theorem xdw (l:List ay):nU 11 (l.map bZ)=true:=AQ (f:=bZ) (n:=11) z7n l
@[simp] theorem xcy (l:List ay):nV (l.map bZ)=true:=AR (f:=bZ) (fun x=>by unfold bZ;split<;>simp[PV.one]) l
theorem rj (l:List ay):(PV.vec (l.map bZ)).aD=true:=by simp[PV.aD]
theorem XE (l:List ak):(PV.vec (l.map encS)).aD=true:=by simp[PV.aD]
theorem XF {α β:Type}{f g:α→Option β}:∀ {l:List α},(∀x∈l,f x=g x)→l.filterMap f=l.filterMap g
 |[],_=>rfl
 |a::r,h=>by rw[List.filterMap_cons,List.filterMap_cons,h a List.mem_cons_self,XF fun x hx=>h x (List.mem_cons_of_mem _ hx)]
theorem z7s (c:aj)(i j:Nat):steps c i j=cO c i j++(rh c i j).filterMap (stepOf c i j):=by
 unfold steps cO rh
 congr 1
 rw[List.filterMap_filter]
 refine XF ?_
 intro s hs
 unfold pG stepOf
 have h2:=(Ci hs).2
 cases hd:aM c s with
 |none=>simp
 |some x=>
  obtain⟨n,i',w⟩:=x
  simp only
  rw[h2,Int.toNat_natCast]
  split<;>rfl
theorem zzw {c:aj}{i j:Nat}{s:ak}(h:s∈rh c i j):s.i=j∧∃n i' w,aM c s=some (n,i',w)∧stepOf c i j s=some ⟨i,j,i',j+w.length,n,some s⟩:=by
 unfold rh at h
 rw[List.mem_filter] at h
 have h2:=(Ci h.1).2
 refine⟨h2,?_⟩
 have h3:=h.2
 unfold pG at h3
 unfold stepOf
 cases hd:aM c s with
 |none=>rw[hd] at h3;cases h3
 |some x=>
  obtain⟨n,i',w⟩:=x
  rw[hd] at h3
  simp only at h3
  rw[h2,Int.toNat_natCast] at h3
  exact⟨n,i',w,rfl,by simp only;rw[if_pos h3]⟩
theorem NM {s:ak}{j:Nat}{w:List Int}(h:s.i=j)(hj:j≤100)(hw:w.length≤100):mh s w=((j+w.length:Nat):Int):=by
 unfold mh
 rw[h]
 split
 ·rename_i hh;rw[hh];simp
 rw[wrap64 (by omega) (by omega)];omega
theorem zzh (c:aj)(i j:Nat)(hi:i≤c.t.length):(rh c i j).length≤c.t.length+c.g.length+4:=by
 have h1:=KF c i j hi
 have h2:(rh c i j).length≤(nZ c i j).length:=List.length_filter_le _ _
 have h3:(nZ c i j).length≤c.t.length+c.g.length+3:=by
  unfold nZ
  simp only[List.length_append,List.length_map,List.length_range,List.length_singleton]
  have a1:(if j<c.c.length then [(⟨1,i,j,0,c.c.getD j 0⟩:ak)] else []).length≤1:=by split<;>simp
  have a2:(if j<c.c.length then [(⟨6,i,j,0,c.c.getD j 0⟩:ak)] else []).length≤1:=by split<;>simp
  omega
 omega
theorem xaz (c:aj)(i j:Nat):(cO c i j).length≤1:=by unfold cO;split<;>simp
def xc (c:aj)(i j k:Nat):List ay:=cO c i j++((rh c i j).take k).filterMap (stepOf c i j)
theorem z8e (c:aj)(i j:Nat):xc c i j 0=cO c i j:=by unfold xc;simp
theorem z7t {c:aj}{i j k:Nat}(h:k<(rh c i j).length){x:ay}(hx:stepOf c i j (rh c i j)[k]=some x):xc c i j (k+1)=xc c i j k++[x]:=by
 unfold xc
 rw[List.take_succ_eq_append_getElem h,List.filterMap_append,List.append_assoc]
 congr 2
 simp[hx]
theorem xau (c:aj)(i j:Nat):xc c i j (rh c i j).length=steps c i j:=by unfold xc;rw[List.take_length,← z7s]
theorem xb9 (c:aj)(i j k:Nat):(xc c i j k).length≤k+1:=by
 unfold xc
 have h1:=xaz c i j
 have h2:(((rh c i j).take k).filterMap (stepOf c i j)).length≤((rh c i j).take k).length:=List.length_filterMap_le _ _
 rw[List.length_take] at h2
 rw[List.length_append]
 omega
def zt (c:aj)(i j:Nat):List ay:=(List.range j).flatMap fun j=>steps c i j
def Cw (c:aj)(i:Nat):List ay:=(List.range i).flatMap fun i=>zt c i (c.c.length+1)
theorem XH (c:aj)(i j:Nat):zt c i (j+1)=zt c i j++steps c i j:=by unfold zt;rw[List.range_succ,List.flatMap_append];simp
theorem XI (c:aj)(i:Nat):Cw c (i+1)=Cw c i++zt c i (c.c.length+1):=by unfold Cw;rw[List.range_succ,List.flatMap_append];simp
theorem xi2 (c:aj):Cw c (c.t.length+1)=graph c:=by
 unfold Cw zt graph places
 rw[List.flatMap_assoc]
 congr 1
 funext i
 rw[List.flatMap_map]
theorem RU (c:aj)(hr:Rt c)(i:Nat)(hi:i≤c.t.length):∀j,(zt c i j).length≤j*58
 |0=>by simp[zt]
 |j+1=>by
  have h1:=KF c i j hi
  have h2:=RU c hr i hi j
  have h3:=hr.tl
  have h4:=hr.yV
  rw[XH,List.length_append]
  omega
theorem XJ (c:aj)(hr:Rt c):∀i,i≤c.t.length+1→(Cw c i).length≤i*2842
 |0,_=>by simp[Cw]
 |i+1,h=>by
  have h1:=RU c hr i (by omega) (c.c.length+1)
  have h2:=XJ c hr i (by omega)
  have h3:=hr.cl
  rw[XI,List.length_append]
  omega
section
variable [bE]
theorem xnd (c:aj)(i j:Nat)(hk:aN c=0)(hi:i≤c.t.length)(hj:j≤c.c.length):aI prog 125 [aA c,.int .i64 i,.int .i64 j] fun r=>r=.vec ((rh c i j).map encS):=by
 have h:=RQ c i j hk hi hj
 rw[z4m c i j hi] at h
 refine aI.soft (v:=.vec ((rh c i j).map encS)) (h.mono fun r _ hr=>⟨hr.1,?_⟩) (XE _)
 show ec r _
 rw[hr.2]
 unfold eL
 split
 ·rename_i hn;rw[hn];exact .eH
 exact oF (XE _)
theorem RV (c:aj)(i j:Nat)(hk:aN c=0)(hi:i≤c.t.length)(hj:j≤c.c.length):aI prog 145 [aA c,.agg [.int .i64 i,.int .i64 j]] fun r=>ec r ((.vec ((steps c i j).map bZ))):=by
 have aP:=fC hk
 have nY:=aP.tl
 have fx:=aP.cl
 have tX:=aP.yV
 have hC:cu c=(cQ c):=rfl
 have hE:∀s:ak,encS s=.agg [.int .i64 s.k,.int .i64 s.a,.int .i64 s.i,.int .i64 s.l,.int .i64 s.w]:=fun _=>rfl
 have dh:=fun s=>FY c s hk
 have ve:=xnd c i j hk hi hj
 have fP:=zzh c i j hi
 have tC:=@z7t c i j
 have oI:=xb9 c i j
 have KG:=xau c i j
 have bR:=z8e c i j
 have KH:=@zzw c i j
 unfold aA at dh ve ⊢
 rw[hC] at dh ve ⊢
 obtain⟨S,hS⟩:∃S,rh c i j=S:=⟨_,rfl⟩
 rw[hS] at ve fP tC KG KH
 refine .bJ func145 rfl rfl ?_
 rcases zzz c i j with hkp|cE|⟨cE,eV⟩|⟨cE,eV,heq⟩
 ·
  obtain⟨cE,eV,heq⟩:=hkp
  obtain⟨x,hx⟩:∃x,c.t[i]?=some x:=⟨_,List.getElem?_eq_getElem cE⟩
  have ic:c.t[i]=x:=(List.getElem?_eq_some_iff.1 hx).2
  have RW:c.c[j]?=some x:=by
   rw[List.getD_eq_getElem?_getD,hx,List.getD_eq_getElem?_getD,List.getElem?_eq_getElem eV] at heq
   rw[List.getElem?_eq_getElem eV];simp only[Option.getD_some] at heq;rw[heq]
  have yaD:c.c[j]=x:=(List.getElem?_eq_some_iff.1 RW).2
  have ee:cO c i j=[⟨i,j,i+1,j+1,0,none⟩]:=if_pos ⟨cE,eV,heq⟩
  have lr:IntKind.i64.wrap ((i:Int)+1)=((i+1:Nat):Int):=by rw[wrap64 (by omega) (by omega)];omega
  have sh:IntKind.i64.wrap ((j:Int)+1)=((j+1:Nat):Int):=by rw[wrap64 (by omega) (by omega)];omega
  refine .sr ?_
  refine .sr ?_
  refine .seq (.seq ?_)
  refine .drawn (ms:=[0,1,0,4,12,31,63,127,255,127,639,1663,4095,8191,16383,32767,65535,32767,163839,524287,1048575,32767,2129919,32767,8421375,31490047,65044479,134217727,268435455]) (W:=[]) (items:=HC) rfl ae ae ae ?_
  iterate 7 refine .rx ?_
  refine .split (t:=15) rfl (fun dj=>?_) (fun dj=>?_)
  ·try subst dj
   try simp at dj
   iterate 8 refine .rx ?_
   refine .split (t:=23) rfl (fun hP=>?_) (fun hP=>?_)
   ·try subst hP
    try simp at hP
    iterate 14 refine .rx ?_
    refine .done ?_
    refine .cs ?_ ?_<;>intro oB
    ·try simp at oB
     refine .rn ?_
     refine .seq (.ar gT rfl ae (.rn fR _ ?_))
     refine .pc rfl rfl rfl rfl rfl call125 (ve) ?_
     refine .rn [6] [] ?_
     refine .done (.seq (.sr ?_))
     refine .block ?_
     refine .cZ (fun z:Nat×List ay=>([(2,.ptr 0 0),(3,.ptr 1 0),(5,.grow 3 z.2.length true),(6,.vec (S.map encS)),(7,.int .i64 z.1)],⟨4,[(3,.grow 11 (z.2.map bZ)),(1,.box [.int .i64 i,.int .i64 j]),(0,.box (cQ c))]⟩)) (fun z=>z.1≤S.length∧xc c i j z.1=z.2) (fun z=>S.length - z.1) (0,[⟨i,j,i+1,j+1,0,none⟩]) (by simp[bR,ee]) aX ?_
     rintro⟨k,D⟩ ⟨dm,hD⟩
     simp only at dm hD ⊢
     have oI:=oI k
     rw[hD] at oI
     refine .seq (.sr ?_)
     refine .cs ?_ ?_<;>intro vR
     ·try simp at vR
      have cR:IntKind.i64.wrap ((k:Int)+1)=((k+1:Nat):Int):=by rw[wrap64 (by omega) (by omega)];omega
      have tf:k<S.length:=by omega
      obtain⟨s,hs⟩:∃s,S[k]?=some s:=⟨_,List.getElem?_eq_getElem tf⟩
      have gq:S[k]=s:=(List.getElem?_eq_some_iff.1 hs).2
      obtain⟨qw,n,i',w,hd,cS⟩:=KH (List.mem_of_getElem? hs)
      have tC:=tC tf (by rw[gq];exact cS)
      rw[hD] at tC
      have AK:=NM qw (by omega) (show w.length≤100 by have:=(nI aP hd).2.2.2.2.2;omega)
      clear qw
      have dh:=dh s
      rw[hE] at dh
      have ue:D.length+1≤4294967296:=by omega
      refine .skip (.seq (.block (.seq ?_)))
      refine .vK (ms:=[0,0,0,6,14,31,0,127]) (W:=[5,7]) (As:=[6]) (items:=tA) rfl ae ae ae ae (by decide) ?_
      iterate 5 refine .rf ?_
      refine .al rfl rfl (by decide) (by decide) (by decide) (by decide) iq ?_
      refine .wr rfl rfl (by decide) (.pure rfl rfl rfl call126 (by decide) (dh) (by first|rfl|simp[*]) ?_)
      intro _ e;rw[lK hd,AK] at e;subst e
      refine .wr rfl rfl (by decide) (.dz iq (by decide) ?_)
      refine .done ?_
      refine .drawn (ms:=[0,0,0,4,0,16,0,0,192,448,1022,2046,4095,8191]) (W:=[11,12]) (items:=xO) rfl ae ae ae ?_
      iterate 11 refine .rx ?_
      refine .wv ?_
      refine .wv ?_
      refine .rx ?_
      refine .done (.rn ?_)
      refine⟨(k+1,D++[⟨i,j,i',j+w.length,n,some s⟩]),⟨by omega,tC⟩,ba,?_⟩
      exact(.mk [] [(3,6)] gH gY rfl rfl rfl)
     try simp at vR
     obtain rfl:k=S.length:=by omega
     rw[KG] at hD
     refine .exit (.sr ?_)
     refine .ret (ax ?_)
     show ec _ _
     rw[hD];exact oF (rj _)
    try simp at oB
   try subst hP
   try simp at hP
  try subst dj
  try simp at dj
 ·
  have ee:cO c i j=[]:=if_neg (fun hh=>cE hh.1)
  refine .sr ?_
  refine .sr ?_
  refine .seq (.seq ?_)
  refine .drawn (ms:=[0,1,0,4,12,31,63,127,255,127,639,1663,4095,8191,16383,32767,65535,32767,163839,524287,1048575,32767,2129919,32767,8421375,31490047,65044479,134217727,268435455]) (W:=[]) (items:=HC) rfl ae ae ae ?_
  iterate 7 refine .rx ?_
  refine .split (t:=15) rfl (fun dj=>?_) (fun dj=>?_)
  ·try subst dj
   try simp at dj
  try subst dj
  try simp at dj
  iterate 6 refine .ux ?_
  iterate 2 refine .rx ?_
  iterate 13 refine .ux ?_
  refine .rx ?_
  refine .done (.gI rfl (.skip (.seq ?_)))
  refine .ar gT rfl ae (.rn fR _ ?_)
  refine .pc rfl rfl rfl rfl rfl call125 (ve) ?_
  refine .rn [6] [] ?_
  refine .done (.seq (.sr ?_))
  refine .block ?_
  refine .cZ (fun z:Nat×List ay=>([(2,.ptr 0 0),(3,.ptr 1 0),(5,.grow 3 z.2.length true),(6,.vec (S.map encS)),(7,.int .i64 z.1)],⟨4,[(3,.grow 11 (z.2.map bZ)),(1,.box [.int .i64 i,.int .i64 j]),(0,.box (cQ c))]⟩)) (fun z=>z.1≤S.length∧xc c i j z.1=z.2) (fun z=>S.length - z.1) (0,[]) (by simp[bR,ee]) aX ?_
  rintro⟨k,D⟩ ⟨dm,hD⟩
  simp only at dm hD ⊢
  have oI:=oI k
  rw[hD] at oI
  refine .seq (.sr ?_)
  refine .cs ?_ ?_<;>intro vR
  ·try simp at vR
   have cR:IntKind.i64.wrap ((k:Int)+1)=((k+1:Nat):Int):=by rw[wrap64 (by omega) (by omega)];omega
   have tf:k<S.length:=by omega
   obtain⟨s,hs⟩:∃s,S[k]?=some s:=⟨_,List.getElem?_eq_getElem tf⟩
   have gq:S[k]=s:=(List.getElem?_eq_some_iff.1 hs).2
   obtain⟨qw,n,i',w,hd,cS⟩:=KH (List.mem_of_getElem? hs)
   have tC:=tC tf (by rw[gq];exact cS)
   rw[hD] at tC
   have AK:=NM qw (by omega) (show w.length≤100 by have:=(nI aP hd).2.2.2.2.2;omega)
   clear qw
   have dh:=dh s
   rw[hE] at dh
   have ue:D.length+1≤4294967296:=by omega
   refine .skip (.seq (.block (.seq ?_)))
   refine .vK (ms:=[0,0,0,6,14,31,0,127]) (W:=[5,7]) (As:=[6]) (items:=tA) rfl ae ae ae ae (by decide) ?_
   iterate 5 refine .rf ?_
   refine .al rfl rfl (by decide) (by decide) (by decide) (by decide) iq ?_
   refine .wr rfl rfl (by decide) (.pure rfl rfl rfl call126 (by decide) (dh) (by first|rfl|simp[*]) ?_)
   intro _ e;rw[lK hd,AK] at e;subst e
   refine .wr rfl rfl (by decide) (.dz iq (by decide) ?_)
   refine .done ?_
   refine .drawn (ms:=[0,0,0,4,0,16,0,0,192,448,1022,2046,4095,8191]) (W:=[11,12]) (items:=xO) rfl ae ae ae ?_
   iterate 11 refine .rx ?_
   refine .wv ?_
   refine .wv ?_
   refine .rx ?_
   refine .done (.rn ?_)
   refine⟨(k+1,D++[⟨i,j,i',j+w.length,n,some s⟩]),⟨by omega,tC⟩,ba,?_⟩
   exact(.mk [] [(3,6)] gH gY rfl rfl rfl)
  try simp at vR
  obtain rfl:k=S.length:=by omega
  rw[KG] at hD
  refine .exit (.sr ?_)
  refine .ret (ax ?_)
  show ec _ _
  rw[hD];exact oF (rj _)
 ·
  have ee:cO c i j=[]:=if_neg (fun hh=>eV hh.2.1)
  refine .sr ?_
  refine .sr ?_
  refine .seq (.seq ?_)
  refine .drawn (ms:=[0,1,0,4,12,31,63,127,255,127,639,1663,4095,8191,16383,32767,65535,32767,163839,524287,1048575,32767,2129919,32767,8421375,31490047,65044479,134217727,268435455]) (W:=[]) (items:=HC) rfl ae ae ae ?_
  iterate 7 refine .rx ?_
  refine .split (t:=15) rfl (fun dj=>?_) (fun dj=>?_)
  ·try subst dj
   try simp at dj
   iterate 8 refine .rx ?_
   refine .split (t:=23) rfl (fun hP=>?_) (fun hP=>?_)
   ·try subst hP
    try simp at hP
   try subst hP
   try simp at hP
   iterate 13 refine .ux ?_
   refine .rx ?_
   refine .done (.gI rfl (.skip (.seq ?_)))
   refine .ar gT rfl ae (.rn fR _ ?_)
   refine .pc rfl rfl rfl rfl rfl call125 (ve) ?_
   refine .rn [6] [] ?_
   refine .done (.seq (.sr ?_))
   refine .block ?_
   refine .cZ (fun z:Nat×List ay=>([(2,.ptr 0 0),(3,.ptr 1 0),(5,.grow 3 z.2.length true),(6,.vec (S.map encS)),(7,.int .i64 z.1)],⟨4,[(3,.grow 11 (z.2.map bZ)),(1,.box [.int .i64 i,.int .i64 j]),(0,.box (cQ c))]⟩)) (fun z=>z.1≤S.length∧xc c i j z.1=z.2) (fun z=>S.length - z.1) (0,[]) (by simp[bR,ee]) aX ?_
   rintro⟨k,D⟩ ⟨dm,hD⟩
   simp only at dm hD ⊢
   have oI:=oI k
   rw[hD] at oI
   refine .seq (.sr ?_)
   refine .cs ?_ ?_<;>intro vR
   ·try simp at vR
    have cR:IntKind.i64.wrap ((k:Int)+1)=((k+1:Nat):Int):=by rw[wrap64 (by omega) (by omega)];omega
    have tf:k<S.length:=by omega
    obtain⟨s,hs⟩:∃s,S[k]?=some s:=⟨_,List.getElem?_eq_getElem tf⟩
    have gq:S[k]=s:=(List.getElem?_eq_some_iff.1 hs).2
    obtain⟨qw,n,i',w,hd,cS⟩:=KH (List.mem_of_getElem? hs)
    have tC:=tC tf (by rw[gq];exact cS)
    rw[hD] at tC
    have AK:=NM qw (by omega) (show w.length≤100 by have:=(nI aP hd).2.2.2.2.2;omega)
    clear qw
    have dh:=dh s
    rw[hE] at dh
    have ue:D.length+1≤4294967296:=by omega
    refine .skip (.seq (.block (.seq ?_)))
    refine .vK (ms:=[0,0,0,6,14,31,0,127]) (W:=[5,7]) (As:=[6]) (items:=tA) rfl ae ae ae ae (by decide) ?_
    iterate 5 refine .rf ?_
    refine .al rfl rfl (by decide) (by decide) (by decide) (by decide) iq ?_
    refine .wr rfl rfl (by decide) (.pure rfl rfl rfl call126 (by decide) (dh) (by first|rfl|simp[*]) ?_)
    intro _ e;rw[lK hd,AK] at e;subst e
    refine .wr rfl rfl (by decide) (.dz iq (by decide) ?_)
    refine .done ?_
    refine .drawn (ms:=[0,0,0,4,0,16,0,0,192,448,1022,2046,4095,8191]) (W:=[11,12]) (items:=xO) rfl ae ae ae ?_
    iterate 11 refine .rx ?_
    refine .wv ?_
    refine .wv ?_
    refine .rx ?_
    refine .done (.rn ?_)
    refine⟨(k+1,D++[⟨i,j,i',j+w.length,n,some s⟩]),⟨by omega,tC⟩,ba,?_⟩
    exact(.mk [] [(3,6)] gH gY rfl rfl rfl)
   try simp at vR
   obtain rfl:k=S.length:=by omega
   rw[KG] at hD
   refine .exit (.sr ?_)
   refine .ret (ax ?_)
   show ec _ _
   rw[hD];exact oF (rj _)
  try subst dj
  try simp at dj
 ·
  have ee:cO c i j=[]:=if_neg (fun hh=>heq hh.2.2)
  obtain⟨x,hx⟩:∃x,c.t[i]?=some x:=⟨_,List.getElem?_eq_getElem cE⟩
  have ic:c.t[i]=x:=(List.getElem?_eq_some_iff.1 hx).2
  obtain⟨y,hy⟩:∃y,c.c[j]?=some y:=⟨_,List.getElem?_eq_getElem eV⟩
  have zn:c.c[j]=y:=(List.getElem?_eq_some_iff.1 hy).2
  have w6:¬x=y:=fun e=>heq (by rw[List.getD_eq_getElem?_getD,hx,List.getD_eq_getElem?_getD,hy,e])
  refine .sr ?_
  refine .sr ?_
  refine .seq (.seq ?_)
  refine .drawn (ms:=[0,1,0,4,12,31,63,127,255,127,639,1663,4095,8191,16383,32767,65535,32767,163839,524287,1048575,32767,2129919,32767,8421375,31490047,65044479,134217727,268435455]) (W:=[]) (items:=HC) rfl ae ae ae ?_
  iterate 7 refine .rx ?_
  refine .split (t:=15) rfl (fun dj=>?_) (fun dj=>?_)
  ·try subst dj
   try simp at dj
   iterate 8 refine .rx ?_
   refine .split (t:=23) rfl (fun hP=>?_) (fun hP=>?_)
   ·try subst hP
    try simp at hP
    iterate 14 refine .rx ?_
    refine .done ?_
    refine .cs ?_ ?_<;>intro oB
    ·try simp at oB
     exact absurd oB w6
    try simp at oB
    refine .skip (.seq (.ar gT rfl ae (.rn fR _ ?_)))
    refine .pc rfl rfl rfl rfl rfl call125 (ve) ?_
    refine .rn [6] [] ?_
    refine .done (.seq (.sr ?_))
    refine .block ?_
    refine .cZ (fun z:Nat×List ay=>([(2,.ptr 0 0),(3,.ptr 1 0),(5,.grow 3 z.2.length true),(6,.vec (S.map encS)),(7,.int .i64 z.1)],⟨4,[(3,.grow 11 (z.2.map bZ)),(1,.box [.int .i64 i,.int .i64 j]),(0,.box (cQ c))]⟩)) (fun z=>z.1≤S.length∧xc c i j z.1=z.2) (fun z=>S.length - z.1) (0,[]) (by simp[bR,ee]) aX ?_
    rintro⟨k,D⟩ ⟨dm,hD⟩
    simp only at dm hD ⊢
    have oI:=oI k
    rw[hD] at oI
    refine .seq (.sr ?_)
    refine .cs ?_ ?_<;>intro vR
    ·try simp at vR
     have cR:IntKind.i64.wrap ((k:Int)+1)=((k+1:Nat):Int):=by rw[wrap64 (by omega) (by omega)];omega
     have tf:k<S.length:=by omega
     obtain⟨s,hs⟩:∃s,S[k]?=some s:=⟨_,List.getElem?_eq_getElem tf⟩
     have gq:S[k]=s:=(List.getElem?_eq_some_iff.1 hs).2
     obtain⟨qw,n,i',w,hd,cS⟩:=KH (List.mem_of_getElem? hs)
     have tC:=tC tf (by rw[gq];exact cS)
     rw[hD] at tC
     have AK:=NM qw (by omega) (show w.length≤100 by have:=(nI aP hd).2.2.2.2.2;omega)
     clear qw
     have dh:=dh s
     rw[hE] at dh
     have ue:D.length+1≤4294967296:=by omega
     refine .skip (.seq (.block (.seq ?_)))
     refine .vK (ms:=[0,0,0,6,14,31,0,127]) (W:=[5,7]) (As:=[6]) (items:=tA) rfl ae ae ae ae (by decide) ?_
     iterate 5 refine .rf ?_
     refine .al rfl rfl (by decide) (by decide) (by decide) (by decide) iq ?_
     refine .wr rfl rfl (by decide) (.pure rfl rfl rfl call126 (by decide) (dh) (by first|rfl|simp[*]) ?_)
     intro _ e;rw[lK hd,AK] at e;subst e
     refine .wr rfl rfl (by decide) (.dz iq (by decide) ?_)
     refine .done ?_
     refine .drawn (ms:=[0,0,0,4,0,16,0,0,192,448,1022,2046,4095,8191]) (W:=[11,12]) (items:=xO) rfl ae ae ae ?_
     iterate 11 refine .rx ?_
     refine .wv ?_
     refine .wv ?_
     refine .rx ?_
     refine .done (.rn ?_)
     refine⟨(k+1,D++[⟨i,j,i',j+w.length,n,some s⟩]),⟨by omega,tC⟩,ba,?_⟩
     exact(.mk [] [(3,6)] gH gY rfl rfl rfl)
    try simp at vR
    obtain rfl:k=S.length:=by omega
    rw[KG] at hD
    refine .exit (.sr ?_)
    refine .ret (ax ?_)
    show ec _ _
    rw[hD];exact oF (rj _)
   try subst hP
   try simp at hP
  try subst dj
  try simp at dj
theorem KI (c:aj)(hk:aN c=0):aI prog 97 [aA c] fun r=>ec r ((.vec ((graph c).map bZ))):=by
 have aP:=fC hk
 have nY:=aP.tl
 have fx:=aP.cl
 have tX:=aP.yV
 have hC:cu c=(cQ c):=rfl
 have tD:=fun i j hi hj=>aI.soft (RV c i j hk hi hj) (rj _)
 have hIe:=xi2 c
 have NN:=XI c
 have HV:=XH c
 have hIl:=XJ c aP
 have RX:=RU c aP
 unfold aA at tD ⊢
 rw[hC] at tD ⊢
 refine .bJ func97 rfl rfl ?_
 refine .sr ?_
 refine .sr ?_
 refine .seq (.sr ?_)
 refine .block ?_
 refine .cZ (fun z:Nat×List ay=>([(1,.ptr 0 0),(3,.grow 1 z.2.length true),(4,.int .i64 z.1)],⟨2,[(1,.grow 11 (z.2.map bZ)),(0,.box (cQ c))]⟩)) (fun z=>z.1≤c.t.length+1∧Cw c z.1=z.2) (fun z=>c.t.length+1 - z.1) (0,[]) (by simp[Cw]) aX ?_
 rintro⟨i,D⟩ ⟨hi,hD⟩
 simp only at hi hD ⊢
 have ue:=hIl i hi
 have NN:=NN i
 rw[hD] at ue NN
 refine .seq (.sr ?_)
 refine .cs ?_ ?_<;>intro fp
 ·try simp at fp
  have cR:IntKind.i64.wrap ((i:Int)+1)=((i+1:Nat):Int):=by rw[wrap64 (by omega) (by omega)];omega
  have tD:=fun j=>tD i j (by omega)
  have HV:=HV i
  have RX:=RX i (by omega)
  refine .skip (.seq (.block (.sr ?_)))
  refine .block ?_
  refine .cZ (fun z:Nat×List ay=>([(1,.ptr 0 0),(3,.grow 1 z.2.length true),(4,.int .i64 i),(5,.int .i64 z.1)],⟨2,[(1,.grow 11 (z.2.map bZ)),(0,.box (cQ c))]⟩)) (fun z=>z.1≤c.c.length+1∧D++zt c i z.1=z.2) (fun z=>c.c.length+1 - z.1) (0,D) (by simp[zt]) aX ?_
  rintro⟨j,E⟩ ⟨hj,hE⟩
  simp only at hj hE ⊢
  have yaE:=RX j
  have hEl:E.length≤i*2842+j*58:=by rw[← hE,List.length_append];omega
  refine .seq (.sr ?_)
  refine .cs ?_ ?_<;>intro iB
  ·try simp at iB
   have sh:IntKind.i64.wrap ((j:Int)+1)=((j+1:Nat):Int):=by rw[wrap64 (by omega) (by omega)];omega
   have tD:=tD j (by omega)
   have fP:=KF c i j (by omega)
   have HV:=HV j
   obtain⟨S,hS⟩:∃S,steps c i j=S:=⟨_,rfl⟩
   rw[hS] at tD fP HV
   have hEz:E.length+S.length≤4294967296:=by omega
   have hEn:D++zt c i (j+1)=E++S:=by rw[HV,← hE,List.append_assoc]
   refine .skip (.seq (.block (.ar js rfl ae (.rn fR _ ?_))))
   refine .pc rfl rfl rfl rfl rfl call145 (tD) ?_
   refine .rn [6,7] [] ?_
   refine .done (.rn ?_)
   refine⟨(j+1,E++S),⟨by omega,hEn⟩,ba,?_⟩
   exact(.mk [] [(1,2)] gH gY rfl rfl rfl)
  try simp at iB
  obtain rfl:j=c.c.length+1:=by omega
  refine .exit (.rn ?_)
  refine⟨(i+1,E),⟨by omega,by rw[NN,hE]⟩,ba,?_⟩
  exact aX
 try simp at fp
 obtain rfl:i=c.t.length+1:=by omega
 refine .exit (.sr ?_)
 refine .ret (ax ?_)
 show ec _ _
 rw[← hIe,hD];exact oF (rj _)
end
def HW (c:aj):List Int:=[c.om,c.le,c.tw,c.gl,c.ad]
theorem XK {vh:af}{n2:Nat}{D:Nat→Bool}{ρ:Nat→Nat}:∀l:List Int,aK vh n2 D ρ (l.map (.int .i64)) (l.map (.int .i64))
 |[]=>.nil
 |a::r=>.cons (.same _ rfl) (XK r)
theorem XM {vh:af}{n2:Nat}{D:Nat→Bool}{ρ:Nat→Nat}(l:List Int):oH vh n2 D ρ (.box (l.map (.int .i64))) (.box (l.map (.int .i64))):=XK l
theorem z5w (c:aj):q7 c=if (HW c).all ns=true then (if 20<c.mx.length then 2 else if oz [] c.mx=true then 0 else 1) else 1:=by
 unfold q7 HW
 simp only[List.all_cons,List.all_nil,Bool.and_true,Bool.and_assoc]
theorem Cx {α:Type}{p:α→Bool}{l:List α}{k:Nat}(h:k<l.length)(hp:(l.take k).all p=true)(hq:p l[k]=true):(l.take (k+1)).all p=true:=by
 rw[List.take_succ_eq_append_getElem h,List.all_append,hp,Bool.true_and];simpa using hq
theorem Cy {α:Type}{p:α→Bool}{l:List α}{k:Nat}(h:k<l.length)(hq:p l[k]=false):l.all p=false:=by
 rw[List.all_eq_false];exact⟨l[k],List.getElem_mem h,by simp[hq]⟩
section
variable [bE]
theorem F2 (l:List Int)(hl:l.length<4611686018427387904):aI prog 129 [ints l] fun r=>r=.bool (l.all fB):=by
 refine .bJ func129 rfl rfl ?_
 refine .sr ?_
 refine .seq (.sr ?_)
 refine .block ?_
 refine .cZ (fun i:Nat=>([(0,ints l),(3,.int .i64 i)],af.empty)) (fun i=>i≤l.length∧(l.take i).all fB=true) (fun i=>l.length - i) 0 (by simp) (.pure (by simp[*]) (by simp)) ?_
 rintro i ⟨hi,ht⟩
 simp only at hi ht ⊢
 refine .seq (.sr ?_)
 refine .cs ?_ ?_<;>intro c8
 ·try simp at c8
  have cR:=iQ i
  have cE:i<l.length:=by omega
  obtain⟨x,hx⟩:∃x,l[i]?=some x:=⟨_,List.getElem?_eq_getElem cE⟩
  have ic:l[i]=x:=(List.getElem?_eq_some_iff.1 hx).2
  have zp:=Cp x
  have ep:=@Cx _ fB l i cE ht
  have km:=@Cy _ fB l i cE
  rw[ic] at ep km
  obtain⟨wb,sA⟩:∃b,fB x=b:=⟨_,rfl⟩
  rw[sA] at zp ep km
  refine .skip (.seq (.block (.seq (.ar kS rfl ae (.rn dQ _ ?_)))))
  refine .pc rfl rfl rfl rfl rfl call161 (zp) ?_
  refine .rn [5] [] ?_
  refine .done (.sr ?_)
  refine .cs ?_ ?_<;>intro iB
  ·try simp at iB
   have hb:=km (by simpa using iB)
   refine .sr ?_
   refine .ret (ax ?_)
   rw[hb]
  try simp at iB
  have ha:=ep (by simpa using iB)
  refine .skip (.rn ?_)
  exact⟨i+1,⟨ba,ha⟩,ba,.pure (by simp[*]) (by simp)⟩
 try simp at c8
 obtain rfl:i=l.length:=by omega
 rw[List.take_length] at ht
 refine .exit (.sr ?_)
 refine .ret (ax ?_)
 rw[ht]
theorem RY (c:aj)(hm:c.mx.length<4611686018427387904):aI prog 128 [.agg [.int .i64 c.om,.int .i64 c.le,.int .i64 c.tw,.int .i64 c.gl,.int .i64 c.ad,.vec (c.mx.map bD)]] fun r=>r=.int .i64 (q7 c):=by
 have hH:=z5w c
 refine .bJ func128 rfl rfl ?_
 refine .sr ?_
 refine .sr ?_
 refine .seq (.sr ?_)
 refine .block ?_
 refine .cZ (fun k:Nat=>([(1,.ptr 0 0),(3,.ptr 1 0),(4,.int .i64 k)],⟨2,[(1,.box ((HW c).map (.int .i64))),(0,.box [.int .i64 c.om,.int .i64 c.le,.int .i64 c.tw,.int .i64 c.gl,.int .i64 c.ad,.vec (c.mx.map bD)])]⟩)) (fun k=>k≤5∧((HW c).take k).all ns=true) (fun k=>5 - k) 0 (by simp) aX ?_
 rintro k ⟨hk,ht⟩
 simp only at hk ht ⊢
 have XN:(HW c).length=5:=rfl
 obtain⟨L,hL⟩:∃L,HW c=L:=⟨_,rfl⟩
 rw[hL] at hH ht XN ⊢
 refine .seq (.sr ?_)
 refine .cs ?_ ?_<;>intro mb
 ·try simp at mb
  have cR:=iQ k
  have cE:k<L.length:=by omega
  obtain⟨x,hx⟩:∃x,L[k]?=some x:=⟨_,List.getElem?_eq_getElem cE⟩
  have ic:L[k]=x:=(List.getElem?_eq_some_iff.1 hx).2
  have sy:=wZ x 1 100
  have ep:=@Cx _ ns L k cE ht
  have km:=@Cy _ ns L k cE
  rw[ic] at ep km
  obtain⟨wb,sA⟩:∃b,ns x=b:=⟨_,rfl⟩
  rw[show (decide (1≤x)&&decide (x≤100))=wb from sA] at sy
  rw[sA] at ep km
  refine .skip (.seq (.block (.seq (.ar fR rfl ae (.rn [0,1,2] _ ?_)))))
  refine .pc rfl rfl rfl rfl rfl call99 (sy) ?_
  refine .rn [4] [] ?_
  refine .done (.sr ?_)
  refine .cs ?_ ?_<;>intro ft
  ·try simp at ft
   have hb:=km (by simpa using ft)
   rw[if_neg (by rw[hb];simp)] at hH
   refine .sr ?_
   refine .ret (ax ?_)
   rw[hH]
  try simp at ft
  have ha:=ep (by simpa using ft)
  refine .skip (.rn ?_)
  refine⟨k+1,⟨ba,ha⟩,ba,?_⟩
  exact(.mk [] [] RZ R0 rfl rfl rfl)
 try simp at mb
 obtain rfl:k=5:=by omega
 rw[← XN,List.take_length] at ht
 rw[if_pos ht] at hH
 refine .exit (.seq (.sr ?_))
 refine .cs ?_ ?_<;>intro gJ
 ·try simp at gJ
  rw[if_pos (by omega)] at hH
  refine .sr ?_
  refine .ret (ax ?_)
  rw[hH]
 try simp at gJ
 rw[if_neg (by omega)] at hH
 refine .skip (.seq (.sr ?_))
 refine .block ?_
 refine .cZ (fun k:Nat=>([(1,.ptr 0 0),(6,.int .i64 k)],⟨2,[(0,.box [.int .i64 c.om,.int .i64 c.le,.int .i64 c.tw,.int .i64 c.gl,.int .i64 c.ad,.vec (c.mx.map bD)])]⟩)) (fun k=>k≤c.mx.length∧oz (c.mx.take k) (c.mx.drop k)=oz [] c.mx) (fun k=>c.mx.length - k) 0 ⟨by simp,by simp⟩ aX ?_
 rintro k ⟨hk,hr⟩
 simp only at hk hr ⊢
 refine .seq (.sr ?_)
 refine .cs ?_ ?_<;>intro zu
 ·try simp at zu
  have cR:IntKind.i64.wrap ((k:Int)+1)=((k+1:Nat):Int):=by rw[wrap64 (by omega) (by omega)];omega
  rw[Vs _ _ (by omega)] at hr
  obtain⟨x,hx⟩:∃x,c.mx[k]?=some x:=⟨_,List.getElem?_eq_getElem (by omega)⟩
  have ic:c.mx[k]=x:=(List.getElem?_eq_some_iff.1 hx).2
  rw[ic] at hr
  have hE:bD x=.agg [.int .i64 x.f,.int .i64 x.t,.int .i64 x.c]:=rfl
  have ky:py (c.mx.take k) x=true→oz (c.mx.take (k+1)) (c.mx.drop (k+1))=oz [] c.mx:=fun h=>by rw[← hr,h];rfl
  have oQ:py (c.mx.take k) x=false→oz [] c.mx=false:=fun h=>by rw[← hr,h];rfl
  clear hr
  have lj:py (c.mx.take k) x=(fB x.f&&fB x.t&&!decide (x.f=x.t)&&ns x.c&&!((c.mx.take k).any fun y=>decide (y.f=x.f)&&decide (y.t=x.t))):=rfl
  have q1:=Cp x.f
  have q2:=Cp x.t
  have q3:=wZ x.c 1 100
  obtain⟨w1,lr⟩:∃b,fB x.f=b:=⟨_,rfl⟩
  obtain⟨w3,sh⟩:∃b,fB x.t=b:=⟨_,rfl⟩
  obtain⟨w4,DM⟩:∃b,ns x.c=b:=⟨_,rfl⟩
  obtain⟨w5,qA⟩:∃b,(x.f==x.t)=b:=⟨_,rfl⟩
  rw[lr] at q1 lj
  rw[sh] at q2 lj
  rw[show (decide (1≤x.c)&&decide (x.c≤100))=w4 from DM] at q3
  rw[DM,show decide (x.f=x.t)=w5 from qA] at lj
  refine .skip (.seq (.block (.sr ?_)))
  refine .seq (.ar dQ rfl ae (.rn [0,1] _ ?_))
  refine .pc rfl rfl rfl rfl rfl call161 (q1) ?_
  refine .rn [3] [] ?_
  refine .done (.seq (.ar dQ rfl ae ?_))
  refine .rn [0,1] _ ?_
  refine .pc rfl rfl rfl rfl rfl call161 (q2) ?_
  refine .rn [3] [] ?_
  refine .done (.seq (.ar dQ rfl ae ?_))
  refine .rn [0,1] _ ?_
  refine .pc rfl rfl rfl rfl rfl call99 (q3) ?_
  refine .rn [3] [] ?_
  refine .done (.seq (.seq (.ar KJ rfl ae ?_)))
  refine .rn [0,1,2] _ ?_
  refine .split (t:=60) rfl (fun gu=>?_) (fun gu=>?_)
  ·try subst gu
   try simp at gu
   have hf:=oQ (by rw[lj,gu];simp)
   rw[if_neg (by rw[hf];simp)] at hH
   refine .rn [3,4,5,6,7,8,9,10,11,12,13,14,15,16] [] ?_
   refine .done (.dR rfl (.sr ?_))
   refine .ret (ax ?_)
   rw[hH]
  try subst gu
  try simp at gu
  refine .rn [3,4,5,6] _ ?_
  refine .split (t:=64) rfl (fun q8=>?_) (fun q8=>?_)
  ·try subst q8
   try simp at q8
   have hf:=oQ (by rw[lj,q8];simp)
   rw[if_neg (by rw[hf];simp)] at hH
   refine .rn [7,8,9,10,11,12,13,14,15,16] [] ?_
   refine .done (.dR rfl (.sr ?_))
   refine .ret (ax ?_)
   rw[hH]
  try subst q8
  try simp at q8
  refine .rn [7,8,9,10] _ ?_
  refine .split (t:=68) rfl (fun oK=>?_) (fun oK=>?_)
  ·try subst oK
   try simp at oK
   have hf:=oQ (by rw[lj,oK];simp)
   rw[if_neg (by rw[hf];simp)] at hH
   refine .rn [11,12,13,14,15,16] [] ?_
   refine .done (.dR rfl (.sr ?_))
   refine .ret (ax ?_)
   rw[hH]
  try subst oK
  try simp at oK
  refine .rn [11,12,13,14,15,16] [] ?_
  refine .done ?_
  refine .cs ?_ ?_<;>intro mF
  ·try simp at mF
   have hf:=oQ (by rw[lj,mF];simp)
   rw[if_neg (by rw[hf];simp)] at hH
   refine .sr ?_
   refine .ret (ax ?_)
   rw[hH]
  try simp at mF
  rw[gu,q8,oK,mF] at lj
  simp only[Bool.true_and,Bool.not_false,Bool.and_true] at lj
  have DK:(c.mx.take k).length=k:=by rw[List.length_take];omega
  refine .skip (.sr ?_)
  refine .block ?_
  refine .cZ (fun m:Nat=>([(1,.ptr 0 0),(6,.int .i64 k),(7,.ptr 2 0),(11,.int .i64 m)],⟨3,[(2,.box [.int .i64 x.f,.int .i64 x.t,.int .i64 x.c]),(0,.box [.int .i64 c.om,.int .i64 c.le,.int .i64 c.tw,.int .i64 c.gl,.int .i64 c.ad,.vec (c.mx.map bD)])]⟩)) (fun m=>m≤k∧∀y∈c.mx.take m,¬(y.f=x.f∧y.t=x.t)) (fun m=>k - m) 0 (by simp) aX ?_
  rintro m ⟨G9,hn⟩
  simp only at G9 hn ⊢
  refine .seq (.sr ?_)
  refine .cs ?_ ?_<;>intro uV
  ·try simp at uV
   have Xi:IntKind.i64.wrap ((m:Int)+1)=((m+1:Nat):Int):=by rw[wrap64 (by omega) (by omega)];omega
   have Ha:m<c.mx.length:=by omega
   obtain⟨y,hy⟩:∃y,c.mx[m]?=some y:=⟨_,List.getElem?_eq_getElem Ha⟩
   have zn:c.mx[m]=y:=(List.getElem?_eq_some_iff.1 hy).2
   have hEy:bD y=.agg [.int .i64 y.f,.int .i64 y.t,.int .i64 y.c]:=rfl
   obtain⟨e0,bR⟩:∃b,(y.f==x.f)=b:=⟨_,rfl⟩
   obtain⟨e1,jV⟩:∃b,(y.t==x.t)=b:=⟨_,rfl⟩
   have hyS:y∈c.mx.take k:=by rw[← zn];exact List.mem_take_iff_getElem.2 ⟨m,by omega,rfl⟩
   refine .skip (.seq (.block (.seq ?_)))
   refine .drawn (ms:=[0,1,0,7,15,31,0,64,255,511,1023,2047,1023,8191,16383,32767,1023,66559,262143,524287]) (W:=[]) (items:=Hu) rfl ae ae ae ?_
   iterate 10 refine .rx ?_
   refine .split (t:=89) rfl (fun vf=>?_) (fun vf=>?_)
   ·try subst vf
    try simp at vf
    iterate 10 refine .rx ?_
    refine .done ?_
    refine .cs ?_ ?_<;>intro AS
    ·try simp at AS
     have HU:y.f=x.f∧y.t=x.t:=⟨by simpa using bR,by rw[AS] at jV;simpa using jV⟩
     have hf:=oQ (by rw[lj,Bool.not_eq_false'];exact List.any_eq_true.2 ⟨y,hyS,by simp[HU.1,HU.2]⟩)
     rw[if_neg (by rw[hf];simp)] at hH
     refine .sr ?_
     refine .ret (ax ?_)
     rw[hH]
    try simp at AS
    refine .skip (.rn ?_)
    refine⟨m+1,⟨ba,?_⟩,ba,aX⟩
    intro z hz
    rw[List.take_succ_eq_append_getElem Ha,List.mem_append,List.mem_singleton,zn] at hz
    rcases hz with hz|rfl
    ·exact hn z hz
    intro hh;rw[AS] at jV;simp[hh.2] at jV
   try subst vf
   try simp at vf
   iterate 9 refine .ux ?_
   refine .rx ?_
   refine .done (.gI rfl (.skip (.rn ?_)))
   refine⟨m+1,⟨ba,?_⟩,ba,aX⟩
   intro z hz
   rw[List.take_succ_eq_append_getElem Ha,List.mem_append,List.mem_singleton,zn] at hz
   rcases hz with hz|rfl
   ·exact hn z hz
   intro hh;simp[hh.1] at bR
  try simp at uV
  obtain rfl:m=k:=by omega
  have ha:=ky (by rw[lj,Bool.not_eq_true',List.any_eq_false];intro z hz hh;rw[bW,decide_eq_true_eq,decide_eq_true_eq] at hh;exact hn z hz hh)
  refine .exit (.rn ?_)
  exact⟨m+1,⟨ba,ha⟩,ba,aX⟩
 try simp at zu
 obtain rfl:k=c.mx.length:=by omega
 rw[List.drop_length] at hr
 rw[if_pos (by rw[← hr];rfl)] at hH
 refine .exit (.sr ?_)
 refine .ret (ax ?_)
 rw[hH]
end
theorem xcv (n:Nat)(x:pw):lB n x=((decide (0≤x.at_)&&decide (x.at_≤(n:Int)))&&(decide (1≤(x.ws.length:Int))&&decide ((x.ws.length:Int)≤6))&&x.ws.all fB):=by
 unfold lB
 rw[decide_eq_decide.2 (show (1≤(x.ws.length:Int))↔1≤x.ws.length by omega),decide_eq_decide.2 (show ((x.ws.length:Int)≤6)↔x.ws.length≤6 by omega)]
variable [bE] in
theorem A8 (c:aj)(h:BC c):aI prog 66 [aA c] fun r=>r=.int .i64 (aN c):=by
 obtain⟨hm,ht,fx,hg,hw⟩:=h
 have KL:=RY c hm
 have hX:aN c=if q7 c≠0 then q7 c else if 48<c.t.length∨48<c.c.length∨6<c.g.length then 2 else if (c.t.all fB&&c.c.all fB&&c.g.all (lB c.t.length))=true then 0 else 1:=rfl
 have hC:cu c=(cQ c):=rfl
 unfold aA
 rw[hC]
 obtain⟨H,hH⟩:∃H,q7 c=H:=⟨_,rfl⟩
 rw[hH] at hX KL
 obtain⟨g1,qf⟩:∃b,decide (48<(c.t.length:Int))=b:=⟨_,rfl⟩
 obtain⟨g2,nH⟩:∃b,decide (48<(c.c.length:Int))=b:=⟨_,rfl⟩
 obtain⟨g3,F3⟩:∃b,decide (6<(c.g.length:Int))=b:=⟨_,rfl⟩
 have q1:=F2 c.t (by omega)
 have q2:=F2 c.c (by omega)
 obtain⟨w1,lr⟩:∃b,c.t.all fB=b:=⟨_,rfl⟩
 obtain⟨w2,cR⟩:∃b,c.c.all fB=b:=⟨_,rfl⟩
 rw[lr] at q1 hX
 rw[cR] at q2 hX
 refine .bJ func66 rfl rfl ?_
 refine .sr ?_
 refine .seq (.ar dQ rfl ae (.rn [0,1] _ ?_))
 refine .pc rfl rfl rfl rfl rfl call128 (KL) ?_
 refine .rn [3] [] ?_
 refine .done (.seq (.sr ?_))
 refine .cs ?_ ?_<;>intro iy
 ·try simp at iy
  rw[if_pos iy] at hX
  refine .sr ?_
  refine .ret (ax ?_)
  rw[hX]
 try simp at iy
 rw[if_neg (by simp[iy])] at hX
 refine .skip (.seq (.seq (.ar B2 rfl ae (.rn fR _ ?_))))
 refine .split (t:=20) rfl (fun zw=>?_) (fun zw=>?_)
 ·try subst zw
  try simp at zw
  rw[if_pos (.inl (by have:=of_decide_eq_true qf;omega))] at hX
  refine .rn [5,6,7,8,9,10,11,12,13,14,15] [] ?_
  refine .done (.dR rfl (.sr ?_))
  refine .ret (ax ?_)
  rw[hX]
 try subst zw
 try simp at zw
 refine .rn [5,6,7,8,9,10] _ ?_
 refine .split (t:=26) rfl (fun jb=>?_) (fun jb=>?_)
 ·try subst jb
  try simp at jb
  rw[if_pos (.inr (.inl (by have:=of_decide_eq_true nH;omega)))] at hX
  refine .rn [11,12,13,14,15] [] ?_
  refine .done (.dR rfl (.sr ?_))
  refine .ret (ax ?_)
  rw[hX]
 try subst jb
 try simp at jb
 refine .rn [11,12,13,14,15] [] ?_
 refine .done ?_
 refine .cs ?_ ?_<;>intro wW
 ·try simp at wW
  rw[if_pos (.inr (.inr (by rw[wW] at F3;have:=of_decide_eq_true F3;omega)))] at hX
  refine .sr ?_
  refine .ret (ax ?_)
  rw[hX]
 try simp at wW
 rw[wW] at F3
 simp only[decide_eq_false_iff_not] at qf nH F3
 rw[if_neg (by omega)] at hX
 refine .skip (.seq (.ar dQ rfl ae (.rn [0,1] _ ?_)))
 refine .pc rfl rfl rfl rfl rfl call129 (q1) ?_
 refine .rn [3] [] ?_
 refine .done (.seq (.ar dQ rfl ae ?_))
 refine .rn [0,1] _ ?_
 refine .pc rfl rfl rfl rfl rfl call129 (q2) ?_
 refine .rn [3] [] ?_
 refine .done (.seq (.seq (.ar kS rfl ae ?_)))
 refine .rn [0,1,2] _ ?_
 refine .split (t:=40) rfl (fun jW=>?_) (fun jW=>?_)
 ·try subst jW
  try simp at jW
  rw[if_neg (by rw[jW];simp)] at hX
  refine .rn [3,4,5] [] ?_
  refine .done (.dR rfl (.sr ?_))
  refine .ret (ax ?_)
  rw[hX]
 try subst jW
 try simp at jW
 refine .rn [3,4,5] [] ?_
 refine .done ?_
 refine .cs ?_ ?_<;>intro A9
 ·try simp at A9
  rw[if_neg (by rw[A9];simp)] at hX
  refine .sr ?_
  refine .ret (ax ?_)
  rw[hX]
 try simp at A9
 rw[jW,A9] at hX
 simp only[Bool.true_and] at hX
 refine .skip (.seq (.sr ?_))
 refine .block ?_
 refine .cZ (fun i:Nat=>([(1,.ptr 0 0),(6,.int .i64 i)],⟨1,[(0,.box (cQ c))]⟩)) (fun i=>i≤c.g.length∧(c.g.take i).all (lB c.t.length)=true) (fun i=>c.g.length - i) 0 (by simp) aX ?_
 rintro i ⟨hi,qm⟩
 simp only at hi qm ⊢
 refine .seq (.sr ?_)
 refine .cs ?_ ?_<;>intro fV
 ·try simp at fV
  have sh:IntKind.i64.wrap ((i:Int)+1)=((i+1:Nat):Int):=by rw[wrap64 (by omega) (by omega)];omega
  have cE:i<c.g.length:=by omega
  obtain⟨x,hx⟩:∃x,c.g[i]?=some x:=⟨_,List.getElem?_eq_getElem cE⟩
  have ic:c.g[i]=x:=(List.getElem?_eq_some_iff.1 hx).2
  have hG:cy x=.agg [.int .i64 x.at_,ints x.ws]:=rfl
  have ep:=@Cx _ (lB c.t.length) c.g i cE qm
  have km:=@Cy _ (lB c.t.length) c.g i cE
  rw[ic,xcv] at ep km
  have hxw:=hw x (List.mem_of_getElem? hx)
  have q3:=wZ x.at_ 0 (c.t.length:Int)
  have q4:=wZ (x.ws.length:Int) 1 6
  have q5:=F2 x.ws (by omega)
  obtain⟨v1,iF⟩:∃b,(decide (0≤x.at_)&&decide (x.at_≤(c.t.length:Int)))=b:=⟨_,rfl⟩
  obtain⟨v2,eZ⟩:∃b,(decide (1≤(x.ws.length:Int))&&decide ((x.ws.length:Int)≤6))=b:=⟨_,rfl⟩
  obtain⟨v3,DY⟩:∃b,x.ws.all fB=b:=⟨_,rfl⟩
  rw[iF] at q3 ep km
  rw[eZ] at q4 ep km
  rw[DY] at q5 ep km
  clear iF eZ DY
  refine .skip (.seq (.block (.seq ?_)))
  refine .drawn (ms:=[0,1,0,7,15,31,0,64,192,511,1023]) (W:=[9]) (items:=zl) rfl ae ae ae ?_
  iterate 9 refine .rx ?_
  refine .wp rfl rfl rfl rfl rfl call99 (q3) ?_
  refine .rx ?_
  refine .done (.seq (.ar oT rfl ae ?_))
  refine .rn gT _ ?_
  refine .pc rfl rfl rfl rfl rfl call99 (q4) ?_
  refine .rn [8] [] ?_
  refine .done (.seq (.ar js rfl ae ?_))
  refine .rn kS _ ?_
  refine .pc rfl rfl rfl rfl rfl call129 (q5) ?_
  refine .rn [7] [] ?_
  refine .done (.seq (.ar gh rfl ae ?_))
  refine .rn [0,1,2] _ ?_
  refine .split (t:=78) rfl (fun xd=>?_) (fun xd=>?_)
  ·try subst xd
   try simp at xd
   have hf:=km (by rw[xd];simp)
   rw[if_neg (by rw[hf];simp)] at hX
   refine .rn [3,4,5,6,7,8,9] [] ?_
   refine .done (.dR rfl (.sr ?_))
   refine .ret (ax ?_)
   rw[hX]
  try subst xd
  try simp at xd
  refine .rn [3,4,5,6] _ ?_
  refine .split (t:=82) rfl (fun xM=>?_) (fun xM=>?_)
  ·try subst xM
   try simp at xM
   have hf:=km (by rw[xM];simp)
   rw[if_neg (by rw[hf];simp)] at hX
   refine .rn [7,8,9] [] ?_
   refine .done (.dR rfl (.sr ?_))
   refine .ret (ax ?_)
   rw[hX]
  try subst xM
  try simp at xM
  refine .rn [7,8,9] [] ?_
  refine .done ?_
  refine .cs ?_ ?_<;>intro uk
  ·try simp at uk
   have hf:=km (by rw[uk];simp)
   rw[if_neg (by rw[hf];simp)] at hX
   refine .sr ?_
   refine .ret (ax ?_)
   rw[hX]
  try simp at uk
  have ha:=ep (by rw[xd,xM,uk];rfl)
  refine .skip (.rn ?_)
  exact⟨i+1,⟨ba,ha⟩,ba,aX⟩
 try simp at fV
 obtain rfl:i=c.g.length:=by omega
 rw[List.take_length] at qm
 rw[if_pos qm] at hX
 refine .exit (.sr ?_)
 refine .ret (ax ?_)
 rw[hX]
def nQ (v:Int):Bool:=decide (0≤v)&&decide (v≤1099511627776)
def jw (m:Nat)(r:List Int):Bool:=decide (r.length=m+1)&&r.all nQ
def sC (T:List (List Int))(i j:Nat):Int:=(T.getD i []).getD j 0
def iD (T:List (List Int))(x:ay):Bool:=!decide (sC T x.i x.j+x.n<sC T x.i' x.j')
def il (c:aj)(T:List (List Int))(cost:Int):Bool:=decide (T.length=c.t.length+1)&&T.all (jw c.c.length)&&(graph c).all (iD T)&&decide (sC T 0 0=0)&&decide (sC T c.t.length c.c.length=cost)
theorem XO {m:Nat}{T:List (List Int)}(hT:T.all (jw m)=true){i j:Nat}(hi:i<T.length)(hj:j≤m):∃r v,T[i]?=some r∧r[j]?=some v∧sC T i j=v∧0≤v∧v≤1099511627776:=by
 rw[List.all_eq_true] at hT
 have h1:=hT T[i] (List.getElem_mem hi)
 unfold jw at h1
 rw[bW,decide_eq_true_eq,List.all_eq_true] at h1
 obtain⟨h2,h3⟩:=h1
 have eV:j<T[i].length:=by omega
 have h4:=h3 _ (List.getElem_mem eV)
 unfold nQ at h4
 rw[bW,decide_eq_true_eq,decide_eq_true_eq] at h4
 refine⟨T[i],T[i][j],List.getElem?_eq_getElem hi,List.getElem?_eq_getElem eV,?_,h4.1,h4.2⟩
 unfold sC
 rw[List.getD_eq_getElem?_getD,List.getD_eq_getElem?_getD,List.getElem?_eq_getElem hi,Option.getD_some,List.getElem?_eq_getElem eV,Option.getD_some]
theorem KM (x:ay):∃b k a i l w,bZ x=.agg [.int .i64 x.i,.int .i64 x.j,.int .i64 x.i',.int .i64 x.j',.int .i64 x.n,.bool b,.int .i64 k,.int .i64 a,.int .i64 i,.int .i64 l,.int .i64 w]:=by
 unfold bZ
 split
 ·exact⟨_,_,_,_,_,_,rfl⟩
 exact⟨_,_,_,_,_,_,rfl⟩
theorem XP {c:aj}{T:List (List Int)}{cost:Int}(h:¬T.length=c.t.length+1):il c T cost=false:=by unfold il;rw[decide_eq_false h];rfl
theorem R1 {c:aj}{T:List (List Int)}{cost:Int}(h:T.all (jw c.c.length)=false):il c T cost=false:=by unfold il;rw[h,Bool.and_false];rfl
theorem XQ {c:aj}{T:List (List Int)}{cost:Int}(h:(graph c).all (iD T)=false):il c T cost=false:=by unfold il;rw[h,Bool.and_false];rfl
theorem XR {c:aj}{T:List (List Int)}{cost:Int}(h1:T.length=c.t.length+1)(h2:T.all (jw c.c.length)=true)(h3:(graph c).all (iD T)=true):il c T cost=(decide (sC T 0 0=0)&&decide (sC T c.t.length c.c.length=cost)):=by unfold il;rw[decide_eq_true h1,h2,h3];rfl
def um (c:aj)(l:List ak)(cost:Int)(T:List (List Int)):Int:=if aN c≠0 then aN c else if ((bP c l).getD (-1)=cost∧0≤cost)∧il c T cost=true then 0 else 8
theorem z5c {c:aj}(hr:Rt c){l:List ak}{n:Int}(h:bP c l=some n):0≤n:=by
 unfold bP at h
 split at h
 ·cases h
 cases hw:fu c l with
 |none=>rw[hw] at h;cases h
 |some x=>
  obtain⟨o,k⟩:=x
  rw[hw] at h
  simp only at h
  split at h
  ·injection h with h
   have:=QZ hr hw
   omega
  cases h
section
variable [bE]
theorem R3 (c:aj)(T:List (List Int))(cost:Int)(hk:aN c=0)(hT:T.length<4611686018427387904)(vg:∀r∈T,r.length<4611686018427387904):aI prog 108 [aA c,.vec (T.map ints),.int .i64 cost] fun r=>r=.bool (il c T cost):=by
 have aP:=fC hk
 have nY:=aP.tl
 have fx:=aP.cl
 have mJ:=aI.soft (KI c hk) (rj _)
 have hC:cu c=(cQ c):=rfl
 unfold aA at mJ ⊢
 rw[hC] at mJ ⊢
 have lr:IntKind.i64.wrap ((c.t.length:Int)+1)=((c.t.length+1:Nat):Int):=by rw[wrap64 (by omega) (by omega)];omega
 have cR:IntKind.i64.wrap ((c.c.length:Int)+1)=((c.c.length+1:Nat):Int):=by rw[wrap64 (by omega) (by omega)];omega
 refine .bJ func108 rfl rfl ?_
 refine .sr ?_
 refine .sr ?_
 refine .sr ?_
 refine .seq (.sr ?_)
 refine .cs ?_ ?_<;>intro gx
 ·try simp at gx
  have hX:=XP (c:=c) (T:=T) (cost:=cost) (by omega)
  refine .sr ?_
  refine .ret (ax ?_)
  rw[hX]
 try simp at gx
 have Cv:T.length=c.t.length+1:=by omega
 refine .skip (.seq (.sr ?_))
 refine .block ?_
 refine .cZ (fun i:Nat=>([(1,.vec (T.map ints)),(2,.int .i64 cost),(3,.ptr 0 0),(7,.int .i64 c.t.length),(8,.int .i64 c.c.length),(9,.int .i64 i)],⟨1,[(0,.box (cQ c))]⟩)) (fun i=>i≤c.t.length+1∧(T.take i).all (jw c.c.length)=true) (fun i=>c.t.length+1 - i) 0 (by simp) aX ?_
 rintro i ⟨hi,ht⟩
 simp only at hi ht ⊢
 refine .seq (.sr ?_)
 refine .cs ?_ ?_<;>intro iI
 ·try simp at iI
  have sh:IntKind.i64.wrap ((i:Int)+1)=((i+1:Nat):Int):=by rw[wrap64 (by omega) (by omega)];omega
  have cE:i<T.length:=by omega
  have XS:(i:Int)<(c.t.length:Int)+1:=by omega
  obtain⟨r,hr⟩:∃r,T[i]?=some r:=⟨_,List.getElem?_eq_getElem cE⟩
  have R4:T[i]=r:=(List.getElem?_eq_some_iff.1 hr).2
  have ep:=@Cx _ (jw c.c.length) T i cE ht
  have km:=@Cy _ (jw c.c.length) T i cE
  rw[R4] at ep km
  have x6:jw c.c.length r=(decide (r.length=c.c.length+1)&&r.all nQ):=rfl
  refine .skip (.seq (.block (.seq (.sr ?_))))
  refine .cs ?_ ?_<;>intro nt
  ·try simp at nt
   have hX:=R1 (cost:=cost) (km (by rw[x6,decide_eq_false (by omega)];rfl))
   refine .sr ?_
   refine .ret (ax ?_)
   rw[hX]
  try simp at nt
  have Ny:r.length=c.c.length+1:=by omega
  rw[decide_eq_true Ny,Bool.true_and] at x6
  refine .skip (.sr ?_)
  refine .block ?_
  refine .cZ (fun j:Nat=>([(1,.vec (T.map ints)),(2,.int .i64 cost),(3,.ptr 0 0),(7,.int .i64 c.t.length),(8,.int .i64 c.c.length),(9,.int .i64 i),(10,.int .i64 j)],⟨1,[(0,.box (cQ c))]⟩)) (fun j=>j≤c.c.length+1∧(r.take j).all nQ=true) (fun j=>c.c.length+1 - j) 0 (by simp) aX ?_
  rintro j ⟨hj,qm⟩
  simp only at hj qm ⊢
  refine .seq (.sr ?_)
  refine .cs ?_ ?_<;>intro zu
  ·try simp at zu
   have DM:IntKind.i64.wrap ((j:Int)+1)=((j+1:Nat):Int):=by rw[wrap64 (by omega) (by omega)];omega
   have eV:j<r.length:=by omega
   have BH:(j:Int)<(c.c.length:Int)+1:=by omega
   obtain⟨v,hv⟩:∃v,r[j]?=some v:=⟨_,List.getElem?_eq_getElem eV⟩
   have hve:r[j]=v:=(List.getElem?_eq_some_iff.1 hv).2
   have lI:=@Cx _ nQ r j eV qm
   have F4:=@Cy _ nQ r j eV
   rw[hve] at lI F4
   have sy:=wZ v 0 1099511627776
   obtain⟨vb,XU⟩:∃b,nQ v=b:=⟨_,rfl⟩
   rw[show (decide (0≤v)&&decide (v≤1099511627776))=vb from XU] at sy
   rw[XU] at lI F4
   refine .skip (.seq (.block (.seq (.ar oT rfl ae (.rn gT _ ?_)))))
   refine .pc rfl rfl rfl rfl rfl call99 (sy) ?_
   refine .rn [8] [] ?_
   refine .done (.sr ?_)
   refine .cs ?_ ?_<;>intro ui
   ·try simp at ui
    have hX:=R1 (cost:=cost) (km (by rw[x6];exact F4 (by simpa using ui)))
    refine .sr ?_
    refine .ret (ax ?_)
    rw[hX]
   try simp at ui
   have rH:=lI (by simpa using ui)
   refine .skip (.rn ?_)
   exact⟨j+1,⟨ba,rH⟩,ba,aX⟩
  try simp at zu
  obtain rfl:j=c.c.length+1:=by omega
  rw[← Ny,List.take_length] at qm
  have ha:=ep (by rw[x6,qm])
  refine .exit (.rn ?_)
  exact⟨i+1,⟨ba,ha⟩,ba,aX⟩
 try simp at iI
 obtain rfl:i=c.t.length+1:=by omega
 rw[← Cv,List.take_length] at ht
 have Ba:=fun i j hi hj=>@XO c.c.length T ht i j hi hj
 have XV:∀x∈graph c,∃i j,i≤c.t.length∧j≤c.c.length∧HI c i j x:=fun x hx=>by
  obtain⟨i,j,h1,h2,h3⟩:=HJ.1 hx
  exact⟨i,j,h1,h2,iz aP h3⟩
 have F5:=@XQ c T cost
 have Ec:=@XR c T cost Cv ht
 have tX:=HL aP
 obtain⟨G,hG⟩:∃G,graph c=G:=⟨_,rfl⟩
 rw[hG] at mJ XV F5 Ec tX
 refine .exit (.seq (.ar [0,1,2] rfl ae (.rn [0] _ ?_)))
 refine .pc rfl rfl rfl rfl rfl call97 (mJ) ?_
 refine .rn [2] [] ?_
 refine .done (.seq (.sr ?_))
 refine .block ?_
 refine .cZ (fun k:Nat=>([(1,.vec (T.map ints)),(2,.int .i64 cost),(7,.int .i64 c.t.length),(8,.int .i64 c.c.length),(12,.vec (G.map bZ)),(13,.int .i64 k)],af.empty)) (fun k=>k≤G.length∧(G.take k).all (iD T)=true) (fun k=>G.length - k) 0 (by simp) aX ?_
 rintro k ⟨ee,HD⟩
 simp only at ee HD ⊢
 refine .seq (.sr ?_)
 refine .cs ?_ ?_<;>intro vR
 ·try simp at vR
  have qA:IntKind.i64.wrap ((k:Int)+1)=((k+1:Nat):Int):=by rw[wrap64 (by omega) (by omega)];omega
  have dm:k<G.length:=by omega
  obtain⟨x,hx⟩:∃x,G[k]?=some x:=⟨_,List.getElem?_eq_getElem dm⟩
  have ic:G[k]=x:=(List.getElem?_eq_some_iff.1 hx).2
  have ep:=@Cx _ (iD T) G k dm HD
  have km:=@Cy _ (iD T) G k dm
  rw[ic] at ep km
  obtain⟨i0,j0,Q7,hj0,iZ⟩:=XV x (List.mem_of_getElem? hx)
  obtain⟨xb,xk,xa,xi,xl,xw,hD⟩:=KM x
  have rE:=iZ.fi;have wx:=iZ.fj;have V6:=iZ.it;have Mt:=iZ.jt;have DN:=iZ.n0;have iA:=iZ.n1
  obtain⟨r1,v1,oQ,iF,uL,Cz,CA⟩:=Ba x.i x.j (by omega) (by omega)
  obtain⟨r2,v2,ky,eZ,qm,CB,CC⟩:=Ba x.i' x.j' (by omega) (by omega)
  have mK:iD T x = !decide (v1+x.n<v2):=by unfold iD;rw[uL,qm]
  have zx:=List.getElem?_eq_some_iff.1 oQ
  have zy:=List.getElem?_eq_some_iff.1 ky
  have u7:=List.getElem?_eq_some_iff.1 iF
  have u9:=List.getElem?_eq_some_iff.1 eZ
  obtain⟨F6,zx⟩:=zx
  obtain⟨F7,zy⟩:=zy
  obtain⟨CD,u7⟩:=u7
  obtain⟨CE,u9⟩:=u9
  have hxi:(x.i:Int)<(c.t.length:Int)+1:=by omega
  have R5:(x.i':Int)<(c.t.length:Int)+1:=by omega
  have R6:IntKind.i64.wrap (v1+x.n)=v1+x.n:=wrap64 (by omega) (by omega)
  clear rE wx iZ uL qm Q7 hj0
  refine .skip (.seq (.block (.sr ?_)))
  refine .seq ?_
  refine .drawn (ms:=[0,0,2,6,15,31,0,64,192,511,1023,0,0,4096,12288,30720,63488,0,131072,393216,1046528,2095104,0,4194304,16775168,33554431]) (W:=[]) (items:=[.op 0,.op 1,.op 2,.op 3,.op 4,.op 5,.op 6,.op 7,.op 8,.op 9,.op 10,.op 11,.op 12,.op 13,.op 14,.op 15,.op 16,.op 17,.op 18,.op 19,.op 20,.op 21,.op 22,.op 23,.op 24,.op 25]) rfl ae ae ae ?_
  iterate 26 refine .rx ?_
  refine .done ?_
  refine .cs ?_ ?_<;>intro Bb
  ·try simp at Bb
   have hX:=F5 (km (by rw[mK,decide_eq_true (by omega)];rfl))
   refine .sr ?_
   refine .ret (ax ?_)
   rw[hX]
  try simp at Bb
  have ha:=ep (by rw[mK,decide_eq_false (by omega)];rfl)
  refine .skip (.rn ?_)
  exact⟨k+1,⟨ba,ha⟩,ba,aX⟩
 try simp at vR
 obtain rfl:k=G.length:=by omega
 rw[List.take_length] at HD
 have hX:=Ec HD
 obtain⟨r1,v1,oQ,iF,uL,Cz,CA⟩:=Ba 0 0 (by omega) (by omega)
 obtain⟨r2,v2,ky,eZ,qm,CB,CC⟩:=Ba c.t.length c.c.length (by omega) (by omega)
 rw[uL,qm] at hX
 obtain⟨F6,zx⟩:=List.getElem?_eq_some_iff.1 oQ
 obtain⟨F7,zy⟩:=List.getElem?_eq_some_iff.1 ky
 obtain⟨CD,u7⟩:=List.getElem?_eq_some_iff.1 iF
 obtain⟨CE,u9⟩:=List.getElem?_eq_some_iff.1 eZ
 have nk:(c.t.length:Int)<(c.t.length:Int)+1:=by omega
 have mW:(0:Int)<(c.t.length:Int)+1:=by omega
 obtain⟨b1,eM⟩:∃b,(v1==0)=b:=⟨_,rfl⟩
 obtain⟨b2,cr⟩:∃b,(v2==cost)=b:=⟨_,rfl⟩
 rw[show decide (v1=0)=b1 from eM,show decide (v2=cost)=b2 from cr] at hX
 refine .exit (.seq (.ar qB rfl ae (.rn gT _ ?_)))
 refine .split (t:=98) rfl (fun vi=>?_) (fun vi=>?_)
 ·try subst vi
  try simp at vi
  refine .rn [7,8,9,10,11,12,13,14,15,16,17] [] ?_
  refine .done (.ret (ax ?_))
  rw[hX];rfl
 try subst vi
 try simp at vi
 refine .rn [7,8,9,10,11,12,13,14,15,16,17] [] ?_
 refine .done (.ret (ax ?_))
 rw[hX];rfl
theorem R7 (c:aj)(l:List ak)(cost:Int)(T:List (List Int))(hB:BC c)(da:l.length≤200)(hT:T.length<4611686018427387904)(vg:∀r∈T,r.length<4611686018427387904):aI prog 50 [aA c,.agg [.vec (l.map encS),.int .i64 cost,.vec (T.map ints)]] fun r=>r=.int .i64 (um c l cost T):=by
 have fY:=A8 c hB
 have xf:=RB c l
 have xg:=R3 c T cost
 have hC:cu c=(cQ c):=rfl
 unfold aA at fY xf xg ⊢
 rw[hC] at fY xf xg ⊢
 refine .bJ func50 rfl rfl ?_
 by_cases hk:aN c=0
 ·
  have xf:=xf hk da
  have xg:=xg hk hT vg
  have hX:um c l cost T=if ((bP c l).getD (-1)=cost∧0≤cost)∧il c T cost=true then 0 else 8:=by unfold um;rw[if_neg (by simp[hk])]
  rw[hk] at fY
  obtain⟨E,hE⟩:∃E,(bP c l).getD (-1)=E:=⟨_,rfl⟩
  rw[hE] at xf hX
  obtain⟨pb,R8⟩:∃b,il c T cost=b:=⟨_,rfl⟩
  rw[R8] at xg hX
  obtain⟨g1,qf⟩:∃b,decide (E<0)=b:=⟨_,rfl⟩
  obtain⟨g2,nH⟩:∃b,(E != cost)=b:=⟨_,rfl⟩
  refine .sr ?_
  refine .seq (.ar [0,1,2] rfl ae (.rn [0] _ ?_))
  refine .pc rfl rfl rfl rfl rfl call66 (fY) ?_
  refine .rn [2] [] ?_
  refine .done (.seq (.sr ?_))
  refine .cs ?_ ?_<;>intro iC
  ·try simp at iC
  try simp at iC
  refine .skip (.seq (.ar fR rfl ae (.rn [0,1,2] _ ?_)))
  refine .pc rfl rfl rfl rfl rfl call107 (xf) ?_
  refine .rn [4] [] ?_
  refine .done (.seq (.seq (.ar js rfl ae ?_)))
  refine .rn [0,1,2] _ ?_
  refine .split (t:=19) rfl (fun gG=>?_) (fun gG=>?_)
  ·try subst gG
   try simp at gG
   rw[if_neg (fun hh=>by have:=of_decide_eq_true qf;omega)] at hX
   refine .rn [3,4,5,6,7] [] ?_
   refine .done (.dR rfl (.sr ?_))
   refine .ret (ax ?_)
   rw[hX]
  try subst gG
  try simp at gG
  refine .rn [3,4,5,6,7] [] ?_
  refine .done ?_
  refine .cs ?_ ?_<;>intro mb
  ·try simp at mb
   rw[if_neg (fun hh=>by rw[mb] at nH;simp at nH;exact nH hh.1.1)] at hX
   refine .sr ?_
   refine .ret (ax ?_)
   rw[hX]
  try simp at mb
  have hE0:E=cost:=by rw[mb] at nH;simpa using nH
  have hE1:0≤cost:=by have:=of_decide_eq_false qf;omega
  refine .skip (.seq (.ar gT rfl ae (.rn fR _ ?_)))
  refine .pc rfl rfl rfl rfl rfl call108 (xg) ?_
  refine .rn [6] [] ?_
  refine .done (.seq (.sr ?_))
  refine .cs ?_ ?_<;>intro ft
  ·try simp at ft
   rw[if_neg (fun hh=>by have h2:=hh.2;rw[ft] at h2;cases h2)] at hX
   refine .sr ?_
   refine .ret (ax ?_)
   rw[hX]
  try simp at ft
  rw[if_pos ⟨⟨hE0,hE1⟩,by simpa using ft⟩] at hX
  refine .skip (.sr ?_)
  refine .ret (ax ?_)
  rw[hX]
 ·
  have hX:um c l cost T=aN c:=by unfold um;rw[if_pos hk]
  obtain⟨K,hK⟩:∃K,aN c=K:=⟨_,rfl⟩
  rw[hK] at fY hX hk
  refine .sr ?_
  refine .seq (.ar [0,1,2] rfl ae (.rn [0] _ ?_))
  refine .pc rfl rfl rfl rfl rfl call66 (fY) ?_
  refine .rn [2] [] ?_
  refine .done (.seq (.sr ?_))
  refine .cs ?_ ?_<;>intro iC
  ·try simp at iC
   refine .sr ?_
   refine .ret (ax ?_)
   rw[hX]
  try simp at iC
  exact absurd iC hk
end
end Go.Am.Sl
end
