/-
 What is used in the proof of a statement (part SlI17); no condition.
-/
import Derived.Test.YthnmgbgmlhackaaGreatDoorSlH
import Derived.Test.YthnmgbgmlhackaaGreatDoorSlI0
import Derived.Test.YthnmgbgmlhackaaGreatDoorSlI1
import Derived.Test.YthnmgbgmlhackaaGreatDoorSlI3
import Derived.Test.YthnmgbgmlhackaaGreatDoorSlI5
import Derived.Test.YthnmgbgmlhackaaGreatDoorSlI10
set_option linter.all false
set_option maxHeartbeats 40000000
set_option maxRecDepth 100000
section
namespace Go.Am.Sl
theorem YA:∀ {l pre:List mD},oz pre l=true→∀x∈l,fB x.t=true
 |[],_,_=>fun x hx=>by cases hx
 |a::r,pre,h=>fun x hx=>by
  unfold oz at h
  rw[bW] at h
  rcases List.mem_cons.1 hx with rfl|hx
  ·have:=h.1
   unfold py at this
   simp only[bW] at this
   exact this.1.1.1.2
  exact YA h.2 x hx
theorem K5 {c:aj}(h:aN c=0):q7 c=0∧c.t.length≤48∧c.c.length≤48∧c.g.length≤6∧c.t.all fB=true∧c.c.all fB=true∧c.g.all (lB c.t.length)=true:=by
 unfold aN at h
 split at h
 ·rename_i h1;exact absurd h h1
 rename_i h1
 split at h
 ·cases h
 rename_i h2
 split at h
 ·rename_i h3
  simp only[bW] at h3
  exact⟨Decidable.not_not.1 h1,by omega,by omega,by omega,h3.1.1,h3.1.2,h3.2⟩
 cases h
theorem z8d {c:aj}(h:aN c=0){o:List Int}(hl:o.length≤48)(hw:o.all fB=true):aN { c with c:=o }=0:=by
 obtain⟨h1,h2,h3,h4,h5,h6,h7⟩:=K5 h
 unfold aN
 have e1:q7 { c with c:=o }=0:=h1
 rw[e1]
 simp only[ne_eq,not_true_eq_false,if_false]
 rw[if_neg (by omega),h5,hw,h7];rfl
theorem z5i {c:aj}(h:q7 c=0):oz [] c.mx=true:=by
 unfold q7 at h
 split at h
 ·split at h
  ·cases h
  split at h
  ·assumption
  cases h
 cases h
theorem zzg {c:aj}(hk:aN c=0){s:ak}{n:Int}{i':Nat}{w:List Int}(hd:aM c s=some (n,i',w)):w.all fB=true:=by
 obtain⟨h1,_,_,_,h5,_,h7⟩:=K5 hk
 unfold aM at hd
 split at hd
 ·rename_i h0
  simp only at hd
  split at hd
  ·split at hd
   ·cases hm:fK c.mx (c.t.getD s.a.toNat 0) s.w with
    |none=>rw[hm] at hd;cases hd
    |some v=>
     rw[hm] at hd
     simp only[Option.map_some,aB,bO] at hd
     obtain⟨_,_,rfl⟩:=hd
     obtain⟨x,hx,e⟩:=NF hm
     have:=YA (z5i h1) x hx
     rw[e.2.1] at this
     simp[this]
   cases hd
  split at hd
  ·split at hd
   ·simp only[aB,bO] at hd;obtain⟨_,_,rfl⟩:=hd;rfl
   cases hd
  split at hd
  ·split at hd
   ·simp only[aB,bO] at hd;obtain⟨_,_,rfl⟩:=hd;rfl
   cases hd
  split at hd
  ·split at hd
   ·simp only[aB,bO] at hd
    obtain⟨_,_,rfl⟩:=hd
    rw[List.all_eq_true] at h5 ⊢
    exact fun x hx=>h5 x (List.mem_of_mem_drop (List.mem_of_mem_take hx))
   cases hd
  split at hd
  ·split at hd
   ·rename_i hg
    simp only[aB,bO] at hd
    obtain⟨_,_,rfl⟩:=hd
    have a8:s.l.toNat<c.g.length:=by omega
    rw[List.getD_eq_getElem?_getD,List.getElem?_eq_getElem a8,Option.getD_some]
    rw[List.all_eq_true] at h7
    have:=h7 _ (List.getElem_mem a8)
    unfold lB at this
    rw[bW] at this
    exact this.2
   cases hd
  split at hd
  ·split at hd
   ·rename_i hg
    simp only[aB,bO] at hd
    obtain⟨_,_,rfl⟩:=hd
    simp[hg.1]
   cases hd
  cases hd
 cases hd
def Bd (c:aj)(s:ak):Int:=match aM c s with|some (n,_,_)=>n|none=>0
theorem SF {c:aj}(hk:aN c=0):∀ {l:List ak} {out:List Int} {i:Nat} {sum:Int} {o:List Int} {m:Int},oc c l out i sum=some (o,m)→out.all fB=true→
  o.all fB=true∧m=sum+(l.map (Bd c)).sum∧out.length≤o.length∧∀s∈l,s.i≤(o.length:Int)∧aM c s≠none
 |[],out,i,sum,o,m,h,hw=>by
  unfold oc at h
  simp only[aB,bO] at h
  obtain⟨rfl,rfl⟩:=h
  have h5:=(K5 hk).2.2.2.2.1
  refine⟨?_,by simp,by simp,fun s hs=>by cases hs⟩
  rw[List.all_append,hw,Bool.true_and]
  rw[List.all_eq_true] at h5 ⊢
  exact fun x hx=>h5 x (List.mem_of_mem_drop hx)
 |s::r,out,i,sum,o,m,h,hw=>by
  rw[DW] at h
  split at h
  ·split at h
   ·rename_i n i' w hd
    split at h
    ·rename_i hi
     have h5:=(K5 hk).2.2.2.2.1
     have cR:(out++(c.t.drop i).take (s.a.toNat - i)++w).all fB=true:=by
      rw[List.all_append,List.all_append,hw,zzg hk hd]
      have:((c.t.drop i).take (s.a.toNat - i)).all fB=true:=by
       rw[List.all_eq_true] at h5 ⊢
       exact fun x hx=>h5 x (List.mem_of_mem_drop (List.mem_of_mem_take hx))
      rw[this];rfl
     obtain⟨g1,g2,g3,g4⟩:=SF hk h cR
     have zX:Bd c s=n:=by unfold Bd;rw[hd]
     refine⟨g1,by rw[g2,List.map_cons,List.sum_cons,zX];omega,?_,fun x hx=>?_⟩
     ·simp only[List.length_append] at g3;omega
     rcases List.mem_cons.1 hx with rfl|hx
     ·rw[hi]
      refine⟨?_,by rw[hd];simp⟩
      simp only[List.length_append] at g3 ⊢;omega
     exact g4 x hx
    cases h
   cases h
  cases h
theorem YB {c:aj}:∀ {l:List ak} {i j:Nat},rU c i l→((tn c l i j).map (Bd c)).sum=(l.map (Bd c)).sum
 |[],_,_,_=>rfl
 |s::r,i,j,h=>by
  obtain⟨h1,h2,n,i',w,hd,h3⟩:=h
  rw[Nt hd,List.map_cons,List.sum_cons,List.map_cons,List.sum_cons,YB h3]
  have:Bd c { s with i:=((j+(s.a.toNat - i):Nat):Int) }=Bd c s:=by
   unfold Bd
   rw[Q6 (by omega) (Qp hd).2.2]
  rw[this]
theorem YC {f:ak→Int}{s:ak}:∀ {l:List ak} {k:Nat},l[k]?=some s→((l.eraseIdx k).map f).sum=(l.map f).sum - f s
 |[],_,h=>by cases h
 |a::r,0,h=>by
  simp only[List.getElem?_cons_zero,aB] at h
  subst h
  simp;omega
 |a::r,k+1,h=>by
  have:=YC (f:=f) (l:=r) (k:=k) (by simpa using h)
  simp only[List.eraseIdx_cons_succ,List.map_cons,List.sum_cons,this]
  omega
theorem YD {c:aj}(o:List Int):∀(l:List ak) (out:List Int) (i:Nat) (sum:Int),oc { c with c:=o } l out i sum=oc c l out i sum
 |[],_,_,_=>rfl
 |s::r,out,i,sum=>by
  rw[DW,DW]
  have hd:aM { c with c:=o } s=aM c s:=rfl
  rw[hd]
  show (if (i:Int)≤s.a∧s.a≤(c.t.length:Int) then _ else _)=_
  split
  ·split
   ·rw[YD o r]
   rfl
  rfl
theorem zys {c:aj}{n:Int}(h:bP c []=some n):c.c=c.t∧n=0:=by
 obtain⟨_,h⟩:=Kg h
 unfold fu oc at h
 simp only[List.drop_zero,List.nil_append,aB,bO] at h
 exact⟨h.1.symm,h.2.symm⟩
theorem z6f {c:aj}(hk:aN c=0){l:List ak}{n:Int}(h:bP c l=some n){k:Nat}{s:ak}(hs:l[k]?=some s) :
  Nq c s=0∧No c l=c.c∧Np c l=0∧(u4 c l k=2∨(u4 c l k=0∧aN (zg c l k)=0∧(zg c l k).t=c.t∧bP (zg c l k) (Ck c l k)=some (n - HP c s)∧(Ck c l k).length+1=l.length)):=by
 have hr:=fC hk
 obtain⟨hl,hw⟩:=Kg h
 have kB:=Ns h
 obtain⟨a1,a2,a3,a4⟩:=SF hk hw rfl
 have H6:=List.mem_of_getElem? hs
 obtain⟨b1,b2⟩:=a4 s H6
 obtain⟨ee,_⟩:=List.getElem?_eq_some_iff.1 hs
 have hpn:HP c s=Bd c s:=by
  unfold HP Bd
  rw[if_pos hk]
  cases hd:aM c s with
  |none=>rfl
  |some v=>obtain⟨x,y,z⟩:=v;simp[b1]
 refine⟨?_,?_,?_,?_⟩
 ·unfold Nq
  rw[if_pos hk]
  cases hd:aM c s with
  |none=>exact absurd hd b2
  |some v=>obtain⟨x,y,z⟩:=v;simp[b1]
 ·unfold No
  rw[if_pos hk,if_neg (by omega),hw]
 ·unfold Np
  rw[if_pos hk,if_neg (by omega),hw]
 have Gp:rU c 0 (l.eraseIdx k):=kB.erase hr k
 obtain⟨o,m,cR⟩:=W4 hr Gp
 have hR:zf c l k=tn c (l.eraseIdx k) 0 0:=by unfold zf;rw[Int.toNat_natCast]
 have hO:DX c (zf c l k)=o:=by unfold DX;rw[hR,cR]
 obtain⟨d1,d2,d3,d4⟩:=SF hk cR rfl
 have hE:u4 c l k=if 48<o.length then 2 else 0:=by
  unfold u4
  rw[if_neg (by simp[hk]),if_neg (by
   rw[h]
   intro hh
   rcases hh with hh|hh
   ·cases hh
   exact hh ⟨by omega,by omega⟩),hO]
 by_cases ho:48<o.length
 ·rw[if_pos ho] at hE;exact .inl hE
 rw[if_neg ho] at hE
 refine .inr ⟨hE,?_⟩
 have hC:zg c l k={ c with c:=o }:=by unfold zg;rw[if_pos hE,hO]
 have H7:Ck c l k=tn c (l.eraseIdx k) 0 0:=by unfold Ck;rw[if_pos hE,hR]
 rw[hC,H7]
 have hlen:(tn c (l.eraseIdx k) 0 0).length=l.length - 1:=by rw[W2 Gp,List.length_eraseIdx,if_pos ee]
 refine⟨z8d hk (by omega) d1,rfl,?_,by omega⟩
 unfold bP
 rw[if_neg (by omega)]
 have sX:fu { c with c:=o } (tn c (l.eraseIdx k) 0 0)=some (o,m):=by
  unfold fu at cR ⊢;rw[YD,cR]
 rw[sX]
 simp only
 rw[if_pos trivial,d2,YB Gp,YC hs,hpn,a2]
 congr 1;omega
open Go Go.Am Go.Proofs Tryz
attribute [local simp] de fQ lz dz dN jD af.back b6 dG iO bm Nat.testBit_eq_decide_div_mod_eq ct gf jB vO kN dX kO gE cJ jR jQ kK dY kL j9 jq ly j8 kM kF kC kG kD kE kH kI jM di ig dd kP jS ka kQ kR jL ls lu dW jC dy dx dA iL dK jY jO jP gX kz a7 j7 dw bA bC ja af.get af.alloc af.put af.drop af.empty bq cg gd gR fe cp chunk List.range List.range.loop iP lA jr bI bG PV.aD PV.az PV.b8 PV.dv eu dZ kc PV.one PV.ids PV.bT fJ beq_eq lQ l9
attribute [local simp] cQ bQ cw ef dD
attribute [local simp ↓ high] mG ma
theorem YE {c:aj}(hk:aN c=0):BC c:=by
 obtain⟨h1,h2,h3,h4,h5,h6,h7⟩:=K5 hk
 have hm:=(fC hk).MP
 refine⟨by omega,by omega,by omega,by omega,fun x hx=>?_⟩
 rw[List.all_eq_true] at h7
 have:=h7 x hx
 unfold lB at this
 simp only[bW,decide_eq_true_eq] at this
 omega
theorem SG {c:aj}(hk:aN c=0){l:List ak}{n:Int}(h:bP c l=some n):l.length≤100∧0≤n∧n≤10000:=by
 obtain⟨h1,h2⟩:=Kg h
 have:=QY (fC hk) l [] 0 0 h2
 omega
variable [bE] in
theorem p10 (hN:Names)(c:aj)(l:List ak)(n:Nat)(hB:BC c)(hl:l.length<4611686018427387904)(hn:n<256):aI prog 10 [aA c,.vec (l.map encS),.int .u8 n] fun r=>r=.bool true:=by
 obtain⟨u,hu⟩:∃u:Int,(n:Int)=u:=⟨_,rfl⟩
 have SH:0≤u∧u<256:=by omega
 rw[hu]
 clear hu hn
 have iX:=Gg hN
 have qL:=NU c
 have zY:=KX l
 have gp:=HT c hB
 have mZ:=fun da=>Nr c l hB da
 have hC:cu c=(cQ c):=rfl
 obtain⟨e,he⟩:∃e,aN c=e:=⟨_,rfl⟩
 have bR:=he
 rw[he] at gp mZ
 rw[KP,show (if e=0 then (qK c).map ints else [])=(if e=0 then qK c else []).map ints by split<;>rfl] at gp
 have gp:=aI.soft gp (by simp[PV.aD,PV.az])
 obtain⟨A,hA⟩:∃A,(if e=0 then lH c else [])=A:=⟨_,rfl⟩
 obtain⟨L,hL⟩:∃A,(if e=0 then eR c else 0)=A:=⟨_,rfl⟩
 obtain⟨TB,uq⟩:∃A,(if e=0 then qK c else [])=A:=⟨_,rfl⟩
 rw[hA,hL,uq] at gp
 have N3:e=0→bP c A=some L:=fun h=>by rw[← hA,← hL,if_pos h,if_pos h];exact J8 (fC (he.trans h))
 obtain⟨nsb,mK⟩:∃b,pR c = !b:=⟨!pR c,by simp⟩
 rw[mK] at qL
 obtain⟨s1,mT⟩:∃b,decide (l.length≤120)=b:=⟨_,rfl⟩
 rw[mT] at zY
 obtain⟨X,hX⟩:∃X,bP c l=X:=⟨_,rfl⟩
 rw[hX] at mZ
 obtain⟨v,hv⟩:∃v,X.getD 0=v:=⟨_,rfl⟩
 obtain⟨nx,dp⟩:∃b,X.isSome = !b:=⟨!X.isSome,by simp⟩
 rw[hv,dp] at mZ
 unfold aA at qL gp mZ ⊢
 rw[hC] at qL gp mZ ⊢
 clear uq mK hA hL he
 refine .bJ func10 rfl rfl ?_
 refine .sr ?_
 refine .seq (.seq (.ar js rfl ae (.rn [0] _ ?_)))
 refine .pc rfl rfl rfl rfl rfl call19 (qL) ?_
 refine .rn [2,3] _ ?_
 refine .split (t:=28) rfl (fun iI=>?_) (fun iI=>?_)
 ·try subst iI
  try simp at iI
  refine .rn [4,5,6,7] [] ?_
  refine .done (.dR rfl (.seq ?_))
  refine .ar [0,1] rfl ae ?_
  refine .pc rfl rfl rfl rfl rfl call20 (iX) ?_
  refine .rn [1] [] ?_
  refine .done (.ret (ax ?_))
  exact zk
 try subst iI
 try simp at iI
 refine .rn [4] _ ?_
 refine .pc rfl rfl rfl rfl rfl call38 (zY) ?_
 refine .rn [6,7] [] ?_
 refine .done ?_
 refine .cs ?_ ?_<;>intro ft
 ·try simp at ft
  refine .seq (.ar [0,1] rfl ae ?_)
  refine .pc rfl rfl rfl rfl rfl call20 (iX) ?_
  refine .rn [1] [] ?_
  refine .done (.ret (ax ?_))
  exact zk
 try simp at ft
 have da:=of_decide_eq_true (mT.trans ft)
 have mZ:=mZ (by omega)
 refine .skip (.seq (.ar js rfl ae (.rn [0] _ ?_)))
 refine .pc rfl rfl rfl rfl rfl call21 (gp) ?_
 refine .rn [2,3,4,5,6,7] [] ?_
 refine .done (.seq (.sr ?_))
 refine .cs ?_ ?_<;>intro jW
 ·try simp at jW
  refine .seq (.ar [0,1] rfl ae ?_)
  refine .pc rfl rfl rfl rfl rfl call20 (iX) ?_
  refine .rn [1] [] ?_
  refine .done (.ret (ax ?_))
  exact zk
 try simp at jW
 subst jW
 simp only[if_true] at mZ
 have N3:=N3 rfl
 have vU:nx=false→bP c l=some v:=fun h=>by
  rw[hX]
  rw[h] at dp
  cases X with
  |none=>cases dp
  |some y=>rw[← hv];rfl
 clear hX dp hv
 refine .skip (.seq (.ar gh rfl ae (.rn [0,1] _ ?_)))
 refine .pc rfl rfl rfl rfl rfl call40 (mZ) ?_
 refine .rn [3,4,5,6,7,8,9] [] ?_
 refine .done ?_
 refine .join (fun z:List ak×Int=>([(1,.vec (z.1.map encS)),(2,.int .u8 u),(3,.ptr 0 0),(9,.int .i64 z.2),(11,.int .i64 0)],⟨1,[(0,.box (cQ c))]⟩)) (fun z=>bP c z.1=some z.2) ?_ ?_
 ·skip
  refine .sr ?_
  refine .cs ?_ ?_<;>intro ti
  ·try simp at ti
   refine .sr ?_
   refine .rn ?_
   exact⟨(A,L),N3,aX⟩
  try simp at ti
  refine .skip ?_
  exact⟨(l,v),vU ti,aX⟩
 skip
 rintro⟨l1,n1⟩ FQ
 simp only at FQ ⊢
 clear N3 vU mZ gp qL zY
 refine .seq (.sr ?_)
 refine .cs ?_ ?_<;>intro zj
 ·try simp at zj
 try simp at zj
 refine .skip (.sr ?_)
 refine .seq (.sr ?_)
 refine .block ?_
 refine .cZ (fun z:Nat×aj×List ak×Int=>([(1,.vec (z.2.2.1.map encS)),(2,.int .u8 u),(9,.int .i64 z.2.2.2),(12,.ptr 0 0),(13,.int .i64 z.1)],⟨1,[(0,.box [.int .i64 z.2.1.om,.int .i64 z.2.1.le,.int .i64 z.2.1.tw,.int .i64 z.2.1.gl,.int .i64 z.2.1.ad,.vec (z.2.1.mx.map bD),ints z.2.1.t,.vec (z.2.1.g.map cy),ints z.2.1.c])]⟩)) (fun z=>aN z.2.1=0∧bP z.2.1 z.2.2.1=some z.2.2.2∧z.1+z.2.2.1.length≤100) (fun z=>200 - z.1) (0,c,l1,n1) ⟨bR,FQ,by have:=(SG bR FQ).1;simp only;omega⟩ (.mk [] [(0,1)] gH gY rfl rfl rfl) ?_
 rintro⟨k,d,l2,n2⟩ ⟨yM,od,ee⟩
 simp only at yM od ee ⊢
 clear FQ hB hl hC bR
 have Gq:=YE yM
 obtain⟨g0,uf⟩:∃b,decide (0<l2.length)=b:=⟨_,rfl⟩
 have YF:decide ((k:Int)≤120)=true:=decide_eq_true (by omega)
 refine .seq (.seq (.ar gT rfl ae (.rn dQ _ ?_)))
 refine .split (t:=61) rfl (fun pz=>?_) (fun pz=>?_)
 ·try subst pz
  try simp at pz
  have DN:=of_decide_eq_true uf
  have qA:IntKind.i64.wrap ((k:Int)+1)=((k+1:Nat):Int):=by rw[wrap64 (by omega) (by omega)];omega
  have hwu:IntKind.i64.wrap u=u:=wrap64 (by omega) (by omega)
  have db:¬l2=[]:=fun h=>by rw[h] at DN;cases DN
  obtain⟨i,hi,cE⟩:∃i:Nat,u.tmod (l2.length:Int)=i∧i<l2.length:=by
   have h1:=Int.tmod_nonneg (l2.length:Int) SH.1
   have h2:=Int.tmod_lt_of_pos u (show 0<(l2.length:Int) by omega)
   exact⟨(u.tmod (l2.length:Int)).toNat,by omega,by omega⟩
  obtain⟨s,hs⟩:∃s,l2[i]?=some s:=⟨_,List.getElem?_eq_getElem cE⟩
  have D7:=(List.getElem?_eq_some_iff.1 hs).2
  have hE:∀s:ak,encS s=.agg [.int .i64 s.k,.int .i64 s.a,.int .i64 s.i,.int .i64 s.l,.int .i64 s.w]:=fun _=>rfl
  obtain⟨m1,m2,m3,m4⟩:=z6f yM od hs
  have cr:=SG yM od
  have H8:=p52 d s Gq
  have H9:=p53 d l2 Gq (by omega)
  have K6:=aI.soft (Xg d l2 i Gq (by omega)) (by have:=z5p (zg d l2 i);simp[PV.aD,PV.az,this])
  rw[m1] at H8
  rw[m2,m3] at H9
  have H9:=aI.soft H9 (by simp[PV.aD,PV.az])
  have zT:=Sf d.c d.c Gq.hc Gq.hc
  rw[decide_eq_true rfl] at zT
  obtain⟨pr,zX⟩:∃x,HP d s=x:=⟨_,rfl⟩
  obtain⟨E,YG⟩:∃x,u4 d l2 i=x:=⟨_,rfl⟩
  obtain⟨D2,oC⟩:∃x,zg d l2 i=x:=⟨_,rfl⟩
  obtain⟨L2,y3⟩:∃x,Ck d l2 i=x:=⟨_,rfl⟩
  rw[zX] at H8 m4
  rw[YG,oC,y3] at K6 m4
  obtain⟨eb,qG⟩:∃b,(E==2)=b:=⟨_,rfl⟩
  have vl:=fun im da=>Nr D2 L2 (YE im) da
  have NO:cu d=[.int .i64 d.om,.int .i64 d.le,.int .i64 d.tw,.int .i64 d.gl,.int .i64 d.ad,.vec (d.mx.map bD),ints d.t,.vec (d.g.map cy),ints d.c]:=rfl
  have hC2:cu D2=[.int .i64 D2.om,.int .i64 D2.le,.int .i64 D2.tw,.int .i64 D2.gl,.int .i64 D2.ad,.vec (D2.mx.map bD),ints D2.t,.vec (D2.g.map cy),ints D2.c]:=rfl
  unfold aA at H8 H9 K6 vl
  unfold encS at H8
  rw[NO] at H8 H9 K6
  rw[hC2] at K6 vl
  clear m1 m2 m3 zX YG oC y3
  refine .rn [4,5,6] [] ?_
  refine .done ?_
  refine .cs ?_ ?_<;>intro q8
  ·try simp at q8
   refine .skip (.seq (.block (.sr ?_)))
   refine .seq ?_
   refine .drawn (ms:=[0,0,0,6,14,31,63,127,127,255,1023]) (W:=[5]) (items:=zl) rfl ae ae ae ?_
   iterate 5 refine .rx ?_
   refine .wp rfl rfl rfl rfl rfl call52 (H8) ?_
   iterate 5 refine .rx ?_
   refine .done (.seq (.ar js rfl ae ?_))
   refine .rn [0,1] _ ?_
   refine .pc rfl rfl rfl rfl rfl call53 (H9) ?_
   refine .rn [3,4,5,6,7] [] ?_
   refine .done (.seq (.seq (.ar kf rfl ae ?_)))
   refine .rn [0,1,2] _ ?_
   refine .split (t:=89) rfl (fun vf=>?_) (fun vf=>?_)
   ·try subst vf
    try simp at vf
   try subst vf
   try simp at vf
   refine .rn [3,4,5,6] _ ?_
   refine .split (t:=93) rfl (fun kY=>?_) (fun kY=>?_)
   ·try subst kY
    try simp at kY
   try subst kY
   try simp at kY
   refine .rn [7,8,9] _ ?_
   refine .pc rfl rfl rfl rfl rfl call45 (zT) ?_
   refine .rn [11,12] [] ?_
   refine .done ?_
   refine .cs ?_ ?_<;>intro AS
   ·try simp at AS
   try simp at AS
   refine .skip (.seq (.ar qz rfl ae (.rn [0,1,2] _ ?_)))
   refine .pc rfl rfl rfl rfl rfl call54 (K6) ?_
   refine .rn [4,5,6,7,8,9,10,11] [] ?_
   refine .done (.seq (.sr ?_))
   refine .cs ?_ ?_<;>intro tc
   ·try simp at tc
    refine .seq (.ar [0,1] rfl ae ?_)
    refine .pc rfl rfl rfl rfl rfl call20 (iX) ?_
    refine .rn [1] [] ?_
    refine .done (.ret (ax ?_))
    exact zk
   try simp at tc
   obtain⟨rfl,im,-,SJ,BW⟩:E=0∧aN D2=0∧D2.t=d.t∧bP D2 L2=some (n2 - pr)∧L2.length+1=l2.length:=by
    rcases m4 with h|h
    ·rw[h,tc] at qG;cases qG
    exact h
   have vl:=vl im (by omega)
   rw[if_pos im,if_pos im,im,SJ] at vl
   simp only[Option.getD_some,Option.isSome_some] at vl
   have nq:=SG im SJ
   have WZ:IntKind.i64.wrap (n2 - pr)=n2 - pr:=wrap64 (by omega) (by omega)
   have qV:IntKind.i64.wrap ((l2.length:Int) - 1)=(L2.length:Int):=by rw[wrap64 (by omega) (by omega)];omega
   refine .skip (.seq (.ar gh rfl ae (.rn [0,1] _ ?_)))
   refine .pc rfl rfl rfl rfl rfl call40 (vl) ?_
   refine .rn [3,4,5,6,7,8,9] [] ?_
   refine .done (.seq (.seq (.ar [0,1,2,3,4,5,6,7,8,9,10,11,12,13,14,15,16,17,18,19,20,21,22,23,24] rfl ae ?_)))
   refine .rn [0,1,2] _ ?_
   refine .split (t:=120) rfl (fun zZ=>?_) (fun zZ=>?_)
   ·try subst zZ
    try simp at zZ
   try subst zZ
   try simp at zZ
   refine .rn [3,4,5,6] _ ?_
   refine .split (t:=124) rfl (fun kg=>?_) (fun kg=>?_)
   ·try subst kg
    try simp at kg
   try subst kg
   try simp at kg
   refine .rn [7,8,9,10] _ ?_
   refine .split (t:=128) rfl (fun qH=>?_) (fun qH=>?_)
   ·try subst qH
    try simp at qH
   try subst qH
   try simp at qH
   refine .rn [11,12,13,14,15,16,17] _ ?_
   refine .split (t:=135) rfl (fun pP=>?_) (fun pP=>?_)
   ·try subst pP
    try simp at pP
   try subst pP
   try simp at pP
   refine .rn [18,19,20,21,22,23,24] [] ?_
   refine .done ?_
   refine .cs ?_ ?_<;>intro xm
   ·try simp at xm
   try simp at xm
   refine .skip (.sr ?_)
   refine .sr ?_
   refine .rn ?_
   refine .rn ?_
   refine⟨(k+1,D2,L2,n2 - pr),⟨im,SJ,by simp only;omega⟩,ba,?_⟩
   exact aX
  try simp at q8
 try subst pz
 try simp at pz
 have h0:¬(0<l2.length):=of_decide_eq_false uf
 obtain rfl:l2=[]:=List.eq_nil_of_length_eq_zero (by omega)
 obtain⟨h1,rfl⟩:=zys od
 have zT:=Sf d.c d.t Gq.hc Gq.ht
 rw[decide_eq_true h1] at zT
 clear h1
 refine .rn [4,5,6] [] ?_
 refine .done (.gI rfl (.exit (.seq ?_)))
 refine .ar kf rfl ae ?_
 refine .pc rfl rfl rfl rfl rfl call20 (iX) ?_
 refine .rn [1] _ ?_
 refine .split (t:=147) rfl (fun z6=>?_) (fun z6=>?_)
 ·try subst z6
  try simp at z6
  refine .rn [2,3,4,5] _ ?_
  refine .split (t:=151) rfl (fun z7=>?_) (fun z7=>?_)
  ·try subst z7
   try simp at z7
   refine .rn [6,7,8,9] _ ?_
   refine .pc rfl rfl rfl rfl rfl call45 (zT) ?_
   refine .rn [11,12] [] ?_
   refine .done (.ret (ax ?_))
   exact zk
  try subst z7
  try simp at z7
 try subst z6
 try simp at z6
end Go.Am.Sl
end
