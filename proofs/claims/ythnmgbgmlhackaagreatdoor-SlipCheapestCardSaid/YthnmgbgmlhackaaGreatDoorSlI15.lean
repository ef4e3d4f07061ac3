/-
 What is used in the proof of a statement (part SlI15); no condition.
-/
import Derived.Test.YthnmgbgmlhackaaGreatDoorSlH
import Derived.Test.YthnmgbgmlhackaaGreatDoorSlI0
import Derived.Test.YthnmgbgmlhackaaGreatDoorSlI1
import Derived.Test.YthnmgbgmlhackaaGreatDoorSlI3
import Derived.Test.YthnmgbgmlhackaaGreatDoorSlI4
import Derived.Test.YthnmgbgmlhackaaGreatDoorSlI5
import Derived.Test.YthnmgbgmlhackaaGreatDoorSlI10
import Derived.Test.YthnmgbgmlhackaaGreatDoorSlI11
set_option linter.all false
set_option maxHeartbeats 40000000
set_option maxRecDepth 100000
section
namespace Go.Am.Sl
theorem xa8 {c:aj}{T:List (List Int)}(h:∀x∈graph c,sC T x.i' x.j'≤sC T x.i x.j+x.n){i j a b:Nat}{n:Int}{w:List ay}(hw:Way (graph c) i j a b n w):sC T a b≤sC T i j+n:=by
 induction hw with
 |nil i j=>omega
 |cons x hx hw ih=>have:=h x hx;omega
theorem z8h {c:aj}(hr:Rt c){T:List (List Int)}{cost:Int}(h:il c T cost=true):cost≤eR c:=by
 obtain⟨_,_,h3,h4,h5⟩:=X8.1 h
 have:=xa8 h3 (zc hr)
 omega
theorem xc6 {c:aj}(hk:aN c=0){l:List ak}{cost:Int}{T:List (List Int)}(h:um c l cost T=0):cost=eR c:=by
 have hr:=fC hk
 unfold um at h
 rw[if_neg (by simp[hk])] at h
 split at h
 ·rename_i h1
  obtain⟨⟨h1,h2⟩,h3⟩:=h1
  have h4:=z8h hr h3
  cases he:bP c l with
  |none=>rw[he] at h1;simp at h1;omega
  |some v=>
   rw[he] at h1
   have:=QO hr he
   simp at h1
   omega
 cases h
theorem Yj {c:aj}(hr:Rt c):∀(l:List ak) (out:List Int) (i:Nat) (sum:Int) {o:List Int} {m:Int},oc c l out i sum=some (o,m)→sum+l.length≤m
 |[],out,i,sum,o,m,h=>by
  unfold oc at h;injection h with h;injection h with h1 h2;simp;omega
 |s::r,out,i,sum,o,m,h=>by
  unfold oc at h
  split at h
  ·split at h
   ·rename_i n i' w hd
    split at h
    ·have h1:=Yj hr r _ _ _ h
     have h2:=(nI hr hd)
     rw[List.length_cons]
     have h3:1≤n:=by omega
     omega
    cases h
   cases h
  cases h
theorem Yk (c:aj):bP c []=if c.t=c.c then some 0 else none:=by
 unfold bP fu oc
 simp
theorem z7u {c:aj}(hr:Rt c):eR c=0↔c.t=c.c:=by
 constructor
 ·intro h
  have h1:=J8 hr
  obtain⟨h2,h3⟩:=Kg h1
  have h4:=Yj hr _ _ _ _ h3
  have h5:(lH c).length=0:=by omega
  rw[List.length_eq_zero_iff.1 h5,Yk] at h1
  split at h1
  ·assumption
  cases h1
 intro h
 have h1:=Yk c
 rw[if_pos h] at h1
 have h2:=QO hr h1
 have h3:=(Cg hr (Nat.le_refl _) (Nat.le_refl c.c.length)).2.1
 unfold eR at *
 omega
open Go Go.Am Go.Proofs Tryz
attribute [local simp] de fQ lz dz dN jD af.back b6 dG iO bm Nat.testBit_eq_decide_div_mod_eq ct gf jB vO kN dX kO gE cJ jR jQ kK dY kL j9 jq ly j8 kM kF kC kG kD kE kH kI jM di ig dd kP jS ka kQ kR jL ls lu dW jC dy dx dA iL dK jY jO jP gX kz a7 j7 dw bA bC ja af.get af.alloc af.put af.drop af.empty bq cg gd gR fe cp chunk List.range List.range.loop iP lA jr bI bG PV.aD PV.az PV.b8 PV.dv eu dZ kc PV.one PV.ids PV.bT fJ beq_eq lQ l9
attribute [local simp] cQ bQ cw jU lD jE jN jc ef dD
attribute [local simp ↓ high] mG ma
variable [bE] in
theorem p12 (hN:Names)(c:aj)(la:List ak)(na:Int)(Ta:List (List Int))(l:List ak)(hB:BC c)(St:la.length<4611686018427387904)(hT:Ta.length<4611686018427387904)(vg:∀r∈Ta,r.length<4611686018427387904)(hl:l.length<4611686018427387904):aI prog 12 [aA c,.agg [.vec (la.map encS),.int .i64 na,.vec (Ta.map ints)],.vec (l.map encS)] fun r=>r=.bool true:=by
 have iX:=Gg hN
 have qL:=NU c
 have KW:=KX l
 have KY:=KX la
 have HZ:=X3 la na Ta hT vg
 have gp:=HT c hB
 have uo:=M8 c hB
 have mZ:=fun da=>Nr c l hB da
 have vj:=fun da=>Sp c la na Ta hB da hT vg
 have zT:=Sf c.t c.c hB.ht hB.hc
 have hC:cu c=(cQ c):=rfl
 obtain⟨e,he⟩:∃e,aN c=e:=⟨_,rfl⟩
 have bR:=he
 rw[he] at gp uo mZ
 rw[KP,show (if e=0 then (qK c).map ints else [])=(if e=0 then qK c else []).map ints by split<;>rfl] at gp
 have gp:=aI.soft gp (by simp[PV.aD,PV.az])
 obtain⟨A,hA⟩:∃A,(if e=0 then lH c else [])=A:=⟨_,rfl⟩
 obtain⟨L,hL⟩:∃A,(if e=0 then eR c else 0)=A:=⟨_,rfl⟩
 obtain⟨TB,uq⟩:∃A,(if e=0 then qK c else [])=A:=⟨_,rfl⟩
 rw[hA,hL,uq] at gp
 rw[show (if e=0 then aS c c.t.length c.c.length else 0)=L from hL] at uo
 have xh:=fun h1 h2 h3=>Sp c A L TB hB h1 h2 h3
 obtain⟨ca,Gi⟩:∃x,um c A L TB=x:=⟨_,rfl⟩
 obtain⟨cb,H3⟩:∃x,um c la na Ta=x:=⟨_,rfl⟩
 rw[Gi] at xh
 rw[H3] at vj
 have KZ:e=0→ca=0:=fun h=>by rw[← Gi,← hA,← hL,← uq,if_pos h,if_pos h,if_pos h];exact X9 (bR.trans h)
 have Eh:e=0→cb=0→na=L:=fun h h2=>by rw[← hL,if_pos h];exact xc6 (bR.trans h) (H3.trans h2)
 have Kv:e=0→A.length≤96:=fun h=>by rw[← hA,if_pos h];exact NV (fC (bR.trans h))
 have Cv:e=0→TB.length<4611686018427387904∧∀r∈TB,r.length<4611686018427387904:=fun h=>by
  rw[← uq,if_pos h,Ya]
  have h1:=(fC (bR.trans h)).tl
  have h2:=(fC (bR.trans h)).cl
  exact⟨by omega,fun r hr=>by rw[Yb c r hr];omega⟩
 have rG:e=0→∀n,bP c l=some n→L≤n:=fun h n hn=>by rw[← hL,if_pos h];exact QO (fC (bR.trans h)) hn
 have hzero:e=0→(L=0↔c.t=c.c):=fun h=>by rw[← hL,if_pos h];exact z7u (fC (bR.trans h))
 obtain⟨sb,mK⟩:∃b,pR c=b:=⟨_,rfl⟩
 obtain⟨lb,A7⟩:∃b,zR Ta=b:=⟨_,rfl⟩
 obtain⟨s1,mT⟩:∃b,decide (l.length≤120)=b:=⟨_,rfl⟩
 obtain⟨s2,gq⟩:∃b,decide (la.length≤120)=b:=⟨_,rfl⟩
 rw[mK] at qL
 rw[A7] at HZ
 rw[mT] at KW
 rw[gq] at KY
 obtain⟨X,hX⟩:∃x,bP c l=x:=⟨_,rfl⟩
 rw[hX] at mZ rG
 obtain⟨xn,Cm⟩:∃x,(if e=0 then X.getD 0 else 0)=x:=⟨_,rfl⟩
 obtain⟨xb,lU⟩:∃x,(if e=0 then X.isSome else false)=x:=⟨_,rfl⟩
 rw[Cm,lU] at mZ
 obtain⟨ts,ph⟩:∃b,decide (c.t=c.c)=b:=⟨_,rfl⟩
 rw[ph] at zT
 obtain⟨l0,nf⟩:∃b,(L==0)=b:=⟨_,rfl⟩
 obtain⟨ce,iY⟩:∃b,(cb==0)=b:=⟨_,rfl⟩
 obtain⟨cn,Yl⟩:∃b,(na != L)=b:=⟨_,rfl⟩
 obtain⟨cl,fx⟩:∃b,decide (xn<L)=b:=⟨_,rfl⟩
 have a8:e=0→l0=ts:=fun h=>by
  rw[← nf,← ph,Bool.eq_iff_iff]
  simp only[beq_iff_eq,decide_eq_true_eq]
  exact hzero h
 have ik:e=0→xb=true→cl=true→False:=fun h h1 h2=>by
  rw[if_pos h] at Cm lU
  rw[h1] at lU
  rw[h2,decide_eq_true_eq] at fx
  cases X with
  |none=>cases lU
  |some v=>
   have:=rG h v rfl
   simp only[Option.getD_some] at Cm
   omega
 have vS:e=0→ce=true→cn=true→False:=fun h h1 h2=>by
  rw[h1,beq_iff_eq] at iY
  rw[h2,Eh h iY] at Yl
  simp at Yl
 unfold aA at qL gp uo mZ xh vj ⊢
 rw[hC] at qL gp uo mZ xh vj ⊢
 clear hA uq hL mK A7 hC hX Gi H3 ph Cm lU hzero Eh rG
 refine .bJ func12 rfl rfl ?_
 refine .sr ?_
 refine .seq (.seq (.ar [0,1,2,3,4,5,6,7,8,9,10,11,12,13,14,15,16,17,18] rfl ae (.rn [0] _ ?_)))
 refine .pc rfl rfl rfl rfl rfl call19 (qL) ?_
 refine .rn [2,3] _ ?_
 refine .split (t:=17) rfl (fun iB=>?_) (fun iB=>?_)
 ·try subst iB
  try simp at iB
  refine .rn [4,5,6,7,8,9,10,11,12,13,14,15,16,17,18] [] ?_
  refine .done (.dR rfl (.seq ?_))
  refine .ar [0,1] rfl ae ?_
  refine .pc rfl rfl rfl rfl rfl call20 (iX) ?_
  refine .rn [1] [] ?_
  refine .done (.ret (ax ?_))
  exact zk
 try subst iB
 try simp at iB
 refine .rn [4] _ ?_
 refine .pc rfl rfl rfl rfl rfl call38 (KW) ?_
 refine .rn [6,7,8] _ ?_
 refine .split (t:=22) rfl (fun fL=>?_) (fun fL=>?_)
 ·try subst fL
  try simp at fL
  refine .rn [9,10,11,12,13,14,15,16,17,18] [] ?_
  refine .done (.dR rfl (.seq ?_))
  refine .ar [0,1] rfl ae ?_
  refine .pc rfl rfl rfl rfl rfl call20 (iX) ?_
  refine .rn [1] [] ?_
  refine .done (.ret (ax ?_))
  exact zk
 try subst fL
 try simp at fL
 refine .rn [9,10] _ ?_
 refine .pc rfl rfl rfl rfl rfl call38 (KY) ?_
 refine .rn [12,13,14] _ ?_
 refine .split (t:=28) rfl (fun iI=>?_) (fun iI=>?_)
 ·try subst iI
  try simp at iI
  refine .rn [15,16,17,18] [] ?_
  refine .done (.dR rfl (.seq ?_))
  refine .ar [0,1] rfl ae ?_
  refine .pc rfl rfl rfl rfl rfl call20 (iX) ?_
  refine .rn [1] [] ?_
  refine .done (.ret (ax ?_))
  exact zk
 try subst iI
 try simp at iI
 refine .rn [15] _ ?_
 refine .pc rfl rfl rfl rfl rfl call46 (HZ) ?_
 refine .rn [17,18] [] ?_
 refine .done ?_
 refine .cs ?_ ?_<;>intro ft
 ·try simp at ft
  refine .seq (.ar [0,1] rfl ae ?_)
  refine .pc rfl rfl rfl rfl rfl call20 (iX) ?_
  refine .rn [1] [] ?_
  refine .done (.ret (ax ?_))
  exact zk
 try simp at ft
 have da:l.length≤200:=by first|(rw[fL] at mT;have:=of_decide_eq_true mT;omega)|(have:=of_decide_eq_true mT;omega)
 have Su:la.length≤200:=by first|(rw[iI] at gq;have:=of_decide_eq_true gq;omega)|(have:=of_decide_eq_true gq;omega)
 have mZ:=mZ da
 have vj:=vj Su
 refine .skip (.seq (.ar js rfl ae (.rn [0] _ ?_)))
 refine .pc rfl rfl rfl rfl rfl call21 (gp) ?_
 refine .rn [2,3,4,5,6,7] [] ?_
 refine .done (.seq (.sr ?_))
 refine .cs ?_ ?_<;>intro jW
 ·try simp at jW
  refine .seq (.ar [0,1] rfl ae ?_)
  refine .pc rfl rfl rfl rfl rfl call20 (iX) ?_
  refine .rn [1] [] ?_
  refine .done (.ret (ax ?_))
  exact zk
 try simp at jW
 subst jW
 obtain rfl:=KZ rfl
 have xh:=xh (by have:=Kv rfl;omega) (Cv rfl).1 (Cv rfl).2
 obtain rfl:=a8 rfl
 have ik:=ik rfl
 have vS:=vS rfl
 refine .skip (.seq (.ar gT rfl ae (.rn [0] _ ?_)))
 refine .pc rfl rfl rfl rfl rfl call43 (uo) ?_
 refine .rn [2,3,4,5,6] [] ?_
 refine .done (.seq (.ar gh rfl ae ?_))
 refine .rn [0,1] _ ?_
 refine .pc rfl rfl rfl rfl rfl call40 (mZ) ?_
 refine .rn [3,4,5,6,7,8,9] [] ?_
 refine .done (.seq (.seq (.ar KO rfl ae ?_)))
 refine .rn [0,1,2] _ ?_
 refine .split (t:=56) rfl (fun zj=>?_) (fun zj=>?_)
 ·try subst zj
  try simp at zj
 try subst zj
 try simp at zj
 refine .rn [3,4,5,6] _ ?_
 refine .split (t:=60) rfl (fun gu=>?_) (fun gu=>?_)
 ·try subst gu
  try simp at gu
 try subst gu
 try simp at gu
 refine .rn [7,8,9,10,11,12] _ ?_
 refine .split (t:=66) rfl (fun tz=>?_) (fun tz=>?_)
 ·try subst tz
  try simp at tz
 try subst tz
 try simp at tz
 refine .rn [13,14] _ ?_
 refine .pc rfl rfl rfl rfl rfl call51 (xh) ?_
 refine .rn [16,17,18] _ ?_
 refine .split (t:=72) rfl (fun zU=>?_) (fun zU=>?_)
 ·try subst zU
  try simp at zU
 try subst zU
 try simp at zU
 refine .rn [19,20] _ ?_
 refine .split (t:=74) rfl (fun mF=>?_) (fun mF=>?_)
 ·try subst mF
  try simp at mF
  refine .rn [21,22,23,24,25,26] _ ?_
  refine .split (t:=80) rfl (fun qy=>?_) (fun qy=>?_)
  ·try subst qy
   try simp at qy
   exact(ik rfl rfl).elim
  try subst qy
  try simp at qy
  refine .rn [27,28] _ ?_
  refine .pc rfl rfl rfl rfl rfl call51 (vj) ?_
  refine .rn [30,31] _ ?_
  refine .split (t:=85) rfl (fun uk=>?_) (fun uk=>?_)
  ·try subst uk
   try simp at uk
   refine .rn [32,33,34,35,36,37] [] ?_
   refine .done ?_
   refine .cs ?_ ?_<;>intro Bb
   ·try simp at Bb
    exact(vS rfl Bb).elim
   try simp at Bb
   refine .skip (.seq (.ar qz rfl ae ?_))
   refine .pc rfl rfl rfl rfl rfl call20 (iX) ?_
   refine .rn [1] _ ?_
   refine .split (t:=93) rfl (fun kY=>?_) (fun kY=>?_)
   ·try subst kY
    try simp at kY
    refine .rn [2,3,4,5,6,7] _ ?_
    refine .pc rfl rfl rfl rfl rfl call45 (zT) ?_
    refine .rn [9,10,11] [] ?_
    refine .done (.ret (ax ?_))
    exact zk
   try subst kY
   try simp at kY
  try subst uk
  try simp at uk
  refine .rn [32,33,34,35,36,37] [] ?_
  refine .done (.gI rfl (.skip (.seq ?_)))
  refine .ar qz rfl ae ?_
  refine .pc rfl rfl rfl rfl rfl call20 (iX) ?_
  refine .rn [1] _ ?_
  refine .split (t:=93) rfl (fun kY=>?_) (fun kY=>?_)
  ·try subst kY
   try simp at kY
   refine .rn [2,3,4,5,6,7] _ ?_
   refine .pc rfl rfl rfl rfl rfl call45 (zT) ?_
   refine .rn [9,10,11] [] ?_
   refine .done (.ret (ax ?_))
   exact zk
  try subst kY
  try simp at kY
 try subst mF
 try simp at mF
 refine .rn [21,22,23,24,25,26,27,28] _ ?_
 refine .pc rfl rfl rfl rfl rfl call51 (vj) ?_
 refine .rn [30,31] _ ?_
 refine .split (t:=85) rfl (fun uk=>?_) (fun uk=>?_)
 ·try subst uk
  try simp at uk
  refine .rn [32,33,34,35,36,37] [] ?_
  refine .done ?_
  refine .cs ?_ ?_<;>intro Bb
  ·try simp at Bb
   exact(vS rfl Bb).elim
  try simp at Bb
  refine .skip (.seq (.ar qz rfl ae ?_))
  refine .pc rfl rfl rfl rfl rfl call20 (iX) ?_
  refine .rn [1] _ ?_
  refine .split (t:=93) rfl (fun kY=>?_) (fun kY=>?_)
  ·try subst kY
   try simp at kY
   refine .rn [2,3,4,5,6,7] _ ?_
   refine .pc rfl rfl rfl rfl rfl call45 (zT) ?_
   refine .rn [9,10,11] [] ?_
   refine .done (.ret (ax ?_))
   exact zk
  try subst kY
  try simp at kY
 try subst uk
 try simp at uk
 refine .rn [32,33,34,35,36,37] [] ?_
 refine .done (.gI rfl (.skip (.seq ?_)))
 refine .ar qz rfl ae ?_
 refine .pc rfl rfl rfl rfl rfl call20 (iX) ?_
 refine .rn [1] _ ?_
 refine .split (t:=93) rfl (fun kY=>?_) (fun kY=>?_)
 ·try subst kY
  try simp at kY
  refine .rn [2,3,4,5,6,7] _ ?_
  refine .pc rfl rfl rfl rfl rfl call45 (zT) ?_
  refine .rn [9,10,11] [] ?_
  refine .done (.ret (ax ?_))
  exact zk
 try subst kY
 try simp at kY
end Go.Am.Sl
end
