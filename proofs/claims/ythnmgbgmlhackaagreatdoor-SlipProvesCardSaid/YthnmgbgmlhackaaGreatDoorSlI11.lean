/-
 What is used in the proof of a statement (part SlI11); no condition.
-/
import Derived.Test.YthnmgbgmlhackaaGreatDoorSlH
import Derived.Test.YthnmgbgmlhackaaGreatDoorSlI0
import Derived.Test.YthnmgbgmlhackaaGreatDoorSlI1
set_option linter.all false
set_option maxHeartbeats 40000000
set_option maxRecDepth 100000
section
namespace Go.Am.Sl
open Go Go.Am Go.Proofs Tryz
attribute [local simp] de fQ lz dz dN jD af.back b6 dG iO bm Nat.testBit_eq_decide_div_mod_eq ct gf jB vO kN dX kO gE cJ jR jQ kK dY kL j9 jq ly j8 kM kF kC kG kD kE kH kI jM di ig dd kP jS ka kQ kR jL ls lu dW jC dy dx dA iL dK jY jO jP gX kz a7 j7 dw bA bC ja af.get af.alloc af.put af.drop af.empty bq cg gd gR fe cp chunk List.range List.range.loop iP lA jr bI bG PV.aD PV.az PV.b8 PV.dv eu dZ kc PV.one PV.ids PV.bT fJ beq_eq lQ l9
attribute [local simp] cQ bQ cw jU oL lD jE jN jc ef dD
attribute [local simp ↓ high] mG ma
attribute [local simp] cQ bQ cw jU lD jE jN jc ef dD
def zR (T:List (List Int)):Bool:=decide (T.length≤60)&&T.all fun r=>decide (r.length≤60)
variable [bE] in
theorem X3 (l:List ak)(cost:Int)(T:List (List Int))(hT:T.length<4611686018427387904)(vg:∀r∈T,r.length<4611686018427387904):aI prog 46 [.agg [.vec (l.map encS),.int .i64 cost,.vec (T.map ints)]] fun r=>r=.bool (zR T):=by
 have hF:zR T=(decide (T.length≤60)&&T.all fun r=>decide (r.length≤60)):=rfl
 refine .bJ func46 rfl rfl ?_
 refine .sr ?_
 refine .seq (.sr ?_)
 refine .block ?_
 refine .cZ (fun i:Nat=>([(1,.ptr 0 0),(3,.int .i64 i)],⟨1,[(0,.box [.vec (l.map encS),.int .i64 cost,.vec (T.map ints)])]⟩)) (fun i=>i≤T.length∧(T.take i).all (fun r=>decide (r.length≤60))=true) (fun i=>T.length - i) 0 (by simp) aX ?_
 rintro i ⟨hi,ht⟩
 simp only at hi ht ⊢
 refine .seq (.sr ?_)
 refine .cs ?_ ?_<;>intro c8
 ·try simp at c8
  have cR:=iQ i
  have cE:i<T.length:=by omega
  obtain⟨x,hx⟩:∃x,T[i]?=some x:=⟨_,List.getElem?_eq_getElem cE⟩
  have ic:T[i]=x:=(List.getElem?_eq_some_iff.1 hx).2
  have yq:=vg x (List.mem_of_getElem? hx)
  have ep:=@Cx _ (fun r:List Int=>decide (r.length≤60)) T i cE ht
  have km:=@Cy _ (fun r:List Int=>decide (r.length≤60)) T i cE
  rw[ic] at ep km
  refine .skip (.seq (.block (.sr ?_)))
  refine .cs ?_ ?_<;>intro iB
  ·try simp at iB
   have hb:=km (by simp;omega)
   have cT:zR T=false:=by rw[hF,hb,Bool.and_false]
   refine .sr ?_
   refine .ret (ax ?_)
   rw[cT]
  try simp at iB
  have ha:=ep (by simp;omega)
  refine .skip (.rn ?_)
  exact⟨i+1,⟨ba,ha⟩,ba,aX⟩
 try simp at c8
 obtain rfl:i=T.length:=by omega
 rw[List.take_length] at ht
 rw[ht,Bool.and_true] at hF
 refine .exit (.sr ?_)
 refine .ret (ax ?_)
 rw[hF]
 refine congrArg PV.bool ?_
 rw[Bool.eq_iff_iff]
 simp only[decide_eq_true_eq]
 omega
end Go.Am.Sl
end
section
namespace Go.Am.Sl
open Go Go.Am Go.Proofs Tryz
attribute [local simp] de fQ lz dz dN jD af.back b6 dG iO bm Nat.testBit_eq_decide_div_mod_eq ct gf jB vO kN dX kO gE cJ jR jQ kK dY kL j9 jq ly j8 kM kF kC kG kD kE kH kI jM di ig dd kP jS ka kQ kR jL ls lu dW jC dy dx dA iL dK jY jO jP gX kz a7 j7 dw bA bC ja af.get af.alloc af.put af.drop af.empty bq cg gd gR fe cp chunk List.range List.range.loop iP lA jr bI bG PV.aD PV.az PV.b8 PV.dv eu dZ kc PV.one PV.ids PV.bT fJ beq_eq lQ l9
attribute [local simp] cQ bQ cw jU lD jE jN jc ef dD
attribute [local simp ↓ high] mG ma
theorem X4 (p:ay→Bool)(a b:List ay):(a++b).all p=(a.all p&&b.all p):=List.all_append
theorem X5 (l:List ay):l.filter (fun _=>true)=l:=List.filter_eq_self.2 fun _ _=>rfl
def CG (c:aj)(i j:Nat):List ay:=uW c (fun _=>true) i j
theorem z7c (c:aj)(i j:Nat):CG c i (j+1)=CG c i j++steps c i j:=by unfold CG;rw[Wb,X5]
theorem xcr (c:aj)(i:Nat):CG c i (c.c.length+1)=CG c (i+1) 0:=Wc c _ i
theorem z2s (c:aj):CG c (c.t.length+1) 0=graph c:=by unfold CG;rw[Wd,X5]
theorem z4t {c:aj}{T:List (List Int)}{i j:Nat}{x:ay}(hi:i≤c.t.length)(hj:j≤c.c.length)(hx:x∈steps c i j)(hb:iD T x=false):(graph c).all (iD T)=false:=by
 rw[List.all_eq_false]
 exact⟨x,zb hi hj hx,by simp[hb]⟩
section
variable [bE]
theorem Sh {α:Type}(l:List α)(enc:α→PV)(p:α→Bool)(f:FuncId)(xs ys:List PV)(hl:l.length<4611686018427387904)(he:∀a,(enc a).cells=[enc a])(hx:PV.az xs=true)(hy:PV.az ys=true)(hF:∀a,(enc a).aD=true)(eD:∀cs w,(callFunc f cs).run prog w=.ok (.enter f cs) w)(hp:∀a∈l,aI prog f (xs++[enc a]++ys) fun r=>r=.bool (p a)):aI prog 148 [.vec (l.map enc),.func f xs ys] fun r=>r=.int .i64 (ke p 0 l):=by
 refine .bJ func148 rfl rfl ?_
 refine .sr ?_
 refine .seq (.sr ?_)
 refine .block ?_
 refine .cZ (fun s:Nat=>([(0,.vec (l.map enc)),(1,.func f xs ys),(7,.int .i64 l.length),(8,.int .i64 s)],af.empty)) (fun s=>s≤l.length∧ke p s (l.drop s)=ke p 0 l) (fun s=>l.length - s) 0 ⟨by simp,by simp⟩ (.pure (by simp[*]) (by simp)) ?_
 rintro i ⟨hi,hr⟩
 simp only at hi hr ⊢
 refine .sr ?_
 refine .seq ?_
 refine .cs ?_ ?_<;>intro c9
 ·try simp at c9
  have cR:=iQ i
  rw[PM p l i c9] at hr
  have he:=he l[i]
  have hp:=hp l[i] (List.getElem_mem c9)
  refine .skip (.seq (.block (.sr ?_)))
  refine .seq (.ar kS rfl ae (.rn fR _ ?_))
  refine .step rfl rfl (.pure rfl rfl rfl eD (by decide) (hp) (by first|rfl|simp[*]) ?_)
  rintro _ rfl
  refine .done ?_
  refine .cs ?_ ?_<;>intro mE
  ·try simp at mE
   refine .sr ?_
   refine .ret (ax ?_)
   rw[← hr,if_pos mE]
  try simp at mE
  refine .skip (.rn ?_)
  refine⟨i+1,⟨ba,?_⟩,ba,.pure (by simp[*]) (by simp)⟩
  rw[← hr,if_neg (by simp[mE])]
 try simp at c9
 have:i=l.length:=by omega
 refine .exit (.sr ?_)
 refine .ret (ax ?_)
 rw[← hr,this,List.drop_length];rfl
theorem Si {α:Type}(l:List α)(enc:α→PV)(p:α→Bool)(f:FuncId)(xs ys:List PV)(hl:l.length<4611686018427387904)(he:∀a,(enc a).cells=[enc a])(hx:PV.az xs=true)(hy:PV.az ys=true)(hF:∀a,(enc a).aD=true)(eD:∀cs w,(callFunc f cs).run prog w=.ok (.enter f cs) w)(hp:∀a∈l,aI prog f (xs++[enc a]++ys) fun r=>r=.bool (p a)):aI prog 103 [.vec (l.map enc),.func f xs ys] fun r=>r=.bool (l.any p):=by
 refine .bJ func103 rfl rfl ?_
 refine .sr ?_
 refine .seq (.ar fR rfl ae (.rn [0,1] _ ?_))
 refine .pc rfl rfl rfl rfl rfl call148 (Sh l enc p f xs ys hl he hx hy hF eD hp) ?_
 refine .rn [3,4] [] ?_
 refine .done (.ret (ax ?_))
 rw[← PN _ l 0]
theorem Sj (n:Int):aI prog 152 [.int .i64 n] fun r=>r=.bool (!nQ n):=by
 have lC:=xL n 0 1099511627776
 obtain⟨w,hw⟩:∃b,nQ n=b:=⟨_,rfl⟩
 rw[show (decide (0≤n)&&decide (n≤1099511627776))=w from hw] at lC
 rw[hw]
 clear hw
 refine .bJ func152 rfl rfl ?_
 refine .sr ?_
 refine .seq (.ar dQ rfl ae (.rn [0] _ ?_))
 refine .pc rfl rfl rfl rfl rfl call85 (lC) ?_
 refine .rn [2,3] [] ?_
 refine .done (.ret (ax ?_))
 exact zk
theorem Sk (c:aj)(w:List Int)(fx:c.c.length≤48)(hr:w.length<4611686018427387904):aI prog 151 [ints w,.vp (cu c)] fun r=>r=.bool (!jw c.c.length w):=by
 have hC:cu c=(cQ c):=rfl
 have KQ:=Jd w (PV.int .i64) (fun n=>!nQ n) 152 [] [] hr (fun _=>rfl) rfl rfl (fun _=>rfl) call152 (fun n _=>Sj n)
 have x6:jw c.c.length w=(decide (w.length=c.c.length+1)&&w.all nQ):=rfl
 rw[← PR] at x6
 obtain⟨ab,lN⟩:∃b,(w.any fun n=>!nQ n)=b:=⟨_,rfl⟩
 rw[lN] at x6 KQ
 obtain⟨rb,KR⟩:∃b,jw c.c.length w=b:=⟨_,rfl⟩
 rw[KR] at x6 ⊢
 have lr:IntKind.i64.wrap ((c.c.length:Int)+1)=(c.c.length:Int)+1:=wrap64 (by omega) (by omega)
 obtain⟨b0,oY⟩:∃b,((w.length:Int) != (c.c.length:Int)+1)=b:=⟨_,rfl⟩
 rw[hC]
 clear lN KR
 refine .bJ func151 rfl rfl ?_
 refine .sr ?_
 refine .seq (.ar qz rfl ae (.rn js _ ?_))
 refine .split (t:=11) rfl (fun iC=>?_) (fun iC=>?_)
 ·try subst iC
  try simp at iC
  have db:¬w.length=c.c.length+1:=fun h=>by rw[h] at oY;simp at oY
  rw[decide_eq_false db] at x6
  refine .rn [8,9,10,11] [] ?_
  refine .done (.ret (ax ?_))
  rw[x6];rfl
 try subst iC
 try simp at iC
 have db:w.length=c.c.length+1:=by simp at oY;omega
 rw[decide_eq_true db] at x6
 refine .rn [8] _ ?_
 refine .pc rfl rfl rfl rfl rfl call149 (KQ) ?_
 refine .rn [10,11] [] ?_
 refine .done (.ret (ax ?_))
 rw[x6];simp
theorem Sm (c:aj)(T:List (List Int))(cost:Int)(hk:aN c=0)(hT:T.length<4611686018427387904)(vg:∀r∈T,r.length<4611686018427387904):aI prog 109 [aA c,.vec (T.map ints),.int .i64 cost] fun r=>r=.bool (il c T cost):=by
 have aP:=fC hk
 have nY:=aP.tl
 have fx:=aP.cl
 have hC:cu c=(cQ c):=rfl
 have nJ:=fun i j:Int=>Jq c i j
 have Gh:=Si T ints (fun r=>!jw c.c.length r) 151 [] [.vp (cu c)] hT (fun _=>rfl) rfl rfl (fun _=>rfl) call151 (fun r hr=>Sk c r fx (vg r hr))
 unfold aA at nJ ⊢
 unfold jT at nJ
 rw[hC] at nJ Gh ⊢
 have Sn:=PR (jw c.c.length) T
 obtain⟨wr,sX⟩:∃b,(T.any fun r=>!jw c.c.length r)=b:=⟨_,rfl⟩
 rw[sX] at Gh Sn
 have lr:IntKind.i64.wrap ((c.t.length:Int)+1)=(c.t.length:Int)+1:=wrap64 (by omega) (by omega)
 obtain⟨b0,oY⟩:∃b,((T.length:Int) != (c.t.length:Int)+1)=b:=⟨_,rfl⟩
 refine .bJ func109 rfl rfl ?_
 refine .sr ?_
 refine .sr ?_
 refine .seq (.seq ?_)
 refine .drawn (ms:=[0,1,0,4,12,28,63,127,255,255,1023,2047,4095,8191,16383,32767,65535,131071,262143,524287,1048575,2097151,2097151,6291455,14680063,33554431,67108863,2097151,136314879,404750335,1073741823,2147483647,2097151,8589934591,17179869183]) (W:=[10]) (items:=VB) rfl ae ae ae ?_
 iterate 8 refine .rx ?_
 refine .split (t:=19) rfl (fun gG=>?_) (fun gG=>?_)
 ·try subst gG
  try simp at gG
  have hX:=XP (c:=c) (T:=T) (cost:=cost) (fun h=>by rw[h] at oY;simp at oY)
  iterate 3 refine .ux ?_
  iterate 2 refine .rx ?_
  iterate 6 refine .ux ?_
  iterate 2 refine .rx ?_
  iterate 13 refine .ux ?_
  refine .rx ?_
  refine .done (.dR rfl (.sr ?_))
  refine .ret (ax ?_)
  rw[hX]
 try subst gG
 try simp at gG
 have Cv:T.length=c.t.length+1:=by simp at oY;omega
 iterate 2 refine .rx ?_
 refine .wr rfl rfl (by decide) (.borrow rfl rfl rfl call103 (by decide) (by first|(simp<;>rfl)|(simp[*]<;>rfl)|(simp[*];done)) (Gh) (by rintro _ rfl<;>first|(simp;done)|rfl) ?_)
 rintro _ rfl
 iterate 2 refine .rx ?_
 refine .split (t:=24) rfl (fun mb=>?_) (fun mb=>?_)
 ·try subst mb
  try simp at mb
  have hX:=R1 (c:=c) (T:=T) (cost:=cost) (by rw[← Sn];rfl)
  iterate 6 refine .ux ?_
  iterate 2 refine .rx ?_
  iterate 13 refine .ux ?_
  refine .rx ?_
  refine .done (.dR rfl (.sr ?_))
  refine .ret (ax ?_)
  rw[hX]
 try subst mb
 try simp at mb
 have ht:T.all (jw c.c.length)=true:=by rw[← Sn];rfl
 have Ba:=fun i j hi hj=>@XO c.c.length T ht i j hi hj
 have F5:=@XQ c T cost
 have Ec:=@XR c T cost Cv ht
 obtain⟨r1,v1,oQ,iF,uL,Cz,CA⟩:=Ba 0 0 (by omega) (by omega)
 obtain⟨r2,v2,ky,eZ,qm,CB,CC⟩:=Ba c.t.length c.c.length (by omega) (by omega)
 rw[uL,qm] at Ec
 obtain⟨F6,zx⟩:=List.getElem?_eq_some_iff.1 oQ
 obtain⟨F7,zy⟩:=List.getElem?_eq_some_iff.1 ky
 obtain⟨CD,u7⟩:=List.getElem?_eq_some_iff.1 iF
 obtain⟨CE,u9⟩:=List.getElem?_eq_some_iff.1 eZ
 have nk:(c.t.length:Int)<(c.t.length:Int)+1:=by omega
 have mW:(0:Int)<(c.t.length:Int)+1:=by omega
 obtain⟨b1,eM⟩:∃b,(v1 != 0)=b:=⟨_,rfl⟩
 obtain⟨b2,cr⟩:∃b,(v2 != cost)=b:=⟨_,rfl⟩
 have sA:∀r,r∈T→r.length=c.c.length+1:=fun r hr=>by
  have h1:=List.all_eq_true.1 ht r hr
  unfold jw at h1
  simp only[bW,decide_eq_true_eq] at h1
  exact h1.1
 iterate 8 refine .rx ?_
 refine .split (t:=32) rfl (fun ft=>?_) (fun ft=>?_)
 ·try subst ft
  try simp at ft
  have CH:¬v1=0:=fun h=>by rw[h] at eM;simp at eM
  have hX:il c T cost=false:=by
   cases hg:(graph c).all (iD T) with
   |false=>exact F5 hg
   |true=>rw[Ec hg,decide_eq_false CH];rfl
  iterate 13 refine .ux ?_
  refine .rx ?_
  refine .done (.dR rfl (.sr ?_))
  refine .ret (ax ?_)
  rw[hX]
 try subst ft
 try simp at ft
 have CH:v1=0:=by simpa using eM
 iterate 14 refine .rx ?_
 refine .done ?_
 refine .cs ?_ ?_<;>intro Bc
 ·try simp at Bc
  have CJ:¬v2=cost:=fun h=>by rw[Bc,h] at cr;simp at cr
  have hX:il c T cost=false:=by
   cases hg:(graph c).all (iD T) with
   |false=>exact F5 hg
   |true=>rw[Ec hg,decide_eq_false CJ,Bool.and_false]
  refine .sr ?_
  refine .ret (ax ?_)
  rw[hX]
 try simp at Bc
 have CJ:v2=cost:=by rw[Bc] at cr;simpa using cr
 have X6:(graph c).all (iD T)=true→il c T cost=true:=fun hg=>by rw[Ec hg,decide_eq_true CH,decide_eq_true CJ];rfl
 clear Ec CJ CH eM cr oQ ky iF eZ zx zy u7 u9 CD CE uL qm F6 F7 Cz CA CB CC oY
 refine .skip (.seq (.sr ?_))
 refine .block ?_
 refine .cZ (fun i:Nat=>([(3,.ptr 0 0),(4,.ptr 1 0),(6,.ptr 2 0),(48,.int .i64 T.length),(49,.int .i64 i)],⟨3,[(2,.box [.bool false]),(1,.box [.vec (T.map ints)]),(0,.box (cQ c))]⟩)) (fun i=>i≤T.length∧(CG c i 0).all (iD T)=true) (fun i=>T.length - i) 0 ⟨Nat.zero_le _,rfl⟩ aX ?_
 rintro i ⟨hi,hs⟩
 simp only at hi hs ⊢
 refine .sr ?_
 refine .seq ?_
 refine .cs ?_ ?_<;>intro ti
 ·try simp at ti
  have cR:IntKind.i64.wrap ((i:Int)+1)=((i+1:Nat):Int):=by rw[wrap64 (by omega) (by omega)];omega
  have cE:i<T.length:=by omega
  have oU:i≤c.t.length:=by omega
  obtain⟨r,hr⟩:∃r,T[i]?=some r:=⟨_,List.getElem?_eq_getElem cE⟩
  have R4:T[i]=r:=(List.getElem?_eq_some_iff.1 hr).2
  have Ny:=sA r (List.mem_of_getElem? hr)
  refine .skip (.seq (.block (.sr ?_)))
  refine .sr ?_
  refine .block ?_
  refine .cZ (fun j:Nat=>([(3,.ptr 0 0),(4,.ptr 1 0),(6,.ptr 2 0),(8,.ptr 3 0),(48,.int .i64 T.length),(49,.int .i64 i),(56,.int .i64 r.length),(57,.int .i64 j)],⟨4,[(3,.box [.int .i64 i]),(2,.box [.bool false]),(1,.box [.vec (T.map ints)]),(0,.box (cQ c))]⟩)) (fun j=>j≤c.c.length+1∧(CG c i j).all (iD T)=true) (fun j=>c.c.length+1 - j) 0 ⟨Nat.zero_le _,hs⟩ aX ?_
  rintro j ⟨hj,gq⟩
  simp only at hj gq ⊢
  refine .sr ?_
  refine .seq ?_
  refine .cs ?_ ?_<;>intro vJ
  ·try simp at vJ
   have sh:IntKind.i64.wrap ((j:Int)+1)=((j+1:Nat):Int):=by rw[wrap64 (by omega) (by omega)];omega
   have qg:j≤c.c.length:=by omega
   refine .skip (.seq (.block (.sr ?_)))
   refine .seq (.ar fR rfl ae (.rn dQ _ ?_))
   refine .pc rfl rfl rfl rfl rfl call79 (nJ i j) ?_
   refine .done (.block ?_)
   refine .rec (aF:=[(3,.ptr 0 0),(4,.ptr 1 0),(6,.ptr 2 0),(8,.ptr 3 0),(9,.ptr 4 0),(48,.int .i64 T.length),(49,.int .i64 i),(56,.int .i64 r.length),(57,.int .i64 j),(64,.func 138 [] [.vp [.int .i64 i,.int .i64 j],.vp (cu c)])]) (aZ:=⟨1000,[(4,.box [.int .i64 j]),(3,.box [.int .i64 i]),(2,.box [.bool false]),(1,.box [.vec (T.map ints)]),(0,.box (cQ c))]⟩) aX ?_
   refine M1 c i j _ (fun pre n L=>L=[(4,.box [.int .i64 j]),(3,.box [.int .i64 i]),(2,.box [.bool false]),(1,.box [.vec (T.map ints)]),(0,.box (cQ c))]∧pre.all (iD T)=true) (fun e n L=>e=none∧L=[(4,.box [.int .i64 j]),(3,.box [.int .i64 i]),(2,.box [.bool false]),(1,.box [.vec (T.map ints)]),(0,.box (cQ c))]∧(graph c).all (iD T)=false) hk oU qg ⟨rfl,rfl⟩ rfl (by decide) rfl (fun _ _ _ _ h _=>h) ?_ ?_ ?_ (fun _ _ _ h=>by cases h.1)
   ·skip
    rintro pre x mX n L gZ hn ⟨rfl,wz⟩
    have hx:x∈steps c i j:=by rw[gZ];simp
    have iM:=iz aP hx
    obtain⟨m,rfl⟩:∃m,n=m+1000:=⟨n - 1000,by omega⟩
    obtain⟨a0,a1,a2,a3,a4,fP⟩:=y5 x.s
    rw[y6 x fP]
    have rE:=iM.fi;have wx:=iM.fj;have V6:=iM.it;have Mt:=iM.jt;have DN:=iM.n0;have iA:=iM.n1
    obtain⟨q1,v1,O4,iF,uL,Cz,CA⟩:=Ba i j (by omega) (by omega)
    obtain⟨q2,v2,EZ,eZ,qm,CB,CC⟩:=Ba x.i' x.j' (by omega) (by omega)
    have mK:iD T x = !decide (v1+x.n<v2):=by unfold iD;rw[rE,wx,uL,qm]
    obtain⟨yaF,KT⟩:=List.getElem?_eq_some_iff.1 O4
    obtain⟨yaG,yaH⟩:=List.getElem?_eq_some_iff.1 EZ
    obtain⟨CD,u7⟩:=List.getElem?_eq_some_iff.1 iF
    obtain⟨CE,u9⟩:=List.getElem?_eq_some_iff.1 eZ
    have R6:IntKind.i64.wrap (v1+x.n)=v1+x.n:=wrap64 (by omega) (by omega)
    have R5:(x.i':Int)<(c.t.length:Int)+1:=by omega
    have hxi:(i:Int)<(c.t.length:Int)+1:=by omega
    have Ee:=z4t (T:=T) oU qg hx
    rw[mK] at Ee
    have KU:decide (v1+x.n<v2)=false→(pre++[x]).all (iD T)=true:=fun h=>by rw[X4,wz,List.all_cons,mK,h];rfl
    clear hr R4 hs gq Ba F5 X6 fP rE wx uL qm iM mK wz
    unfold FF
    refine .rn ?_
    refine .block (.seq ?_)
    refine .drawn (ms:=[0,0,2,6,15,31,0,64,192,511,1023,0,0,6144,14336,0,63488,129024,0,262144,1046528,2097151]) (W:=[]) (items:=[.op 0,.op 1,.op 2,.op 3,.op 4,.op 5,.op 6,.op 7,.op 8,.op 9,.op 10,.op 11,.op 12,.op 13,.op 14,.op 15,.op 16,.op 17,.op 18,.op 19,.op 20,.op 21]) rfl ae ae ae ?_
    iterate 22 refine .rx ?_
    refine .done ?_
    refine .cs ?_ ?_<;>intro X7
    ·try simp at X7
     have ik:=Ee (by rw[decide_eq_true (by omega)];rfl)
     refine .sr ?_
     refine .ret ?_
     refine⟨some none,[(4,.box [.int .i64 j]),(3,.box [.int .i64 i]),(2,.box [.bool false]),(1,.box [.vec (T.map ints)]),(0,.box (cQ c))],rfl,bU,mY,And.intro rfl (And.intro rfl ik)⟩
    try simp at X7
    have ep:=KU (by rw[decide_eq_false (by omega)])
    refine .skip ?_
    refine⟨none,[(4,.box [.int .i64 j]),(3,.box [.int .i64 i]),(2,.box [.bool false]),(1,.box [.vec (T.map ints)]),(0,.box (cQ c))],rfl,bU,mY,And.intro rfl ep⟩
   ·skip
    rintro n L hn ⟨rfl,ep⟩
    refine .rn ?_
    refine⟨j+1,⟨ba,?_⟩,ba,aX⟩
    rw[z7c,X4,gq,ep];rfl
   skip
   rintro n L ⟨_,rfl,ik⟩
   have hX:=F5 ik
   refine⟨_,_,jF,jF,?_⟩
   rw[hX]
  try simp at vJ
  obtain rfl:j=c.c.length+1:=by omega
  rw[xcr] at gq
  refine .exit (.rn ?_)
  refine⟨i+1,⟨ba,gq⟩,ba,aX⟩
 try simp at ti
 obtain rfl:i=T.length:=by omega
 rw[Cv,z2s] at hs
 have hX:=X6 hs
 refine .exit (.sr ?_)
 refine .ret (ax ?_)
 rw[hX]
theorem Sp (c:aj)(l:List ak)(cost:Int)(T:List (List Int))(hB:BC c)(da:l.length≤200)(hT:T.length<4611686018427387904)(vg:∀r∈T,r.length<4611686018427387904):aI prog 51 [aA c,.agg [.vec (l.map encS),.int .i64 cost,.vec (T.map ints)]] fun r=>r=.int .i64 (um c l cost T):=by
 have dI:=wG c hB
 have kj:=fun hk=>FU c l hk da
 have zS:=fun hk=>Sm c T cost hk hT vg
 have hC:cu c=(cQ c):=rfl
 have hR:um c l cost T=if aN c≠0 then aN c else if ((bP c l).getD (-1)=cost∧0≤cost)∧il c T cost=true then 0 else 8:=rfl
 obtain⟨e,he⟩:∃e,aN c=e:=⟨_,rfl⟩
 have bR:=he
 rw[he] at dI kj zS hR
 obtain⟨E,hE⟩:∃o,bP c l=o:=⟨_,rfl⟩
 rw[hE] at kj hR
 obtain⟨pb,R8⟩:∃b,il c T cost=b:=⟨_,rfl⟩
 rw[R8] at zS hR
 have sQ:e=0→∀n,E=some n→0≤n:=fun h n hn=>z5c (fC (bR.trans h)) (hE.trans hn)
 obtain⟨xb,lU⟩:∃b,E.isSome=b:=⟨_,rfl⟩
 obtain⟨xn,Cm⟩:∃n,E.getD 0=n:=⟨_,rfl⟩
 rw[lU,Cm] at kj
 unfold aA at dI kj zS ⊢
 rw[hC] at dI kj zS ⊢
 obtain⟨g2,nH⟩:∃b,(xn != cost)=b:=⟨_,rfl⟩
 refine .bJ func51 rfl rfl ?_
 refine .sr ?_
 refine .seq (.seq (.ar [0,1,2] rfl ae (.rn [0] _ ?_)))
 refine .pc rfl rfl rfl rfl rfl call55 (dI) ?_
 refine .rn [2] [] ?_
 refine .done (.sr ?_)
 refine .cs ?_ ?_<;>intro iC
 ·try simp at iC
  rw[if_pos iC] at hR
  refine .sr ?_
  refine .ret (ax ?_)
  rw[hR]
 try simp at iC
 obtain rfl:e=0:=by simpa using iC
 rw[if_neg (by simp)] at hR
 have sQ:=sQ rfl
 refine .skip (.seq (.ar oT rfl ae (.rn [0,1,2] _ ?_)))
 refine .pc rfl rfl rfl rfl rfl call100 (kj rfl) ?_
 refine .rn [4,5,6,7,8] [] ?_
 refine .done (.seq (.seq (.ar KJ rfl ae ?_)))
 refine .rn [0,1,2] _ ?_
 refine .split (t:=22) rfl (fun fL=>?_) (fun fL=>?_)
 ·try subst fL
  try simp at fL
  have hN:E=none:=by
   obtain rfl:xb=false:=by first|exact fL|simpa using fL
   cases E with
   |none=>rfl
   |some v=>cases lU
  subst hN
  rw[if_neg (by simp;omega)] at hR
  refine .rn [3,4,5,6,7,8,9,10,11,12,13,14,15,16] [] ?_
  refine .done (.dR rfl (.sr ?_))
  refine .ret (ax ?_)
  rw[hR]
 try subst fL
 try simp at fL
 obtain⟨v,rfl⟩:∃v,E=some v:=by
  obtain rfl:xb=true:=by first|exact fL|simpa using fL
  cases E with
  |none=>cases lU
  |some v=>exact⟨v,rfl⟩
 have NP:=sQ v rfl
 obtain rfl:v=xn:=Cm
 simp only[Option.getD_some] at hR
 refine .rn [3,4,5,6,7,8] _ ?_
 refine .split (t:=28) rfl (fun iI=>?_) (fun iI=>?_)
 ·try subst iI
  try simp at iI
  have db:¬v=cost:=fun h=>by rw[h] at nH;simp at nH
  rw[if_neg (by simp[db])] at hR
  refine .rn [9,10,11,12,13,14,15,16] [] ?_
  refine .done (.dR rfl (.sr ?_))
  refine .ret (ax ?_)
  rw[hR]
 try subst iI
 try simp at iI
 obtain rfl:v=cost:=by simpa using nH
 refine .rn [9,10,11,12,13] _ ?_
 refine .pc rfl rfl rfl rfl rfl call109 (zS rfl) ?_
 refine .rn [15,16] [] ?_
 refine .done ?_
 refine .cs ?_ ?_<;>intro gJ
 ·try simp at gJ
  obtain rfl:pb=false:=by first|exact gJ|simpa using gJ
  rw[if_neg (by simp)] at hR
  refine .sr ?_
  refine .ret (ax ?_)
  rw[hR]
 try simp at gJ
 obtain rfl:pb=true:=by first|exact gJ|simpa using gJ
 rw[if_pos ⟨⟨rfl,NP⟩,rfl⟩] at hR
 refine .skip (.sr ?_)
 refine .ret (ax ?_)
 rw[hR]
end
end Go.Am.Sl
end
section
namespace Go.Am.Sl
theorem X8 {c:aj}{T:List (List Int)}{cost:Int}:il c T cost=true↔T.length=c.t.length+1∧(∀r∈T,jw c.c.length r=true)∧(∀x∈graph c,sC T x.i' x.j'≤sC T x.i x.j+x.n)∧sC T 0 0=0∧sC T c.t.length c.c.length=cost:=by
 unfold il iD
 simp only[bW,decide_eq_true_eq,List.all_eq_true,Bool.not_eq_true',decide_eq_false_iff_not,Int.not_lt,and_assoc]
theorem z8g (c:aj)(i j:Nat)(hj:j≤c.c.length):(kl c i).getD j 0=aS c i j:=by
 unfold kl
 rw[List.getD_eq_getElem?_getD,List.getElem?_map,List.getElem?_range (by omega)];rfl
theorem NQ (c:aj)(k i j:Nat)(hi:i<k)(hj:j≤c.c.length):sC ((List.range k).map (kl c)) i j=aS c i j:=by
 unfold sC
 rw[List.getD_eq_getElem?_getD (l:=(List.range k).map (kl c)),List.getElem?_map,List.getElem?_range hi]
 exact z8g c i j hj
theorem z7q {c:aj}(hk:aN c=0):il c ((List.range (c.t.length+1)).map (kl c)) (eR c)=true:=by
 have hr:=fC hk
 refine X8.2 ⟨by simp,fun r ru=>?_,fun x hx=>?_,?_,?_⟩
 ·obtain⟨i,hi,rfl⟩:=List.mem_map.1 ru
  unfold jw kl nQ
  simp only[List.length_map,List.length_range,decide_true,Bool.true_and,List.all_eq_true,List.mem_map,List.mem_range]
  rintro v ⟨j,hj,rfl⟩
  have:=JH hr (fun _=>true) i j
  unfold aS
  simp[this.1,this.2]
 ·have ho:=iz hr (rQ hr hx).1
  have:=(rQ hr hx).2
  have h2:=ho.it
  rw[NQ c (c.t.length+1) x.i x.j (by omega) (by omega),NQ c (c.t.length+1) x.i' x.j' (by omega) ho.jt]
  exact Ni hr hx
 ·rw[NQ c (c.t.length+1) 0 0 (by omega) (by omega)];exact Nj hr
 rw[NQ c (c.t.length+1) c.t.length c.c.length (by omega) (by omega)];rfl
theorem X9 {c:aj}(hk:aN c=0):um c (lH c) (eR c) ((List.range (c.t.length+1)).map (kl c))=0:=by
 have hr:=fC hk
 unfold um
 have h0:=(Cg hr (Nat.le_refl _) (Nat.le_refl c.c.length)).2.1
 rw[if_neg (by simp[hk]),J8 hr,if_pos ⟨⟨rfl,h0⟩,z7q hk⟩]
open Go Go.Am Go.Proofs
attribute [local simp] de fQ lz dz dN jD af.back b6 dG iO bm Nat.testBit_eq_decide_div_mod_eq ct gf jB vO kN dX kO gE cJ jR jQ kK dY kL j9 jq ly j8 kM kF kC kG kD kE kH kI jM di ig dd kP jS ka kQ kR jL ls lu dW jC dy dx dA iL dK jY jO jP gX kz a7 j7 dw bA bC ja af.get af.alloc af.put af.drop af.empty bq cg gd gR fe cp chunk List.range List.range.loop iP lA jr bI bG PV.aD PV.az PV.b8 PV.dv eu dZ kc PV.one PV.ids PV.bT fJ beq_eq lQ l9
attribute [local simp] cQ bQ cw jU lD jE jN jc ef dD
attribute [local simp ↓ high] mG ma
theorem Ya (c:aj):(qK c).length=c.t.length+1:=by unfold qK;rw[List.length_map,List.length_range]
theorem Yb (c:aj):∀r∈qK c,r.length=c.c.length+1:=by
 intro r hr
 unfold qK at hr
 obtain⟨i,_,rfl⟩:=List.mem_map.1 hr
 unfold kl
 rw[List.length_map,List.length_range]
end Go.Am.Sl
end
