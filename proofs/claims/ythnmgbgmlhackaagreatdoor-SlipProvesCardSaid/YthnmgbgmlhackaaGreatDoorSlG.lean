/-
 What is used in the proof of a statement (part SlG); no condition.
-/
import Derived.Test.YthnmgbgmlhackaaGreatDoorSlZ
import Derived.Test.YthnmgbgmlhackaaGreatDoorVm2
import Derived.Test.YthnmgbgmlhackaaGreatDoorSlT
import Derived.Test.YthnmgbgmlhackaaGreatDoorSlF
set_option linter.all false
set_option maxHeartbeats 40000000
set_option maxRecDepth 100000
section
namespace Go.Am.Sl
open Go Go.Am Go.Proofs Tryz
attribute [local simp] de fQ lz dz dN jD af.back b6 dG iO bm Nat.testBit_eq_decide_div_mod_eq ct gf jB vO kN dX kO gE cJ jR jQ kK dY kL j9 jq ly j8 kM kF kC kG kD kE kH kI jM di ig dd kP jS ka kQ kR jL ls lu dW jC dy dx dA iL dK jY jO jP gX kz a7 j7 dw bA bC ja af.get af.alloc af.put af.drop af.empty bq cg gd gR fe cp chunk List.range List.range.loop iP lA jr bI bG PV.aD PV.az PV.b8 PV.dv eu dZ kc PV.one PV.ids PV.bT fJ beq_eq lQ l9
attribute [local simp] cQ bQ cw jU lD jE jN jc ef dD
attribute [local simp ↓ high] mG ma
theorem Rq {c:aj}{j:Nat}{w:List Int}:hasB c j w=true↔j≤c.c.length∧∀m,m<w.length→j+m<c.c.length∧c.c[j+m]?=w[m]?:=by
 unfold hasB
 rw[bW,decide_eq_true_eq,decide_eq_true_eq]
 constructor
 ·rintro⟨h1,h2⟩
  refine⟨by omega,fun m hm=>⟨by omega,?_⟩⟩
  rw[← h2,List.getElem?_take_of_lt hm,List.getElem?_drop]
 rintro⟨h1,h2⟩
 have h3:j+w.length≤c.c.length:=by
  rcases Nat.eq_zero_or_pos w.length with h|h
  ·omega
  have:=(h2 (w.length - 1) (by omega)).1;omega
 refine⟨h3,List.ext_getElem? fun m=>?_⟩
 by_cases hm:m<w.length
 ·rw[List.getElem?_take_of_lt hm,List.getElem?_drop,(h2 m hm).2]
 rw[List.getElem?_eq_none (by rw[List.length_take];omega),List.getElem?_eq_none (by omega)]
theorem z1v {l:List mD}{i:Nat}(h:i<l.length)(f t:Int):fK (l.drop i) f t=if l[i].f=f∧l[i].t=t then some l[i].c else fK (l.drop (i+1)) f t:=by
 rw[List.drop_eq_getElem_cons h];rfl
section
variable [bE]
theorem wZ (n lo hi:Int):aI prog 99 [.int .i64 n,.int .i64 lo,.int .i64 hi] fun r=>r=.bool (decide (lo≤n)&&decide (n≤hi)):=by
 obtain⟨b,hb⟩:∃b,decide (lo≤n)=b:=⟨_,rfl⟩
 obtain⟨d,hd⟩:∃d,decide (n≤hi)=d:=⟨_,rfl⟩
 rw[hb,hd]
 refine .bJ func99 rfl rfl ?_
 refine .sr ?_
 refine .seq (.ar oT rfl ae (.rn dQ _ ?_))
 refine .split (t:=10) rfl (fun fp=>?_) (fun fp=>?_)
 ·try subst fp
  try simp at fp
  refine .rn [4,5,6,7,8] [] ?_
  refine .done (.ret (ax ?_))
  exact zk
 try subst fp
 try simp at fp
 refine .rn [4,5,6,7,8] [] ?_
 refine .done (.ret (ax ?_))
 exact zk
theorem Cp (n:Int):aI prog 161 [.int .i64 n] fun r=>r=.bool (fB n):=by
 refine .bJ func161 rfl rfl ?_
 refine .sr ?_
 refine .seq (.ar [0,1,2] rfl ae (.rn [0] _ ?_))
 refine .pc rfl rfl rfl rfl rfl call99 (wZ _ _ _) ?_
 refine .rn [2] [] ?_
 refine .done (.ret (ax ?_))
 rfl
theorem Rr (c:aj)(f t:Int)(hl:c.mx.length≤4294967295):aI prog 160 [.agg [.int .i64 c.om,.int .i64 c.le,.int .i64 c.tw,.int .i64 c.gl,.int .i64 c.ad,.vec (c.mx.map bD)],.int .i64 f,.int .i64 t] fun r=>r=.int .i64 ((fK c.mx f t).getD 0):=by
 refine .bJ func160 rfl rfl ?_
 refine .sr ?_
 refine .seq (.sr ?_)
 refine .block ?_
 refine .cZ (fun i:Nat=>([(1,.int .i64 f),(2,.int .i64 t),(3,.ptr 0 0),(7,.int .i64 i)],⟨1,[(0,.box [.int .i64 c.om,.int .i64 c.le,.int .i64 c.tw,.int .i64 c.gl,.int .i64 c.ad,.vec (c.mx.map bD)])]⟩)) (fun i=>i≤c.mx.length∧fK c.mx f t=fK (c.mx.drop i) f t) (fun i=>c.mx.length - i) 0 ⟨by simp,by simp⟩ aX ?_
 rintro i ⟨hi,hx⟩
 simp only at hi hx ⊢
 refine .seq (.sr ?_)
 refine .cs ?_ ?_<;>intro xV
 ·try simp at xV
  have cR:=iQ i
  have cE:i<c.mx.length:=by omega
  obtain⟨x,hxg⟩:∃x,c.mx[i]?=some x:=⟨_,List.getElem?_eq_getElem cE⟩
  have ic:c.mx[i]=x:=(List.getElem?_eq_some_iff.1 hxg).2
  rw[z1v cE,ic] at hx
  have hE:bD x=.agg [.int .i64 x.f,.int .i64 x.t,.int .i64 x.c]:=rfl
  obtain⟨e0,bR⟩:∃b,(x.f==f)=b:=⟨_,rfl⟩
  obtain⟨e1,jV⟩:∃b,(x.t==t)=b:=⟨_,rfl⟩
  refine .skip (.seq (.block (.seq (.ar qB rfl ae (.rn oT _ ?_)))))
  refine .split (t:=23) rfl (fun hP=>?_) (fun hP=>?_)
  ·try subst hP
   try simp at hP
   refine .rn [9,10,11,12,13,14,15,16,17] [] ?_
   refine .done ?_
   refine .cs ?_ ?_<;>intro ft
   ·try simp at ft
    subst ft
    have HU:x.f=f∧x.t=t:=⟨by simpa using bR,by simpa using jV⟩
    rw[if_pos HU] at hx
    refine .sr ?_
    refine .ret (ax ?_)
    rw[hx];rfl
   try simp at ft
   refine .skip (.rn ?_)
   rw[if_neg (fun hh=>by rw[ft] at jV;simp[hh.2] at jV)] at hx
   exact⟨i+1,⟨ba,hx⟩,ba,aX⟩
  try subst hP
  try simp at hP
  refine .rn [9,10,11,12,13,14,15,16,17] [] ?_
  refine .done (.gI rfl (.skip (.rn ?_)))
  rw[if_neg (fun hh=>by simp[hh.1] at bR)] at hx
  exact⟨i+1,⟨ba,hx⟩,ba,aX⟩
 try simp at xV
 obtain rfl:i=c.mx.length:=by omega
 rw[List.drop_length] at hx
 refine .exit (.sr ?_)
 refine .ret (ax ?_)
 rw[hx];rfl
theorem Rs (c:aj)(j:Nat)(w:List Int)(hj:j≤100)(hl:w.length≤100)(hc:c.c.length≤100):aI prog 159 [aA c,.int .i64 j,eW w] fun r=>r=.bool (hasB c j w):=by
 have hC:cu c=(cQ c):=rfl
 unfold aA
 rw[hC]
 refine .bJ func159 rfl rfl ?_
 rcases Nn w with⟨rfl,hw⟩|hw
 ·
  rw[hw]
  refine .sr ?_
  refine .seq (.sr ?_)
  refine .block ?_
  refine .cZ (fun k:Nat=>([(1,.int .i64 j),(2,.aJ),(3,.ptr 0 0),(7,.int .i64 k)],⟨1,[(0,.box (cQ c))]⟩)) (fun k=>k=0) (fun k=>0) 0 rfl aX ?_
  rintro k hk
  simp only at hk ⊢
  refine .seq (.sr ?_)
  refine .cs ?_ ?_<;>intro iC
  ·try simp at iC
  try simp at iC
  refine .exit (.sr ?_)
  refine .ret (ax ?_)
  subst hk;simp[hasB]
 ·
  rw[hw]
  refine .sr ?_
  refine .seq (.sr ?_)
  refine .block ?_
  refine .cZ (fun k:Nat=>([(1,.int .i64 j),(2,ints w),(3,.ptr 0 0),(7,.int .i64 k)],⟨1,[(0,.box (cQ c))]⟩)) (fun k=>k≤w.length∧∀m,m<k→j+m<c.c.length∧c.c[j+m]?=w[m]?) (fun k=>w.length - k) 0 ⟨by simp,fun m h=>absurd h (Nat.not_lt_zero m)⟩ aX ?_
  rintro k hk
  simp only at hk ⊢
  refine .seq (.sr ?_)
  refine .cs ?_ ?_<;>intro iC
  ·try simp at iC
   obtain⟨hk,hm⟩:=hk
   have cR:=iQ k
   have sh:IntKind.i64.wrap ((j:Int)+(k:Int))=(j:Int)+(k:Int):=wrap64 (by omega) (by omega)
   have ee:k<w.length:=by omega
   obtain⟨e0,bR⟩:∃b,decide ((c.c.length:Int)≤(j:Int)+(k:Int))=b:=⟨_,rfl⟩
   obtain⟨wv,Nz⟩:∃v,w[k]?=some v:=⟨_,List.getElem?_eq_getElem ee⟩
   have hwe:w[k]=wv:=(List.getElem?_eq_some_iff.1 Nz).2
   refine .skip (.seq (.block (.seq ?_)))
   refine .drawn (ms:=[0,0,3,0,8,24,63,127,255,511,255,255,3327,8191,16383,255,255,98559,229631,524287,1048575]) (W:=[]) (items:=[.op 0,.op 1,.op 2,.op 3,.op 4,.op 5,.op 6,.op 7,.op 8,.op 9,.op 10,.op 11,.op 12,.op 13,.op 14,.op 15,.op 16,.op 17,.op 18,.op 19,.op 20]) rfl ae ae ae ?_
   iterate 8 refine .rx ?_
   refine .split (t:=21) rfl (fun e8=>?_) (fun e8=>?_)
   ·try subst e8
    try simp at e8
    have hb:¬j+k<c.c.length:=by simp at bR;omega
    have hF:hasB c j w=false:=by
     rw[Bool.eq_false_iff];intro hh
     exact hb ((Rq.1 hh).2 k ee).1
    iterate 12 refine .ux ?_
    refine .rx ?_
    refine .done (.dR rfl (.sr ?_))
    refine .ret (ax ?_)
    simp[hF]
   try subst e8
   try simp at e8
   have hb:j+k<c.c.length:=by simp at bR;omega
   have hq:0≤(j:Int)+(k:Int)∧(j:Int)+(k:Int)<(c.c.length:Int):=by omega
   have hqn:((j:Int)+(k:Int)).toNat=j+k:=by omega
   obtain⟨cv,jn⟩:∃v,c.c[j+k]?=some v:=⟨_,List.getElem?_eq_getElem hb⟩
   have iY:c.c[j+k]=cv:=(List.getElem?_eq_some_iff.1 jn).2
   iterate 13 refine .rx ?_
   refine .done ?_
   refine .cs ?_ ?_<;>intro oa
   ·try simp at oa
    have hF:hasB c j w=false:=by
     rw[Bool.eq_false_iff];intro hh
     have:=((Rq.1 hh).2 k ee).2
     rw[jn,Nz] at this
     injection this with this
     exact oa this
    refine .sr ?_
    refine .ret (ax ?_)
    simp[hF]
   try simp at oa
   have heq:cv=wv:=oa
   refine .skip (.rn ?_)
   refine⟨k+1,⟨ba,fun m gW=>?_⟩,ba,aX⟩
   rcases Nat.lt_or_ge m k with h|h
   ·exact hm m h
   obtain rfl:m=k:=by omega
   exact⟨hb,by rw[jn,Nz,heq]⟩
  try simp at iC
  obtain⟨hk,hm⟩:=hk
  obtain rfl:k=w.length:=by omega
  have hF:hasB c j w=decide (j≤c.c.length):=by
   rw[Bool.eq_iff_iff,Rq,decide_eq_true_eq]
   exact⟨fun hh=>hh.1,fun hh=>⟨hh,hm⟩⟩
  refine .exit (.sr ?_)
  refine .ret (ax ?_)
  simp[hF]
end
def mh (s:ak)(w:List Int):Int:=if w=[] then s.i else IntKind.i64.wrap (s.i+w.length)
theorem Xo {s:ak}{w:List Int}(h:w≠[]):mh s w=IntKind.i64.wrap (s.i+w.length):=if_neg h
def Kz (c:aj)(s:ak):PV:=match aM c s with
 |some (n,i',w)=>.agg [.int .i64 i',.int .i64 (mh s w),.int .i64 n,eW w,.bool true]
 |none=>.agg [.int .i64 0,.int .i64 0,.int .i64 0,.aJ,.bool false]
theorem lK {c:aj}{s:ak}{n:Int}{i':Nat}{w:List Int}(h:aM c s=some (n,i',w)):Kz c s=.agg [.int .i64 i',.int .i64 (mh s w),.int .i64 n,eW w,.bool true]:=by unfold Kz;rw[h]
theorem nz {c:aj}{s:ak}(h:aM c s=none):Kz c s=.agg [.int .i64 0,.int .i64 0,.int .i64 0,.aJ,.bool false]:=by unfold Kz;rw[h]
theorem xj6 {c:aj}{a i:Nat}{l w:Int}(h:a≤c.t.length):aM c ⟨1,a,i,l,w⟩=if a<c.t.length∧l=0 then (fK c.mx (c.t.getD a 0) w).map fun n=>(n,a+1,[w]) else none:=by
 unfold aM;rw[if_pos (by simp only;omega)];simp
theorem xkq {c:aj}{a i:Nat}{l w:Int}(h:a≤c.t.length):aM c ⟨2,a,i,l,w⟩=if a<c.t.length∧l=0∧w=0 then some (c.om,a+1,[]) else none:=by
 unfold aM;rw[if_pos (by simp only;omega)];simp
theorem xj8 {c:aj}{a i:Nat}{l w:Int}(h:a≤c.t.length):aM c ⟨3,a,i,l,w⟩=if 1≤a∧1≤l∧l≤(c.t.length:Int) - a∧w=0∧c.t.getD (a+l.toNat - 1) 0=c.t.getD (a - 1) 0 then some (c.le,a+l.toNat,[]) else none:=by
 unfold aM;rw[if_pos (by simp only;omega)];simp
theorem xlc {c:aj}{a i:Nat}{l w:Int}(h:a≤c.t.length):aM c ⟨4,a,i,l,w⟩=if 1≤l∧l≤(a:Int)∧w=0 then some (c.tw,a,(c.t.drop (a - l.toNat)).take l.toNat) else none:=by
 unfold aM;rw[if_pos (by simp only;omega)];simp
theorem xln {c:aj}{a i:Nat}{l w:Int}(h:a≤c.t.length):aM c ⟨5,a,i,l,w⟩=if 0≤l∧l≤(c.g.length:Int) - 1∧w=0∧(c.g.getD l.toNat ⟨0,[]⟩).at_=a then some (c.gl,a,(c.g.getD l.toNat ⟨0,[]⟩).ws) else none:=by
 unfold aM;rw[if_pos (by simp only;omega)];simp
theorem xme {c:aj}{a i:Nat}{l w:Int}(h:a≤c.t.length):aM c ⟨6,a,i,l,w⟩=if fB w=true∧l=0 then some (c.ad,a,[w]) else none:=by
 unfold aM;rw[if_pos (by simp only;omega)];simp
theorem xlu {c:aj}{s:ak}(h1:s.k≠1)(h2:s.k≠2)(h3:s.k≠3)(h4:s.k≠4)(h5:s.k≠5)(h6:s.k≠6):aM c s=none:=by
 unfold aM;split
 ·simp[h1,h2,h3,h4,h5,h6]
 rfl
variable [bE] in
theorem FY (c:aj)(s:ak)(hk:aN c=0):aI prog 126 [aA c,encS s] fun r=>r=Kz c s:=by
 have aP:=fC hk
 have nY:=aP.tl
 have P1:=aP.MP
 have tX:=aP.yV
 have hC:cu c=(cQ c):=rfl
 obtain⟨sk,sa,si,sl,sw⟩:=s
 have hE:encS ⟨sk,sa,si,sl,sw⟩=.agg [.int .i64 sk,.int .i64 sa,.int .i64 si,.int .i64 sl,.int .i64 sw]:=rfl
 have Cq:=fun f t=>Rr c f t (by omega)
 unfold aA
 rw[hE,hC]
 refine .bJ func126 rfl rfl ?_
 by_cases dC:0≤sa∧sa≤(c.t.length:Int)∧0≤si
 ·
  obtain⟨a,rfl⟩:∃a:Nat,sa=a:=⟨sa.toNat,by omega⟩
  obtain⟨i,rfl⟩:∃i:Nat,si=i:=⟨si.toNat,by omega⟩
  have ep:a≤c.t.length:=by omega
  have sy:=wZ (a:Int) 0 (c.t.length:Int)
  have lr:IntKind.i64.wrap ((a:Int)+1)=((a+1:Nat):Int):=by rw[wrap64 (by omega) (by omega)];omega
  have D1:=fun l w=>@xj6 c a i l w ep
  have D2:=fun l w=>@xkq c a i l w ep
  have D3:=fun l w=>@xj8 c a i l w ep
  have D4:=fun l w=>@xlc c a i l w ep
  have D5:=fun l w=>@xln c a i l w ep
  have D6:=fun l w=>@xme c a i l w ep
  obtain⟨en,NA⟩:∃b,((a:Int)==(c.t.length:Int))=b:=⟨_,rfl⟩
  obtain⟨el,oI⟩:∃b,(sl != 0)=b:=⟨_,rfl⟩
  obtain⟨ew,NB⟩:∃b,(sw != 0)=b:=⟨_,rfl⟩
  obtain⟨ez,NC⟩:∃b,((a:Int)==0)=b:=⟨_,rfl⟩
  have cz:el=true→¬sl=0:=fun h hh=>by rw[h] at oI;simp[hh] at oI
  have ND:ew=true→¬sw=0:=fun h hh=>by rw[h] at NB;simp[hh] at NB
  have Xp:en=true→¬a<c.t.length:=fun h hh=>by rw[h] at NA;simp at NA;omega
  have haz:ez=true→¬1≤a:=fun h hh=>by rw[h] at NC;simp at NC;omega
  have wC:el=false→sl=0:=fun h=>by rw[h] at oI;simpa using oI
  have Cr:ew=false→sw=0:=fun h=>by rw[h] at NB;simpa using NB
  have KB:en=false→a<c.t.length:=fun h=>by rw[h] at NA;simp at NA;omega
  have Ru:ez=false→1≤a:=fun h=>by rw[h] at NC;simp at NC;omega
  refine .sr ?_
  refine .sr ?_
  refine .sr ?_
  refine .sr ?_
  refine .sr ?_
  refine .seq (.ar dQ rfl ae (.rn [0,1] _ ?_))
  refine .pc rfl rfl rfl rfl rfl call99 (sy) ?_
  refine .rn [3] [] ?_
  refine .done (.seq (.seq (.ar kS rfl ae ?_)))
  refine .rn [0,1,2] _ ?_
  refine .split (t:=28) rfl (fun iI=>?_) (fun iI=>?_)
  ·try subst iI
   try simp at iI
  try subst iI
  try simp at iI
  refine .rn [3,4,5] [] ?_
  refine .done ?_
  refine .cs ?_ ?_<;>intro wW
  ·try simp at wW
   exfalso;omega
  try simp at wW
  refine .skip (.seq (.sr ?_))
  refine .block (.sr ?_)
  refine .cs ?_ ?_<;>intro Co
  ·try simp at Co
   subst Co
   have hD:=D1 sl sw
   refine .seq (.seq (.ar js rfl ae (.rn dQ _ ?_)))
   refine .split (t:=40) rfl (fun jW=>?_) (fun jW=>?_)
   ·try subst jW
    try simp at jW
    rw[if_neg (fun hh=>Xp rfl hh.1)] at hD
    refine .rn [4,5,6,7] [] ?_
    refine .done (.dR rfl (.sr ?_))
    refine .ret (ax ?_)
    first|(rw[fM];done)|(rw[fM];first|rfl|(simp;done))|(rw[nz hD];done)|(rw[lK hD];first|rfl|(simp[ints,eW,mh];done))
   try subst jW
   try simp at jW
   have pg:=KB rfl
   obtain⟨tv,rL⟩:∃v,c.t[a]?=some v:=⟨_,List.getElem?_eq_getElem pg⟩
   have mw:c.t[a]=tv:=(List.getElem?_eq_some_iff.1 rL).2
   have KC:c.t.getD a 0=tv:=by rw[List.getD_eq_getElem?_getD,rL];rfl
   rw[KC] at hD
   have Cq:=Cq tv sw
   obtain⟨mv,Ea⟩:∃m,(fK c.mx tv sw).getD 0=m:=⟨_,rfl⟩
   rw[Ea] at Cq
   refine .rn [4,5,6,7] [] ?_
   refine .done ?_
   refine .cs ?_ ?_<;>intro qC
   ·try simp at qC
    rw[if_neg (fun hh=>cz qC hh.2)] at hD
    refine .sr ?_
    refine .ret (ax ?_)
    first|(rw[fM];done)|(rw[fM];first|rfl|(simp;done))|(rw[nz hD];done)|(rw[lK hD];first|rfl|(simp[ints,eW,mh];done))
   try simp at qC
   rw[if_pos ⟨pg,wC qC⟩] at hD
   refine .skip (.seq ?_)
   refine .drawn (ms:=[0,1,0,4,0,28,60,0,128,511,1023]) (W:=[9]) (items:=zl) rfl ae ae ae ?_
   iterate 9 refine .rx ?_
   refine .wp rfl rfl rfl rfl rfl call160 (Cq) ?_
   refine .rx ?_
   refine .done (.seq (.sr ?_))
   refine .cs ?_ ?_<;>intro Rv
   ·try simp at Rv
    have nR:fK c.mx tv sw=none:=by
     cases hm:fK c.mx tv sw with
     |none=>rfl
     |some n=>
      obtain⟨x,hx,_,_,FZ⟩:=NF hm
      have:=(aP.Xq x hx).1
      rw[hm] at Ea
      simp at Ea
      omega
    rw[nR] at hD
    refine .sr ?_
    refine .ret (ax ?_)
    first|(rw[fM];done)|(rw[fM];first|rfl|(simp;done))|(rw[nz hD];done)|(rw[lK hD];first|rfl|(simp[ints,eW,mh];done))
   try simp at Rv
   obtain⟨n,nR⟩:∃n,fK c.mx tv sw=some n:=by
    cases hm:fK c.mx tv sw with
    |none=>rw[hm] at Ea;exact absurd Ea.symm Rv
    |some n=>exact⟨n,rfl⟩
   rw[nR] at hD Ea
   simp only[Option.getD_some] at Ea
   subst Ea
   refine .skip (.sr ?_)
   refine .ret (ax ?_)
   first|(rw[fM];done)|(rw[fM];first|rfl|(simp;done))|(rw[nz hD];done)|(rw[lK hD];first|rfl|(simp[ints,eW,mh];done))
  try simp at Co
  refine .sr ?_
  refine .cs ?_ ?_<;>intro wK
  ·try simp at wK
   subst wK
   have hD:=D2 sl sw
   refine .seq (.seq (.ar kf rfl ae (.rn dQ _ ?_)))
   refine .split (t:=74) rfl (fun mF=>?_) (fun mF=>?_)
   ·try subst mF
    try simp at mF
    rw[if_neg (fun hh=>Xp rfl hh.1)] at hD
    refine .rn [4,5,6,7,8,9,10,11,12] [] ?_
    refine .done (.dR rfl (.sr ?_))
    refine .ret (ax ?_)
    first|(rw[fM];done)|(rw[fM];first|rfl|(simp;done))|(rw[nz hD];done)|(rw[lK hD];first|rfl|(simp[ints,eW,mh];done))
   try subst mF
   try simp at mF
   refine .rn [4,5,6,7,8] _ ?_
   refine .split (t:=79) rfl (fun qh=>?_) (fun qh=>?_)
   ·try subst qh
    try simp at qh
    rw[if_neg (fun hh=>cz rfl hh.2.1)] at hD
    refine .rn [9,10,11,12] [] ?_
    refine .done (.dR rfl (.sr ?_))
    refine .ret (ax ?_)
    first|(rw[fM];done)|(rw[fM];first|rfl|(simp;done))|(rw[nz hD];done)|(rw[lK hD];first|rfl|(simp[ints,eW,mh];done))
   try subst qh
   try simp at qh
   refine .rn [9,10,11,12] [] ?_
   refine .done ?_
   refine .cs ?_ ?_<;>intro NG
   ·try simp at NG
    rw[if_neg (fun hh=>ND NG hh.2.2)] at hD
    refine .sr ?_
    refine .ret (ax ?_)
    first|(rw[fM];done)|(rw[fM];first|rfl|(simp;done))|(rw[nz hD];done)|(rw[lK hD];first|rfl|(simp[ints,eW,mh];done))
   try simp at NG
   rw[if_pos ⟨KB rfl,wC rfl,Cr NG⟩] at hD
   refine .skip (.sr ?_)
   refine .ret (ax ?_)
   first|(rw[fM];done)|(rw[fM];first|rfl|(simp;done))|(rw[nz hD];done)|(rw[lK hD];first|rfl|(simp[ints,eW,mh];done))
  try simp at wK
  refine .sr ?_
  refine .cs ?_ ?_<;>intro kY
  ·try simp at kY
   subst kY
   have hD:=D3 sl sw
   have oS:IntKind.i64.wrap ((c.t.length:Int) - (a:Int))=(c.t.length:Int) - (a:Int):=wrap64 (by omega) (by omega)
   have tt:=wZ sl 1 ((c.t.length:Int) - (a:Int))
   obtain⟨wi,gy⟩:∃b,(decide (1≤sl)&&decide (sl≤(c.t.length:Int) - (a:Int)))=b:=⟨_,rfl⟩
   rw[gy] at tt
   refine .seq (.seq (.ar gT rfl ae (.rn [0,1,2] _ ?_)))
   refine .split (t:=97) rfl (fun pC=>?_) (fun pC=>?_)
   ·try subst pC
    try simp at pC
    rw[if_neg (fun hh=>haz rfl hh.1)] at hD
    refine .rn [3,4,5,6] [] ?_
    refine .done (.dR rfl (.sr ?_))
    refine .ret (ax ?_)
    first|(rw[fM];done)|(rw[fM];first|rfl|(simp;done))|(rw[nz hD];done)|(rw[lK hD];first|rfl|(simp[ints,eW,mh];done))
   try subst pC
   try simp at pC
   refine .rn [3,4,5,6] [] ?_
   refine .done ?_
   refine .cs ?_ ?_<;>intro u6
   ·try simp at u6
    rw[if_neg (fun hh=>ND u6 hh.2.2.2.1)] at hD
    refine .sr ?_
    refine .ret (ax ?_)
    first|(rw[fM];done)|(rw[fM];first|rfl|(simp;done))|(rw[nz hD];done)|(rw[lK hD];first|rfl|(simp[ints,eW,mh];done))
   try simp at u6
   have ha1:=Ru rfl
   refine .skip (.seq (.ar gT rfl ae (.rn fR _ ?_)))
   refine .step rfl rfl (.pure rfl rfl rfl call99 (by decide) (tt) (by first|rfl|simp[*]) ?_)
   rintro _ rfl;obtain⟨nw,Dw⟩:∃b,(!wi)=b:=⟨_,rfl⟩
   refine .rn [6] [] ?_
   refine .done (.seq (.seq ?_))
   refine .drawn (ms:=[0,1,3,7,15,7,7,71,231,487,1023,2047,7,4103,7,16391,61447,126983,262143,524287]) (W:=[]) (items:=Hu) rfl ae ae ae ?_
   iterate 3 refine .rx ?_
   refine .split (t:=111) rfl (fun zm=>?_) (fun zm=>?_)
   ·try subst zm
    try simp at zm
    have pK:wi=false:=by simpa using Dw
    rw[if_neg (fun hh=>by rw[pK] at gy;simp[hh.2.1,hh.2.2.1] at gy)] at hD
    iterate 16 refine .ux ?_
    refine .rx ?_
    refine .done (.dR rfl (.sr ?_))
    refine .ret (ax ?_)
    first|(rw[fM];done)|(rw[fM];first|rfl|(simp;done))|(rw[nz hD];done)|(rw[lK hD];first|rfl|(simp[ints,eW,mh];done))
   try subst zm
   try simp at zm
   have pK:wi=true:=by simpa using Dw
   have yE:1≤sl∧sl≤(c.t.length:Int) - (a:Int):=by rw[pK] at gy;simpa using gy
   obtain⟨l,rfl⟩:∃l:Nat,sl=l:=⟨sl.toNat,by omega⟩
   have Jm:IntKind.i64.wrap ((a:Int)+(l:Int))=(a:Int)+(l:Int):=wrap64 (by omega) (by omega)
   obtain⟨p,hp⟩:∃p:Nat,a+l - 1=p:=⟨_,rfl⟩
   obtain⟨q,hq⟩:∃q:Nat,a - 1=q:=⟨_,rfl⟩
   have sA:IntKind.i64.wrap ((a:Int)+(l:Int) - 1)=(p:Int):=by rw[wrap64 (by omega) (by omega)];omega
   have By:IntKind.i64.wrap ((a:Int) - 1)=(q:Int):=by rw[wrap64 (by omega) (by omega)];omega
   have ji:p<c.t.length:=by omega
   have hql:q<c.t.length:=by omega
   obtain⟨v1,iF⟩:∃v,c.t[p]?=some v:=⟨_,List.getElem?_eq_getElem ji⟩
   obtain⟨v2,eZ⟩:∃v,c.t[q]?=some v:=⟨_,List.getElem?_eq_getElem hql⟩
   have u7:c.t[p]=v1:=(List.getElem?_eq_some_iff.1 iF).2
   have u9:c.t[q]=v2:=(List.getElem?_eq_some_iff.1 eZ).2
   have e1:c.t.getD p 0=v1:=by rw[List.getD_eq_getElem?_getD,iF];rfl
   have e2:c.t.getD q 0=v2:=by rw[List.getD_eq_getElem?_getD,eZ];rfl
   rw[Int.toNat_natCast,hp,hq,e1,e2] at hD
   iterate 17 refine .rx ?_
   refine .done ?_
   refine .cs ?_ ?_<;>intro qH
   ·try simp at qH
    rw[if_neg (fun hh=>qH hh.2.2.2.2)] at hD
    refine .sr ?_
    refine .ret (ax ?_)
    first|(rw[fM];done)|(rw[fM];first|rfl|(simp;done))|(rw[nz hD];done)|(rw[lK hD];first|rfl|(simp[ints,eW,mh];done))
   try simp at qH
   rw[if_pos ⟨ha1,yE.1,yE.2,Cr u6,qH⟩] at hD
   refine .skip (.sr ?_)
   refine .ret (ax ?_)
   first|(rw[fM];done)|(rw[fM];first|rfl|(simp;done))|(rw[nz hD];done)|(rw[lK hD];first|rfl|(simp[ints,eW,mh];done))
  try simp at kY
  refine .sr ?_
  refine .cs ?_ ?_<;>intro qI
  ·try simp at qI
   subst qI
   have hD:=D4 sl sw
   have tt:=wZ sl 1 (a:Int)
   obtain⟨wi,gy⟩:∃b,(decide (1≤sl)&&decide (sl≤(a:Int)))=b:=⟨_,rfl⟩
   rw[gy] at tt
   refine .seq (.ar fR rfl ae (.rn [0,1,2] _ ?_))
   refine .pc rfl rfl rfl rfl rfl call99 (tt) ?_
   refine .rn [4] [] ?_
   refine .done (.seq (.seq (.ar gT rfl ae ?_)))
   refine .rn [0,1,2] _ ?_
   refine .split (t:=148) rfl (fun va=>?_) (fun va=>?_)
   ·try subst va
    try simp at va
    have pK:wi=false:=by simpa using va
    rw[if_neg (fun hh=>by rw[pK] at gy;simp[hh.1,hh.2.1] at gy)] at hD
    refine .rn [3,4,5,6] [] ?_
    refine .done (.dR rfl (.sr ?_))
    refine .ret (ax ?_)
    first|(rw[fM];done)|(rw[fM];first|rfl|(simp;done))|(rw[nz hD];done)|(rw[lK hD];first|rfl|(simp[ints,eW,mh];done))
   try subst va
   try simp at va
   have pK:wi=true:=by simpa using va
   have yE:1≤sl∧sl≤(a:Int):=by rw[pK] at gy;simpa using gy
   obtain⟨l,rfl⟩:∃l:Nat,sl=l:=⟨sl.toNat,by omega⟩
   obtain⟨p,hp⟩:∃p:Nat,a - l=p:=⟨_,rfl⟩
   have Jm:IntKind.i64.wrap ((a:Int) - (l:Int))=(p:Int):=by rw[wrap64 (by omega) (by omega)];omega
   have hpa:a - p=l:=by omega
   have ji:p≤a:=by omega
   rw[Int.toNat_natCast,hp] at hD
   obtain⟨W,hW⟩:∃W,(c.t.drop p).take l=W:=⟨_,rfl⟩
   have Ht:W.length=l:=by rw[← hW,List.length_take,List.length_drop];omega
   have MD:List.take l (List.drop p (c.t.map (PV.int .i64)))=W.map (PV.int .i64):=by rw[← hW,List.map_take,List.map_drop]
   have uN:W≠[]:=fun h=>by rw[h] at Ht;simp at Ht;omega
   have Rw:eW W=ints W:=Ji uN
   have Rx:mh ⟨4,a,i,l,sw⟩ W=IntKind.i64.wrap ((i:Int)+(l:Int)):=by rw[Xo uN,Ht]
   rw[hW] at hD
   clear hW
   refine .rn [3,4,5,6] [] ?_
   refine .done ?_
   refine .cs ?_ ?_<;>intro rV
   ·try simp at rV
    rw[if_neg (fun hh=>ND rV hh.2.2)] at hD
    refine .sr ?_
    refine .ret (ax ?_)
    first|(rw[fM];done)|(rw[fM];first|rfl|(simp;done))|(rw[nz hD];done)|(rw[lK hD];first|rfl|(simp[ints,eW,mh];done))
   try simp at rV
   rw[if_pos ⟨yE.1,yE.2,Cr rV⟩] at hD
   have fM:=lK hD
   rw[Rw,Rx] at fM
   refine .skip (.seq ?_)
   refine .drawn (ms:=[0,0,0,4,14,31,0,64,192,0,512,0,0,4096,14336,0,65024,131071,262143]) (W:=[18]) (items:=[.op 0,.op 1,.op 2,.op 3,.op 4,.op 5,.op 6,.op 7,.op 8,.op 9,.op 10,.op 11,.op 12,.op 13,.op 14,.op 15,.op 16,.op 17,.op 18]) rfl ae ae ae ?_
   iterate 18 refine .rx ?_
   refine .wv ?_
   refine .done (.ret (ax ?_))
   first|(rw[fM];done)|(rw[fM];first|rfl|(simp;done))|(rw[nz hD];done)|(rw[lK hD];first|rfl|(simp[ints,eW,mh];done))
  try simp at qI
  refine .sr ?_
  refine .cs ?_ ?_<;>intro Cs
  ·try simp at Cs
   subst Cs
   have hD:=D5 sl sw
   have oS:IntKind.i64.wrap ((c.g.length:Int) - 1)=(c.g.length:Int) - 1:=wrap64 (by omega) (by omega)
   have tt:=wZ sl 0 ((c.g.length:Int) - 1)
   obtain⟨wi,gy⟩:∃b,(decide (0≤sl)&&decide (sl≤(c.g.length:Int) - 1))=b:=⟨_,rfl⟩
   rw[gy] at tt
   refine .seq (.ar js rfl ae (.rn kS _ ?_))
   refine .pc rfl rfl rfl rfl rfl call99 (tt) ?_
   refine .rn [7] [] ?_
   refine .done (.seq (.seq (.ar qB rfl ae ?_)))
   refine .rn [0,1,2] _ ?_
   refine .split (t:=183) rfl (fun vc=>?_) (fun vc=>?_)
   ·try subst vc
    try simp at vc
    have pK:wi=false:=by simpa using vc
    rw[if_neg (fun hh=>by rw[pK] at gy;simp[hh.1,hh.2.1] at gy)] at hD
    refine .rn [3,4,5,6,7,8,9,10,11,12,13,14,15,16,17] [] ?_
    refine .done (.dR rfl (.sr ?_))
    refine .ret (ax ?_)
    first|(rw[fM];done)|(rw[fM];first|rfl|(simp;done))|(rw[nz hD];done)|(rw[lK hD];first|rfl|(simp[ints,eW,mh];done))
   try subst vc
   try simp at vc
   have pK:wi=true:=by simpa using vc
   have yE:0≤sl∧sl≤(c.g.length:Int) - 1:=by rw[pK] at gy;simpa using gy
   obtain⟨l,rfl⟩:∃l:Nat,sl=l:=⟨sl.toNat,by omega⟩
   have da:l<c.g.length:=by omega
   obtain⟨y,hy⟩:∃y,c.g[l]?=some y:=⟨_,List.getElem?_eq_getElem da⟩
   have zn:c.g[l]=y:=(List.getElem?_eq_some_iff.1 hy).2
   have hyd:c.g.getD l ⟨0,[]⟩=y:=by rw[List.getD_eq_getElem?_getD,hy];rfl
   have Xr:=aP.MU y (List.mem_of_getElem? hy)
   have hG:cy y=.agg [.int .i64 y.at_,ints y.ws]:=rfl
   rw[Int.toNat_natCast,hyd] at hD
   have hyl:=Xr.2.2.1
   have Xs:=Xr.2.1
   have uN:y.ws≠[]:=fun h=>by rw[h] at Xs;simp at Xs
   have Rw:eW y.ws=ints y.ws:=Ji uN
   have Rx:mh ⟨5,a,i,l,sw⟩ y.ws=IntKind.i64.wrap ((i:Int)+(y.ws.length:Int)):=Xo uN
   refine .rn [3,4,5,6,7] _ ?_
   refine .split (t:=188) rfl (fun zo=>?_) (fun zo=>?_)
   ·try subst zo
    try simp at zo
    rw[if_neg (fun hh=>ND rfl hh.2.2.1)] at hD
    refine .rn [8,9,10,11,12,13,14,15,16,17] [] ?_
    refine .done (.dR rfl (.sr ?_))
    refine .ret (ax ?_)
    first|(rw[fM];done)|(rw[fM];first|rfl|(simp;done))|(rw[nz hD];done)|(rw[lK hD];first|rfl|(simp[ints,eW,mh];done))
   try subst zo
   try simp at zo
   refine .rn [8,9,10,11,12,13,14,15,16,17] [] ?_
   refine .done ?_
   refine .cs ?_ ?_<;>intro Ct
   ·try simp at Ct
    rw[if_neg (fun hh=>Ct hh.2.2.2)] at hD
    refine .sr ?_
    refine .ret (ax ?_)
    first|(rw[fM];done)|(rw[fM];first|rfl|(simp;done))|(rw[nz hD];done)|(rw[lK hD];first|rfl|(simp[ints,eW,mh];done))
   try simp at Ct
   rw[if_pos ⟨yE.1,yE.2,Cr rfl,Ct⟩] at hD
   have fM:=lK hD
   rw[Rw,Rx] at fM
   refine .skip (.seq ?_)
   refine .drawn (ms:=[0,0,0,4,0,16,60,124,252,508,1022,2047,0,4096,12288,0,32768,0,131072,491520,1015808,2064384,4194303,8388607]) (W:=[23]) (items:=VA) rfl ae ae ae ?_
   iterate 23 refine .rx ?_
   refine .wv ?_
   refine .done (.ret (ax ?_))
   first|(rw[fM];done)|(rw[fM];first|rfl|(simp;done))|(rw[nz hD];done)|(rw[lK hD];first|rfl|(simp[ints,eW,mh];done))
  try simp at Cs
  refine .sr ?_
  refine .cs ?_ ?_<;>intro Cu
  ·try simp at Cu
   subst Cu
   have hD:=D6 sl sw
   have zp:=Cp sw
   obtain⟨wb,sA⟩:∃b,fB sw=b:=⟨_,rfl⟩
   rw[sA] at zp
   refine .seq (.ar dQ rfl ae (.rn [0,1] _ ?_))
   refine .pc rfl rfl rfl rfl rfl call161 (zp) ?_
   refine .rn [3] [] ?_
   refine .done (.seq (.seq (.ar gT rfl ae ?_)))
   refine .rn [0,1,2] _ ?_
   refine .split (t:=230) rfl (fun nP=>?_) (fun nP=>?_)
   ·try subst nP
    try simp at nP
    rw[if_neg (fun hh=>by rw[hh.1] at sA;simp[← sA] at nP)] at hD
    refine .rn [3,4,5,6] [] ?_
    refine .done (.dR rfl (.sr ?_))
    refine .ret (ax ?_)
    first|(rw[fM];done)|(rw[fM];first|rfl|(simp;done))|(rw[nz hD];done)|(rw[lK hD];first|rfl|(simp[ints,eW,mh];done))
   try subst nP
   try simp at nP
   refine .rn [3,4,5,6] [] ?_
   refine .done ?_
   refine .cs ?_ ?_<;>intro qJ
   ·try simp at qJ
    rw[if_neg (fun hh=>cz qJ hh.2)] at hD
    refine .sr ?_
    refine .ret (ax ?_)
    first|(rw[fM];done)|(rw[fM];first|rfl|(simp;done))|(rw[nz hD];done)|(rw[lK hD];first|rfl|(simp[ints,eW,mh];done))
   try simp at qJ
   rw[if_pos ⟨sA.trans (by simpa using nP),wC qJ⟩] at hD
   refine .skip (.sr ?_)
   refine .ret (ax ?_)
   first|(rw[fM];done)|(rw[fM];first|rfl|(simp;done))|(rw[nz hD];done)|(rw[lK hD];first|rfl|(simp[ints,eW,mh];done))
  try simp at Cu
  have hD:aM c ⟨sk,a,i,sl,sw⟩=none:=xlu (s:=⟨sk,a,i,sl,sw⟩) Co wK kY qI Cs Cu
  refine .skip (.sr ?_)
  refine .ret (ax ?_)
  first|(rw[fM];done)|(rw[fM];first|rfl|(simp;done))|(rw[nz hD];done)|(rw[lK hD];first|rfl|(simp[ints,eW,mh];done))
 ·
  have hN:=nz (Vv (c:=c) (s:=⟨sk,sa,si,sl,sw⟩) dC)
  have sy:=wZ sa 0 (c.t.length:Int)
  rw[hN]
  obtain⟨wi,gy⟩:∃b,(decide (0≤sa)&&decide (sa≤(c.t.length:Int)))=b:=⟨_,rfl⟩
  obtain⟨nw,Dw⟩:∃b,(!wi)=b:=⟨_,rfl⟩
  rw[gy] at sy
  refine .sr ?_
  refine .sr ?_
  refine .sr ?_
  refine .sr ?_
  refine .sr ?_
  refine .seq (.ar dQ rfl ae (.rn [0,1] _ ?_))
  refine .pc rfl rfl rfl rfl rfl call99 (sy) ?_
  refine .rn [3] [] ?_
  refine .done (.seq (.seq (.ar kS rfl ae ?_)))
  refine .rn [0,1,2] _ ?_
  refine .split (t:=28) rfl (fun iI=>?_) (fun iI=>?_)
  ·try subst iI
   try simp at iI
   refine .rn [3,4,5] [] ?_
   refine .done (.dR rfl (.sr ?_))
   refine .ret (ax ?_)
   exact zk
  try subst iI
  try simp at iI
  refine .rn [3,4,5] [] ?_
  refine .done ?_
  refine .cs ?_ ?_<;>intro wW
  ·try simp at wW
   refine .sr ?_
   refine .ret (ax ?_)
   exact zk
  try simp at wW
  exfalso;have lr:wi=true:=by simpa using Dw
  rw[lr] at gy;simp at gy;exact dC ⟨gy.1,gy.2,by omega⟩
theorem Ry (w:List Int):PV.one (eW w)=true:=by unfold eW;split<;>rfl
attribute [local simp ↓ high] Ry
def Eb (c:aj)(l:List ak):PV:=match fu c l with
 |some (o,n)=>.agg [ints o,.int .i64 n,.bool true]
 |none=>.agg [.vec [],.int .i64 0,.bool false]
theorem NH {a b:PV}(ha:a.aD=true)(hb:b.aD=true):ec (.agg [.aJ,a,b]) (.agg [.vec [],a,b]):=.lW (.cons .eH (.cons (.same _ ha) (.cons (.same _ hb) .nil)))
theorem xb6 (c:aj)(l:List ak):(Eb c l).aD=true:=by
 unfold Eb
 split<;>simp[PV.aD,PV.az]
section
variable [bE]
theorem KD (a b:List Int)(ha:a.length<4611686018427387904)(hb:b.length<4611686018427387904):aI prog 37 [ints a,ints b] fun r=>r=.bool (decide (a=b)):=by
 refine .bJ func37 rfl rfl ?_
 refine .sr ?_
 refine .seq (.sr ?_)
 refine .cs ?_ ?_<;>intro fp
 ·try simp at fp
  have db:decide (a=b)=false:=by
   rw[decide_eq_false_iff_not];intro h;rw[h] at fp;simp at fp
  refine .sr ?_
  refine .ret (ax ?_)
  rw[db]
 try simp at fp
 have hlen:b.length=a.length:=by omega
 refine .skip (.seq (.sr ?_))
 refine .block ?_
 refine .cZ (fun i:Nat=>([(0,ints a),(1,ints b),(5,.int .i64 i)],af.empty)) (fun i=>i≤a.length∧a.take i=b.take i) (fun i=>a.length - i) 0 ⟨by simp,by simp⟩ (.pure (by simp[*]) (by simp)) ?_
 rintro i ⟨hi,ht⟩
 simp only at hi ht ⊢
 refine .seq (.sr ?_)
 refine .cs ?_ ?_<;>intro iy
 ·try simp at iy
  have cR:=iQ i
  have sj:i<a.length:=by omega
  have AZ:i<b.length:=by omega
  obtain⟨x,hx⟩:∃x,a[i]?=some x:=⟨_,List.getElem?_eq_getElem sj⟩
  obtain⟨y,hy⟩:∃y,b[i]?=some y:=⟨_,List.getElem?_eq_getElem AZ⟩
  have ic:a[i]=x:=(List.getElem?_eq_some_iff.1 hx).2
  have zn:b[i]=y:=(List.getElem?_eq_some_iff.1 hy).2
  refine .skip (.seq (.block (.seq ?_)))
  refine .drawn (ms:=[0,0,3,7,0,0,48,112,255]) (W:=[]) (items:=Fu) rfl ae ae ae ?_
  iterate 9 refine .rx ?_
  refine .done ?_
  refine .cs ?_ ?_<;>intro gx
  ·try simp at gx
   have w6:¬x=y:=gx
   have db:decide (a=b)=false:=by
    rw[decide_eq_false_iff_not];intro h
    rw[h,hy] at hx;injection hx with hx;exact w6 hx.symm
   refine .sr ?_
   refine .ret (ax ?_)
   rw[db]
  try simp at gx
  have w6:x=y:=gx
  refine .skip (.rn ?_)
  refine⟨i+1,⟨ba,?_⟩,ba,.pure (by simp[*]) (by simp)⟩
  rw[List.take_succ_eq_append_getElem sj,List.take_succ_eq_append_getElem AZ,ht,ic,zn,w6]
 try simp at iy
 obtain rfl:i=a.length:=by omega
 have db:decide (a=b)=true:=by
  rw[decide_eq_true_eq]
  rw[List.take_length,← hlen,List.take_length] at ht
  exact ht
 refine .exit (.sr ?_)
 refine .ret (ax ?_)
 rw[db]
theorem Rz (a b:List ak)(ha:a.length<4611686018427387904)(hb:b.length<4611686018427387904):aI prog 34 [.vec (a.map encS),.vec (b.map encS)] fun r=>r=.bool (decide (a=b)):=by
 refine .bJ func34 rfl rfl ?_
 refine .sr ?_
 refine .seq (.sr ?_)
 refine .cs ?_ ?_<;>intro fp
 ·try simp at fp
  have db:decide (a=b)=false:=by
   rw[decide_eq_false_iff_not];intro h;rw[h] at fp;simp at fp
  refine .sr ?_
  refine .ret (ax ?_)
  rw[db]
 try simp at fp
 have hlen:b.length=a.length:=by omega
 refine .skip (.seq (.sr ?_))
 refine .block ?_
 refine .cZ (fun i:Nat=>([(0,.vec (a.map encS)),(1,.vec (b.map encS)),(5,.int .i64 i)],af.empty)) (fun i=>i≤a.length∧a.take i=b.take i) (fun i=>a.length - i) 0 ⟨by simp,by simp⟩ (.pure (by simp[*]) (by simp)) ?_
 rintro i ⟨hi,ht⟩
 simp only at hi ht ⊢
 refine .seq (.sr ?_)
 refine .cs ?_ ?_<;>intro iy
 ·try simp at iy
  have cR:=iQ i
  have sj:i<a.length:=by omega
  have AZ:i<b.length:=by omega
  obtain⟨x,hx⟩:∃x,a[i]?=some x:=⟨_,List.getElem?_eq_getElem sj⟩
  obtain⟨y,hy⟩:∃y,b[i]?=some y:=⟨_,List.getElem?_eq_getElem AZ⟩
  have ic:a[i]=x:=(List.getElem?_eq_some_iff.1 hx).2
  have zn:b[i]=y:=(List.getElem?_eq_some_iff.1 hy).2
  have hE:∀s:ak,encS s=.agg [.int .i64 s.k,.int .i64 s.a,.int .i64 s.i,.int .i64 s.l,.int .i64 s.w]:=fun _=>rfl
  refine .skip (.seq (.block (.seq ?_)))
  refine .drawn (ms:=[0,0,3,7,0,0,48,112,255]) (W:=[]) (items:=Fu) rfl ae ae ae ?_
  iterate 9 refine .rx ?_
  refine .done ?_
  refine .cs ?_ ?_<;>intro gx
  ·try simp at gx
   have w6:¬x=y:=fun e=>by subst e;simp at gx
   have db:decide (a=b)=false:=by
    rw[decide_eq_false_iff_not];intro h
    rw[h,hy] at hx;injection hx with hx;exact w6 hx.symm
   refine .sr ?_
   refine .ret (ax ?_)
   rw[db]
  try simp at gx
  have w6:x=y:=by cases x;cases y;simp at gx;simp[gx]
  refine .skip (.rn ?_)
  refine⟨i+1,⟨ba,?_⟩,ba,.pure (by simp[*]) (by simp)⟩
  rw[List.take_succ_eq_append_getElem sj,List.take_succ_eq_append_getElem AZ,ht,ic,zn,w6]
 try simp at iy
 obtain rfl:i=a.length:=by omega
 have db:decide (a=b)=true:=by
  rw[decide_eq_true_eq]
  rw[List.take_length,← hlen,List.take_length] at ht
  exact ht
 refine .exit (.sr ?_)
 refine .ret (ax ?_)
 rw[db]
theorem RA (c:aj)(l:List ak)(hk:aN c=0)(da:l.length≤200):aI prog 127 [aA c,.vec (l.map encS)] fun r=>ec r (Eb c l):=by
 have aP:=fC hk
 have nY:=aP.tl
 have hC:cu c=(cQ c):=rfl
 have hE:∀s:ak,encS s=.agg [.int .i64 s.k,.int .i64 s.a,.int .i64 s.i,.int .i64 s.l,.int .i64 s.w]:=fun _=>rfl
 have dh:=fun s=>FY c s hk
 have sy:=fun a i:Int=>wZ a i (c.t.length:Int)
 have wS:=WI.start c l
 unfold aA at dh ⊢
 rw[hC] at dh ⊢
 have yY:fu c l=none→Eb c l=.agg [.vec [],.int .i64 0,.bool false]:=fun h=>by unfold Eb;rw[h]
 refine .bJ func127 rfl rfl ?_
 refine .sr ?_
 refine .sr ?_
 refine .sr ?_
 refine .sr ?_
 refine .seq (.sr ?_)
 refine .block ?_
 refine .cZ (fun z:Nat×List Int×Nat×Int=>([(1,.vec (l.map encS)),(2,.ptr 0 0),(4,.ptr 1 0),(5,.grow 2 z.2.1.length true),(6,.int .i64 z.2.2.2),(7,.int .i64 z.2.2.1),(8,.int .i64 z.1)],⟨3,[(2,.grow 1 (z.2.1.map (.int .i64))),(1,.box [.aJ,.int .i64 0,.bool false]),(0,.box (cQ c))]⟩)) (fun z=>WI c l z.1 z.2.1 z.2.2.1 z.2.2.2) (fun z=>l.length - z.1) (0,[],0,0) wS aX ?_
 clear wS
 rintro⟨k,out,i,sum⟩ hI
 simp only at hI ⊢
 have ee:=hI.hk
 have cE:=hI.hi
 have yu:=hI.h0
 have mT:=hI.h1
 have EO:=hI.ho
 refine .seq (.sr ?_)
 refine .cs ?_ ?_<;>intro dj
 ·try simp at dj
  have cR:=iQ k
  have dm:k<l.length:=by omega
  obtain⟨s,hs⟩:∃s,l[k]?=some s:=⟨l[k],List.getElem?_eq_getElem dm⟩
  have gq:l[k]=s:=(List.getElem?_eq_some_iff.1 hs).2
  have sy:=sy s.a i
  obtain⟨wi,gy⟩:∃b,(decide ((i:Int)≤s.a)&&decide (s.a≤(c.t.length:Int)))=b:=⟨_,rfl⟩
  rw[gy] at sy
  have dh:=dh s
  rw[hE] at dh
  refine .skip (.seq (.block (.sr ?_)))
  refine .seq (.ar js rfl ae (.rn kS _ ?_))
  refine .pc rfl rfl rfl rfl rfl call99 (sy) ?_
  refine .rn [7] [] ?_
  refine .done (.seq (.sr ?_))
  refine .cs ?_ ?_<;>intro uj
  ·try simp at uj
   have hb:=hI.bad hs (.inl (fun hh=>by rw[uj] at gy;simp[hh.1,hh.2] at gy))
   refine .sr ?_
   refine .ret (ax ?_)
   rw[yY hb];exact NH rfl rfl
  try simp at uj
  have dC:(i:Int)≤s.a∧s.a≤(c.t.length:Int):=by rw[uj] at gy;simpa using gy
  obtain⟨a,ha⟩:∃a:Nat,s.a=a:=⟨s.a.toNat,by omega⟩
  have rH:s.a.toNat=a:=by omega
  have sj:i≤a:=by omega
  have ep:a≤c.t.length:=by omega
  have ik:=@WI.bad c l k out i sum hI s hs
  have gQ:=@WI.next c aP l k out i sum hI s hs
  rw[rH] at ik gQ
  have lI:(a:Int)≤(c.t.length:Int):=by omega
  have Q2:(i:Int)≤(a:Int):=by omega
  rw[ha] at dh
  have a8:((c.t.drop i).take (a - i)).length=a - i:=by rw[List.length_take,List.length_drop];omega
  have sN:List.take (a - i) (List.drop i (c.t.map (PV.int .i64)))=((c.t.drop i).take (a - i)).map (PV.int .i64):=by rw[List.map_take,List.map_drop]
  obtain⟨Q,hQ⟩:∃Q,(c.t.drop i).take (a - i)=Q:=⟨_,rfl⟩
  rw[hQ] at a8 sN ik gQ
  have hlq:out.length+Q.length≤4294967296:=by omega
  have Q3:out.length+Q.length≤20000:=by omega
  clear a8
  obtain⟨ni,HG⟩:∃b,(s.i != (out.length:Int)+(Q.length:Int))=b:=⟨_,rfl⟩
  rcases hd:aM c s with _|⟨n,i',w⟩
  ·skip
   refine .skip (.sr ?_)
   refine .seq (.ar fR rfl ae (.rn [0,1] _ ?_))
   refine .step rfl rfl (.pure rfl rfl rfl call126 (by decide) (dh) (by first|rfl|simp[*]) ?_)
   intro _ e;rw[nz hd] at e;subst e;have xZ:=ik (.inr (.inl hd))
   refine .rn [3,4] [] ?_
   refine .done (.seq (.seq (.ar gh rfl ae ?_)))
   refine .rn kS _ ?_
   refine .split (t:=48) rfl (fun fV=>?_) (fun fV=>?_)
   ·try subst fV
    try simp at fV
    refine .rn [6,7,8,9] [] ?_
    refine .done (.dR rfl (.sr ?_))
    refine .ret (ax ?_)
    rw[yY xZ];exact NH rfl rfl
   try subst fV
   try simp at fV
   refine .rn [6,7,8,9] [] ?_
   refine .done ?_
   refine .cs ?_ ?_<;>intro ri
   ·try simp at ri
    refine .sr ?_
    refine .ret (ax ?_)
    rw[yY xZ];exact NH rfl rfl
   try simp at ri
  skip
  refine .skip (.sr ?_)
  refine .seq (.ar fR rfl ae (.rn [0,1] _ ?_))
  refine .step rfl rfl (.pure rfl rfl rfl call126 (by decide) (dh) (by first|rfl|simp[*]) ?_)
  intro _ e;rw[lK hd] at e;subst e;obtain⟨d1,d2,d3,d4,d5,d6⟩:=nI aP hd;have WZ:IntKind.i64.wrap (sum+n)=sum+n:=wrap64 (by omega) (by omega);have hlw:out.length+Q.length+w.length≤4294967296:=by omega
  refine .rn [3,4] [] ?_
  refine .done (.seq (.seq (.ar gh rfl ae ?_)))
  refine .rn kS _ ?_
  refine .split (t:=48) rfl (fun fV=>?_) (fun fV=>?_)
  ·try subst fV
   try simp at fV
   have xZ:=ik (.inr (.inr (fun e=>by rw[e] at HG;simp at HG)))
   refine .rn [6,7,8,9] [] ?_
   refine .done (.dR rfl (.sr ?_))
   refine .ret (ax ?_)
   rw[yY xZ];exact NH rfl rfl
  try subst fV
  try simp at fV
  have qw:s.i=(out.length:Int)+(Q.length:Int):=by simpa using HG
  have uN:=gQ dC hd (by rw[qw];simp)
  refine .rn [6,7,8,9] [] ?_
  refine .done ?_
  refine .cs ?_ ?_<;>intro ri
  ·try simp at ri
  try simp at ri
  rcases Nn w with⟨rfl,hw⟩|hw<;>simp only[hw]
  ·skip
   refine .skip (.sr ?_)
   refine .sr ?_
   refine .rn ?_
   refine .rn ?_
   refine⟨(k+1,out++Q++[],i',sum+n),uN,ba,(.mk [] [(2,6)] gH gY rfl rfl rfl)⟩
  skip
  refine .skip (.sr ?_)
  refine .sr ?_
  refine .rn ?_
  refine .rn ?_
  have Q4:=Nat.add_assoc out.length Q.length w.length
  refine⟨(k+1,out++Q++w,i',sum+n),uN,ba,(.mk [] [(2,6)] gH gY rfl rfl rfl)⟩
 try simp at dj
 obtain rfl:k=l.length:=by omega
 have cS:=hI.stop
 obtain⟨D,hD⟩:∃D,c.t.drop i=D:=⟨_,rfl⟩
 have hE4:List.drop i (c.t.map (PV.int .i64))=D.map (PV.int .i64):=by rw[← hD,List.map_drop]
 have hE2:List.take (c.t.length - i) (D.map (PV.int .i64))=D.map (PV.int .i64):=List.take_of_length_le (by rw[← hD];simp)
 have ue:D.length≤48:=by rw[← hD,List.length_drop];omega
 have cz:out.length+D.length≤4294967296:=by omega
 rw[hD] at cS
 clear hD
 have Q5:(i:Int)≤(c.t.length:Int):=by omega
 have sX:Eb c l=.agg [ints (out++D),.int .i64 sum,.bool true]:=by unfold Eb;rw[cS]
 refine .exit (.sr ?_)
 refine .ret (ax ?_)
 rw[sX];simp only[ints,List.map_append];exact oF rfl
theorem RB (c:aj)(l:List ak)(hk:aN c=0)(da:l.length≤200):aI prog 107 [aA c,.vec (l.map encS)] fun r=>r=.int .i64 ((bP c l).getD (-1)):=by
 have aP:=fC hk
 have fx:=aP.cl
 have hC:cu c=(cQ c):=rfl
 have rW:=aI.soft (RA c l hk da) (xb6 c l)
 have hx:bP c l=if 100<l.length then none else match fu c l with|some (o,n)=>if o=c.c then some n else none|none=>none:=rfl
 unfold aA at rW ⊢
 rw[hC] at rW ⊢
 unfold Eb at rW
 refine .bJ func107 rfl rfl ?_
 rcases hw:fu c l with _|⟨o,n⟩
 ·
  rw[hw] at hx rW
  simp only at hx rW
  have od:bP c l=none:=by rw[hx];split<;>rfl
  rw[od]
  have NI:=KD [] c.c (by simp) (by omega)
  refine .sr ?_
  refine .seq (.sr ?_)
  refine .cs ?_ ?_<;>intro c9
  ·try simp at c9
   refine .sr ?_
   refine .ret (ax ?_)
   exact zk
  try simp at c9
  refine .skip (.seq (.ar fR rfl ae (.rn [0,1] _ ?_)))
  refine .pc rfl rfl rfl rfl rfl call127 (rW) ?_
  refine .rn [3,4] [] ?_
  refine .done (.seq (.ar kS rfl ae ?_))
  refine .rn dQ _ ?_
  refine .pc rfl rfl rfl rfl rfl call37 (NI) ?_
  refine .rn [5] [] ?_
  refine .done (.seq (.seq (.ar gT rfl ae ?_)))
  refine .rn dQ _ ?_
  refine .split (t:=21) rfl (fun e8=>?_) (fun e8=>?_)
  ·try subst e8
   try simp at e8
   refine .rn [4,5,6] [] ?_
   refine .done (.dR rfl (.sr ?_))
   refine .ret (ax ?_)
   exact zk
  try subst e8
  try simp at e8
 ·
  rw[hw] at hx rW
  simp only at hx rW
  have s5:=QZ aP hw
  have NI:=KD o c.c (by omega) (by omega)
  obtain⟨eb,qG⟩:∃b,decide (o=c.c)=b:=⟨_,rfl⟩
  rw[qG] at NI
  refine .sr ?_
  refine .seq (.sr ?_)
  refine .cs ?_ ?_<;>intro c9
  ·try simp at c9
   rw[if_pos (show 100<l.length by omega)] at hx
   refine .sr ?_
   refine .ret (ax ?_)
   first|(rw[hx];rfl)|(rw[od];rfl)
  try simp at c9
  rw[if_neg (by omega)] at hx
  refine .skip (.seq (.ar fR rfl ae (.rn [0,1] _ ?_)))
  refine .pc rfl rfl rfl rfl rfl call127 (rW) ?_
  refine .rn [3,4] [] ?_
  refine .done (.seq (.ar kS rfl ae ?_))
  refine .rn dQ _ ?_
  refine .pc rfl rfl rfl rfl rfl call37 (NI) ?_
  refine .rn [5] [] ?_
  refine .done (.seq (.seq (.ar gT rfl ae ?_)))
  refine .rn dQ _ ?_
  refine .split (t:=21) rfl (fun e8=>?_) (fun e8=>?_)
  ·try subst e8
   try simp at e8
  try subst e8
  try simp at e8
  refine .rn [4,5,6] [] ?_
  refine .done ?_
  refine .cs ?_ ?_<;>intro mb
  ·try simp at mb
   have od:bP c l=none:=by rw[hx,if_neg (fun hh=>by rw[hh] at qG;simp[mb] at qG)]
   refine .sr ?_
   refine .ret (ax ?_)
   first|(rw[hx];rfl)|(rw[od];rfl)
  try simp at mb
  have od:bP c l=some n:=by rw[hx,if_pos (by rw[mb] at qG;simpa using qG)]
  refine .skip (.sr ?_)
  refine .ret (ax ?_)
  first|(rw[hx];rfl)|(rw[od];rfl)
end
theorem RC {x y:ak}(h:¬x.a=y.a):decide (x.lt y)=decide (x.a<y.a):=decide_eq_decide.2 (by unfold ak.lt;omega)
theorem RD {x y:ak}(g:x.a=y.a)(h:¬x.i=y.i):decide (x.lt y)=decide (x.i<y.i):=decide_eq_decide.2 (by unfold ak.lt;omega)
theorem RE {x y:ak}(g:x.a=y.a)(g2:x.i=y.i)(h:¬x.k=y.k):decide (x.lt y)=decide (x.k<y.k):=decide_eq_decide.2 (by unfold ak.lt;omega)
theorem RF {x y:ak}(g:x.a=y.a)(g2:x.i=y.i)(g3:x.k=y.k)(h:¬x.l=y.l):decide (x.lt y)=decide (x.l<y.l):=decide_eq_decide.2 (by unfold ak.lt;omega)
theorem RG {x y:ak}(g:x.a=y.a)(g2:x.i=y.i)(g3:x.k=y.k)(g4:x.l=y.l):decide (x.lt y)=decide (x.w<y.w):=decide_eq_decide.2 (by unfold ak.lt;omega)
theorem RH {s:ak}:∀ {l:List ak} {k:Nat},k≤l.length→(∀x∈l.take k,x.lt s)→(∀x,l[k]?=some x→¬x.lt s)→eC l s=if l[k]?=some s then l else l.take k++s::l.drop k
 |[],k,hk,_,_=>by obtain rfl:k=0:=(by simpa using hk);rfl
 |a::r,0,_,_,hn=>by
  have h1:=hn a rfl
  unfold eC
  rw[if_neg h1]
  by_cases h:a=s
  ·simp[h]
  simp[h]
 |a::r,k+1,hk,ht,hn=>by
  have h1:=ht a (by simp)
  unfold eC
  rw[if_pos h1,RH (k:=k) (by simpa using hk) (fun x hx=>ht x (by simp[hx])) (fun x hx=>hn x (by simpa using hx))]
  simp only[List.getElem?_cons_succ,List.take_succ_cons,List.drop_succ_cons,List.cons_append]
  split<;>rfl
section
variable [bE]
theorem RI (x y:ak):aI prog 143 [encS x,encS y] fun r=>r=.bool (decide (x.lt y)):=by
 obtain⟨xk,xa,xi,xl,xw⟩:=x
 obtain⟨yk,ya,yi,yl,yw⟩:=y
 have hE:∀k a i l w,encS ⟨k,a,i,l,w⟩=.agg [.int .i64 k,.int .i64 a,.int .i64 i,.int .i64 l,.int .i64 w]:=fun _ _ _ _ _=>rfl
 rw[hE,hE]
 have d1:=@RC ⟨xk,xa,xi,xl,xw⟩ ⟨yk,ya,yi,yl,yw⟩
 have d2:=@RD ⟨xk,xa,xi,xl,xw⟩ ⟨yk,ya,yi,yl,yw⟩
 have d3:=@RE ⟨xk,xa,xi,xl,xw⟩ ⟨yk,ya,yi,yl,yw⟩
 have d4:=@RF ⟨xk,xa,xi,xl,xw⟩ ⟨yk,ya,yi,yl,yw⟩
 have d5:=@RG ⟨xk,xa,xi,xl,xw⟩ ⟨yk,ya,yi,yl,yw⟩
 simp only at d1 d2 d3 d4 d5
 refine .bJ func143 rfl rfl ?_
 refine .sr ?_
 refine .seq (.sr ?_)
 refine .cs ?_ ?_<;>intro c9
 ·try simp at c9
  have d1:=d1 c9
  refine .sr ?_
  refine .ret (ax ?_)
  first|(rw[d5];done)|(rw[d4];done)|(rw[d3];done)|(rw[d2];done)|(rw[d1];done)
 try simp at c9
 refine .skip (.seq (.sr ?_))
 refine .cs ?_ ?_<;>intro gG
 ·try simp at gG
  have d2:=d2 c9 gG
  refine .sr ?_
  refine .ret (ax ?_)
  first|(rw[d5];done)|(rw[d4];done)|(rw[d3];done)|(rw[d2];done)|(rw[d1];done)
 try simp at gG
 refine .skip (.seq (.sr ?_))
 refine .cs ?_ ?_<;>intro wX
 ·try simp at wX
  have d3:=d3 c9 gG wX
  refine .sr ?_
  refine .ret (ax ?_)
  first|(rw[d5];done)|(rw[d4];done)|(rw[d3];done)|(rw[d2];done)|(rw[d1];done)
 try simp at wX
 refine .skip (.seq (.sr ?_))
 refine .cs ?_ ?_<;>intro B6
 ·try simp at B6
  have d4:=d4 c9 gG wX B6
  refine .sr ?_
  refine .ret (ax ?_)
  first|(rw[d5];done)|(rw[d4];done)|(rw[d3];done)|(rw[d2];done)|(rw[d1];done)
 try simp at B6
 have d5:=d5 c9 gG wX B6
 refine .skip (.sr ?_)
 refine .ret (ax ?_)
 first|(rw[d5];done)|(rw[d4];done)|(rw[d3];done)|(rw[d2];done)|(rw[d1];done)
theorem RJ (l:List ak)(s:ak)(hl:l.length≤100000):aI prog 93 [.vec (l.map encS),encS s] fun r=>r=.vec ((eC l s).map encS):=by
 have w7:=fun x=>RI x s
 have hE:encS s=.agg [.int .i64 s.k,.int .i64 s.a,.int .i64 s.i,.int .i64 s.l,.int .i64 s.w]:=rfl
 rw[hE] at w7 ⊢
 refine .bJ func93 rfl rfl ?_
 refine .sr ?_
 refine .sr ?_
 refine .seq (.block ?_)
 refine .cZ (fun i:Nat=>([(0,.vec (l.map encS)),(3,.ptr 0 0),(5,.int .i64 i)],⟨1,[(0,.box [.int .i64 s.k,.int .i64 s.a,.int .i64 s.i,.int .i64 s.l,.int .i64 s.w])]⟩)) (fun i=>i≤l.length∧∀x∈l.take i,x.lt s) (fun i=>l.length - i) 0 (by simp) aX ?_
 rintro i ⟨hi,ht⟩
 simp only at hi ht ⊢
 refine .seq (.sr ?_)
 refine .cs ?_ ?_<;>intro fp
 ·try simp at fp
  have cR:=iQ i
  have cE:i<l.length:=by omega
  obtain⟨x,hx⟩:∃x,l[i]?=some x:=⟨_,List.getElem?_eq_getElem cE⟩
  have ic:l[i]=x:=(List.getElem?_eq_some_iff.1 hx).2
  have hEx:encS x=.agg [.int .i64 x.k,.int .i64 x.a,.int .i64 x.i,.int .i64 x.l,.int .i64 x.w]:=rfl
  have w7:=w7 x
  rw[hEx] at w7
  obtain⟨lb,A7⟩:∃b,decide (x.lt s)=b:=⟨_,rfl⟩
  rw[A7] at w7
  refine .skip (.block (.seq ?_))
  refine .drawn (ms:=[0,0,3,7,0,31,63]) (W:=[5]) (items:=[.op 0,.op 1,.op 2,.op 3,.op 4,.op 5,.op 6]) rfl ae ae ae ?_
  iterate 5 refine .rx ?_
  refine .wp rfl rfl rfl rfl rfl call143 (w7) ?_
  refine .rx ?_
  refine .done (.seq (.sr ?_))
  refine .cs ?_ ?_<;>intro nu
  ·try simp at nu
   have RK:¬x.lt s:=by rw[← decide_eq_false_iff_not,A7];simpa using nu
   have hp:=RH hi ht (fun y hy=>by rw[hx] at hy;injection hy with hy;rw[← hy];exact RK)
   rw[hx] at hp
   have Rp:List.take i (l.map encS)=(l.take i).map encS:=(List.map_take).symm
   have iR:List.drop i (l.map encS)=(l.drop i).map encS:=(List.map_drop).symm
   obtain⟨T,hT⟩:∃T,l.take i=T:=⟨_,rfl⟩
   obtain⟨D,hD⟩:∃D,l.drop i=D:=⟨_,rfl⟩
   have Cv:T.length=i:=by rw[← hT,List.length_take];omega
   have ue:D.length=l.length - i:=by rw[← hD,List.length_drop]
   have lE:List.take (l.length - i) (D.map encS)=D.map encS:=List.take_of_length_le (by rw[List.length_map];omega)
   have tS:T.length+(D.length+1)=i+1+(l.length - i):=by omega
   rw[hT] at Rp hp
   rw[hD] at iR hp
   clear hT hD ht
   have w8:=PQ T
   have hsD:=PQ D
   have hi4:i≤4294967296:=by omega
   have hi5:i+1≤4294967296:=by omega
   have hi6:i+1+(l.length - i)≤4294967296:=by omega
   refine .exit (.seq (.seq ?_))
   refine .drawn (ms:=[0,0,2,7,15,31,31,127,255,31,1023,2047]) (W:=[]) (items:=F0) rfl ae ae ae ?_
   iterate 5 refine .rx ?_
   refine .split (t:=25) rfl (fun gx=>?_) (fun gx=>?_)
   ·try subst gx
    try simp at gx
    iterate 7 refine .rx ?_
    refine .done ?_
    refine .cs ?_ ?_<;>intro ft
    ·try simp at ft
     refine .sr ?_
     refine .ret (ax ?_)
     show _=_
     have oP:x=s:=ak.ext' ft.1.1.1.1 ft.1.1.1.2 ft.1.1.2 ft.1.2 ft.2
     rw[hp,if_pos (by rw[oP])]
    try simp at ft
    refine .skip (.seq ?_)
    refine .vK (ms:=[0,0,0,6,15,0,32,127,0,0,768,2047,4095]) (W:=[0,4,7,11]) (As:=[6]) (items:=[.op 1,.op 2,.op 3,.op 5,.op 6,.op 8,.op 9,.op 10,.op 0,.ck 5,.op 4,.ck 5,.op 7,.op 11,.op 12]) rfl ae ae ae ae (by decide) ?_
    iterate 4 refine .rf ?_
    refine .al rfl rfl (by decide) (by decide) (by decide) (by decide) iq ?_
    iterate 3 refine .rf ?_
    refine .wr rfl rfl (by decide) (.dz iq (by decide) ?_)
    refine .ck rfl eQ ?_
    refine .wr rfl rfl (by decide) (.F1 [2] (fD:=[5]) iq iq (by decide) (⟨⟨eQ,_,_,rfl,iq⟩,trivial⟩) ae ?_)
    refine .ck rfl eQ ?_
    refine .wr rfl rfl (by decide) (.dz iq (by decide) ?_)
    refine .wr rfl rfl (by decide) (.dz iq (by decide) ?_)
    refine .rf ?_
    refine .done (.ret ?_)
    refine⟨_,_,jF,(by simp[tS]<;>rfl),?_⟩
    show _=_
    rw[hp,if_neg (fun hh=>by injection hh with hh;rw[hh] at ft;exact ft rfl rfl rfl rfl rfl),List.map_append,List.map_cons,hE]
   try subst gx
   try simp at gx
  try simp at nu
  have RK:x.lt s:=by rw[← decide_eq_true_eq (p:=x.lt s),A7];simpa using nu
  refine .skip (.rn ?_)
  refine⟨i+1,⟨ba,?_⟩,ba,aX⟩
  intro y hy
  rw[List.take_succ_eq_append_getElem cE,List.mem_append,List.mem_singleton,ic] at hy
  rcases hy with hy|hy
  ·exact ht y hy
  rw[hy];exact RK
 try simp at fp
 obtain rfl:i=l.length:=by omega
 have Rp:List.take l.length (l.map encS)=l.map encS:=List.take_of_length_le (by simp)
 have iR:List.drop l.length (l.map encS)=[]:=List.drop_of_length_le (by simp)
 have hp:=RH (Nat.le_refl _) ht (fun y hy=>by rw[List.getElem?_eq_none (Nat.le_refl _)] at hy;cases hy)
 have hN:l[l.length]?=none:=List.getElem?_eq_none (Nat.le_refl _)
 have w8:=PQ l
 have hsE:nU 5 ([]:List PV)=true:=rfl
 have hi4:l.length≤4294967296:=by omega
 have hi5:l.length+1≤4294967296:=by omega
 refine .exit (.seq (.seq ?_))
 refine .drawn (ms:=[0,0,2,7,15,31,31,127,255,31,1023,2047]) (W:=[]) (items:=F0) rfl ae ae ae ?_
 iterate 5 refine .rx ?_
 refine .split (t:=25) rfl (fun gx=>?_) (fun gx=>?_)
 ·try subst gx
  try simp at gx
 try subst gx
 try simp at gx
 iterate 6 refine .ux ?_
 refine .rx ?_
 refine .done (.gI rfl (.skip (.seq ?_)))
 refine .vK (ms:=[0,0,0,6,15,0,32,127,0,0,768,2047,4095]) (W:=[0,4,7,11]) (As:=[6]) (items:=[.op 1,.op 2,.op 3,.op 5,.op 6,.op 8,.op 9,.op 10,.op 0,.ck 5,.op 4,.ck 5,.op 7,.op 11,.op 12]) rfl ae ae ae ae (by decide) ?_
 iterate 4 refine .rf ?_
 refine .al rfl rfl (by decide) (by decide) (by decide) (by decide) iq ?_
 iterate 3 refine .rf ?_
 refine .wr rfl rfl (by decide) (.dz iq (by decide) ?_)
 refine .ck rfl eQ ?_
 refine .wr rfl rfl (by decide) (.F1 [2] (fD:=[5]) iq iq (by decide) (⟨⟨eQ,_,_,rfl,iq⟩,trivial⟩) ae ?_)
 refine .ck rfl eQ ?_
 refine .wr rfl rfl (by decide) (.dz iq (by decide) ?_)
 refine .wr rfl rfl (by decide) (.dz iq (by decide) ?_)
 refine .rf ?_
 refine .done (.ret (ax ?_))
 show _=_
 rw[hp,if_neg (fun hh=>by rw[hN] at hh;cases hh),List.take_length,List.drop_length,List.map_append,List.map_cons,hE,List.map_nil]
theorem RL (s:ak):aI prog 93 [.aJ,encS s] fun r=>r=.vec [encS s]:=by
 have hE:encS s=.agg [.int .i64 s.k,.int .i64 s.a,.int .i64 s.i,.int .i64 s.l,.int .i64 s.w]:=rfl
 rw[hE]
 refine .bJ func93 rfl rfl ?_
 refine .sr ?_
 refine .sr ?_
 refine .seq (.block ?_)
 refine .cZ (fun i:Nat=>([(0,.aJ),(3,.ptr 0 0),(5,.int .i64 i)],⟨1,[(0,.box [.int .i64 s.k,.int .i64 s.a,.int .i64 s.i,.int .i64 s.l,.int .i64 s.w])]⟩)) (fun i=>i=0) (fun i=>0) 0 (by simp) aX ?_
 rintro i rfl
 simp only
 refine .seq (.sr ?_)
 refine .cs ?_ ?_<;>intro fp
 ·try simp at fp
 try simp at fp
 refine .exit (.seq (.seq ?_))
 refine .drawn (ms:=[0,0,2,7,15,31,31,127,255,31,1023,2047]) (W:=[]) (items:=F0) rfl ae ae ae ?_
 iterate 5 refine .rx ?_
 refine .split (t:=25) rfl (fun gx=>?_) (fun gx=>?_)
 ·try rw[gx]
  try simp at gx
 try rw[gx]
 try simp at gx
 iterate 6 refine .ux ?_
 refine .rx ?_
 refine .done (.gI rfl (.skip (.seq ?_)))
 refine .vK (ms:=[0,0,0,6,15,0,32,127,0,0,768,2047,4095]) (W:=[0,4,7,11]) (As:=[6]) (items:=[.op 1,.op 2,.op 3,.op 5,.op 6,.op 8,.op 9,.op 10,.op 0,.ck 5,.op 4,.ck 5,.op 7,.op 11,.op 12]) rfl ae ae ae ae (by decide) ?_
 iterate 4 refine .rf ?_
 refine .al rfl rfl (by decide) (by decide) (by decide) (by decide) iq ?_
 iterate 3 refine .rf ?_
 refine .wr rfl rfl (by decide) (.dz iq (by decide) ?_)
 refine .ck rfl eQ ?_
 refine .wr rfl rfl (by decide) (.F1 [2] (fD:=[5]) iq iq (by decide) (⟨⟨eQ,_,_,rfl,iq⟩,trivial⟩) ae ?_)
 refine .ck rfl eQ ?_
 refine .wr rfl rfl (by decide) (.dz iq (by decide) ?_)
 refine .wr rfl rfl (by decide) (.dz iq (by decide) ?_)
 refine .rf ?_
 refine .done (.ret (ax ?_))
 exact zk
end
def eL (l:List ak):PV:=if l=[] then .aJ else .vec (l.map encS)
theorem RM {l:List ak}(h:l≠[]):eL l=.vec (l.map encS):=if_neg h
theorem z5a (w:List ak):(eL w).cells=[eL w]:=by unfold eL;split<;>rfl
theorem Xt (w:List ak):(eL w).aD=true:=by unfold eL;split<;>simp[PV.aD]
theorem xf3 (w:List ak):PV.one (eL w)=true:=by unfold eL;split<;>rfl
theorem xgv (vh:af)(w:List ak):bI vh (eL w)=some (eL w):=PZ vh (Xt w)
theorem Xu (w:List ak):(w=[]∧eL w=.aJ)∨eL w=.vec (w.map encS):=by
 by_cases h:w=[]
 ·exact .inl ⟨h,by rw[h];rfl⟩
 exact .inr (RM h)
theorem Xv (l:List ak)(s:ak):eC l s≠[]:=fun h=>by
 have:=(NJ (l:=l) (s:=s) (x:=s)).2 (.inr rfl)
 rw[h] at this;cases this
theorem RN (s:ak):∀l:List ak,(eC l s).length≤l.length+1
 |[]=>by simp[eC]
 |a::r=>by
  unfold eC
  split
  ·have:=RN s r;simp;omega
  split<;>simp
def vQ (c:aj)(i j:Nat):List ak:=(if j<c.c.length then [⟨1,i,j,0,c.c.getD j 0⟩,⟨6,i,j,0,c.c.getD j 0⟩] else [])++[⟨2,i,j,0,0⟩]
def x5 (i j n:Nat):List ak:=(List.range n).flatMap fun (k:Nat)=>[⟨3,i,j,k,0⟩,⟨4,i,j,k,0⟩]
def zq (i j n:Nat):List ak:=(List.range n).map fun (k:Nat)=>⟨5,i,j,k,0⟩
theorem RO (i j n:Nat):x5 i j (n+1)=x5 i j n++[⟨3,i,j,n,0⟩,⟨4,i,j,n,0⟩]:=by unfold x5;rw[List.range_succ,List.flatMap_append];rfl
theorem Xw (i j n:Nat):zq i j (n+1)=zq i j n++[⟨5,i,j,n,0⟩]:=by unfold zq;rw[List.range_succ,List.map_append];rfl
theorem RP (c:aj)(i j:Nat):pL c i j=vQ c i j++x5 i j (c.t.length+1)++zq i j c.g.length:=rfl
theorem xbn (c:aj)(i j:Nat):(vQ c i j).length≤3:=by unfold vQ;split<;>simp
theorem Xx (i j:Nat):∀n,(x5 i j n).length=2*n
 |0=>rfl
 |n+1=>by rw[RO,List.length_append,Xx i j n];simp;omega
theorem Xy (i j n:Nat):(zq i j n).length=n:=by unfold zq;rw[List.length_map,List.length_range]
def rX (c:aj)(l:List ak):List ak:=(l.filter (pG c)).foldl eC []
theorem Xz (c:aj)(l:List ak)(s:ak):rX c (l++[s])=if pG c s=true then eC (rX c l) s else rX c l:=by
 unfold rX
 rw[List.filter_append,List.foldl_append]
 by_cases h:pG c s=true
 ·rw[if_pos h,List.filter_cons_of_pos h];rfl
 rw[if_neg h,List.filter_cons_of_neg h];rfl
theorem XA (c:aj)(l:List ak):(rX c l).length≤l.length:=by
 have h1:∀(r a:List ak),(r.foldl eC a).length≤a.length+r.length:=fun r=>by
  induction r with
  |nil=>exact fun a=>Nat.le_refl _
  |cons s r ih=>exact fun a=>by have:=ih (eC a s);have h2:=RN s a;rw[List.foldl_cons,List.length_cons];omega
 have:=h1 (l.filter (pG c)) []
 have h2:=List.length_filter_le (pG c) l
 unfold rX
 simp at this
 omega
theorem XB {c:aj}{s:ak}(h:aM c s=none):¬pG c s=true:=by unfold pG;rw[h];simp
theorem XC {c:aj}{s:ak}{n:Int}{i':Nat}{w:List Int}(h:aM c s=some (n,i',w)):pG c s=hasB c s.i.toNat w:=by unfold pG;rw[h]
theorem XD {c:aj}{i j:Nat}{s:ak}(h:s∈pL c i j):s.i.toNat=j:=by
 rw[RP] at h
 unfold vQ x5 zq at h
 simp only[List.mem_append,List.mem_flatMap,List.mem_map,List.mem_cons,List.mem_range,List.not_mem_nil,or_false] at h
 rcases h with (((h|rfl)|⟨k,_,rfl|rfl⟩)|⟨k,_,rfl⟩)
 ·split at h
  ·simp only[List.mem_cons,List.not_mem_nil,or_false] at h
   rcases h with rfl|rfl<;>rfl
  cases h
 all_goals rfl
attribute [local simp ↓ high] Ry z5a Xt xf3 xgv
variable [bE] in
theorem RQ (c:aj)(i j:Nat)(hk:aN c=0)(hi:i≤c.t.length)(hj:j≤c.c.length):aI prog 125 [aA c,.int .i64 i,.int .i64 j] fun r=>r=eL (NK c i j):=by
 have aP:=fC hk
 have nY:=aP.tl
 have fx:=aP.cl
 have tX:=aP.yV
 have hC:cu c=(cQ c):=rfl
 have hE:∀s:ak,encS s=.agg [.int .i64 s.k,.int .i64 s.a,.int .i64 s.i,.int .i64 s.l,.int .i64 s.w]:=fun _=>rfl
 have dh:=fun s=>FY c s hk
 have oJ:=fun w hw=>Rs c j w (by omega) hw (by omega)
 have tu:=RL
 have sB:=RJ
 have hR:NK c i j=rX c (pL c i j):=rfl
 have hA3:=xbn c i j
 have NL:=fun n=>Xx i j n
 unfold aA at dh oJ ⊢
 rw[hC] at dh oJ ⊢
 rw[hR]
 refine .bJ func125 rfl rfl ?_
 by_cases eV:j<c.c.length
 ·
  obtain⟨x,hx⟩:∃x,c.c[j]?=some x:=⟨_,List.getElem?_eq_getElem eV⟩
  have ic:c.c[j]=x:=(List.getElem?_eq_some_iff.1 hx).2
  have hAe:vQ c i j=[⟨1,i,j,0,x⟩,⟨6,i,j,0,x⟩,⟨2,i,j,0,0⟩]:=by unfold vQ;rw[if_pos eV,List.getD_eq_getElem?_getD,hx];rfl
  refine .sr ?_
  refine .sr ?_
  refine .seq (.sr ?_)
  refine .cs ?_ ?_<;>intro nu
  ·try simp at nu
   refine .drawn (ms:=[0,0,0,0,8,0,56,120,254,0,0,0,2048,0,14336,30720,65024,131070,262143,524287]) (W:=[17,18]) (items:=Hu) rfl ae ae ae ?_
   iterate 17 refine .rx ?_
   refine .wv ?_
   refine .wv ?_
   refine .rx ?_
   refine .done (.sr ?_)
   refine .seq (.sr ?_)
   refine .block ?_
   refine .cZ (fun z:Nat×List ak=>([(1,.int .i64 i),(2,.int .i64 j),(3,.ptr 0 0),(7,.grow 2 z.2.length true),(8,.int .i64 z.1)],⟨3,[(2,.grow 5 (z.2.map encS)),(0,.box (cQ c))]⟩)) (fun z=>z.1≤c.t.length+1∧z.2=vQ c i j++x5 i j z.1) (fun z=>c.t.length+1 - z.1) (0,vQ c i j) (by simp[x5]) (.mk [] [(2,4)] gH gY rfl rfl rfl) ?_
   rintro⟨n,all⟩ ⟨hn,bk⟩
   simp only at hn bk ⊢
   have ep:all.length≤103:=by rw[bk,List.length_append,NL];omega
   replace bk:=bk.symm
   refine .seq (.sr ?_)
   refine .cs ?_ ?_<;>intro fV
   ·try simp at fV
    have cR:IntKind.i64.wrap ((n:Int)+1)=((n+1:Nat):Int):=by rw[wrap64 (by omega) (by omega)];omega
    have ll:all.length+2≤4294967296:=by omega
    refine .skip (.seq (.block (.rn ?_)))
    refine .rn ?_
    refine⟨(n+1,all++[⟨3,i,j,n,0⟩,⟨4,i,j,n,0⟩]),⟨by omega,?_⟩,ba,(.mk [] [(2,4)] gH gY rfl rfl rfl)⟩
    rw[← bk,RO,List.append_assoc]
   try simp at fV
   obtain rfl:n=c.t.length+1:=by omega
   refine .exit (.seq (.sr ?_))
   refine .block ?_
   refine .cZ (fun z:Nat×List ak=>([(1,.int .i64 i),(2,.int .i64 j),(3,.ptr 0 0),(7,.grow 2 z.2.length true),(9,.int .i64 z.1)],⟨3,[(2,.grow 5 (z.2.map encS)),(0,.box (cQ c))]⟩)) (fun z=>z.1≤c.g.length∧z.2=vQ c i j++x5 i j (c.t.length+1)++zq i j z.1) (fun z=>c.g.length - z.1) (0,all) ⟨by simp,by rw[← bk];simp[zq]⟩ aX ?_
   clear bk ep
   rintro⟨n,all⟩ ⟨hn,bk⟩
   simp only at hn bk ⊢
   have ep:all.length≤109:=by rw[bk,List.length_append,List.length_append,NL,Xy];omega
   replace bk:=bk.symm
   refine .seq (.sr ?_)
   refine .cs ?_ ?_<;>intro tz
   ·try simp at tz
    have cR:IntKind.i64.wrap ((n:Int)+1)=((n+1:Nat):Int):=by rw[wrap64 (by omega) (by omega)];omega
    have ll:all.length+1≤4294967296:=by omega
    refine .skip (.seq (.block (.rn ?_)))
    refine .rn ?_
    refine⟨(n+1,all++[⟨5,i,j,n,0⟩]),⟨by omega,?_⟩,ba,(.mk [] [(2,4)] gH gY rfl rfl rfl)⟩
    rw[← bk,Xw,List.append_assoc]
   try simp at tz
   obtain rfl:n=c.g.length:=by omega
   have zr:pL c i j=all:=by rw[RP,bk]
   rw[zr]
   refine .exit (.sr ?_)
   refine .seq (.sr ?_)
   refine .block ?_
   refine .cZ (fun k:Nat=>([(2,.int .i64 j),(3,.ptr 0 0),(7,.grow 2 all.length true),(10,eL (rX c (all.take k))),(11,.int .i64 k)],⟨3,[(2,.grow 5 (all.map encS)),(0,.box (cQ c))]⟩)) (fun k=>k≤all.length) (fun k=>all.length - k) 0 (by simp) aX ?_
   rintro k ee
   simp only at ee ⊢
   refine .seq (.sr ?_)
   refine .cs ?_ ?_<;>intro qh
   ·try simp at qh
    have cR:IntKind.i64.wrap ((k:Int)+1)=((k+1:Nat):Int):=by rw[wrap64 (by omega) (by omega)];omega
    have dm:k<all.length:=by omega
    obtain⟨s,hs⟩:∃s,all[k]?=some s:=⟨_,List.getElem?_eq_getElem dm⟩
    have gq:all[k]=s:=(List.getElem?_eq_some_iff.1 hs).2
    have jK:=Xz c (all.take k) s
    have A6:all.take (k+1)=all.take k++[s]:=by rw[List.take_succ_eq_append_getElem dm,gq]
    have ji:=XA c (all.take k)
    rw[← A6] at jK
    rw[List.length_take] at ji
    have qw:s.i.toNat=j:=by
     have hm:s∈pL c i j:=by rw[zr];exact List.mem_of_getElem? hs
     exact XD hm
    obtain⟨O,hO⟩:∃O,rX c (all.take k)=O:=⟨_,rfl⟩
    rw[hO] at jK ji ⊢
    have dh:=dh s
    rw[hE] at dh
    have RR:=RS (sz:=5) (es:=all.map encS) (q:=k) (e:=encS s) (fun e he=>by obtain⟨x,_,rfl⟩:=List.mem_map.1 he;rfl) (by rw[List.getElem?_map,hs];rfl)
    obtain⟨w9,uQ⟩:=RR
    rw[List.length_flatMap,List.map_map] at uQ
    rw[hE] at w9
    simp only[PV.cells] at w9
    rcases hd:aM c s with _|⟨n,i',w⟩
    ·skip
     refine .skip (.seq (.block (.seq ?_)))
     refine .vK (ms:=[0,0,0,6,14,31,0,127]) (W:=[5,7]) (As:=[6]) (items:=tA) rfl ae ae ae ae (by decide) ?_
     iterate 5 refine .rf ?_
     refine .al rfl rfl (by decide) (by decide) (by decide) (by decide) iq ?_
     refine .wr rfl rfl (by decide) (.pure rfl rfl rfl call126 (by decide) (dh) (by first|rfl|simp[*]) ?_)
     intro _ e;rw[nz hd] at e;subst e;rw[if_neg (XB hd)] at jK
     refine .wr rfl rfl (by decide) (.dz iq (by decide) ?_)
     refine .done (.seq (.ar kS rfl ae ?_))
     refine .rn dQ _ ?_
     refine .pc rfl rfl rfl rfl rfl call159 ((oJ [] (by simp))) ?_
     refine .rn [5] [] ?_
     refine .done (.seq (.ar fR rfl ae ?_))
     refine .rn [0,1,2] _ ?_
     refine .split (t:=95) rfl (fun pM=>?_) (fun pM=>?_)
     ·try subst pM
      try simp at pM
     try subst pM
     try simp at pM
     refine .rn [3,4] [] ?_
     refine .done (.gI rfl (.skip (.rn ?_)))
     refine⟨k+1,ba,ba,?_⟩
     have vd:eL (rX c (all.take (k+1)))=eL O:=by rw[jK]
     simp only[vd]
     exact aX
    skip
    refine .skip (.seq (.block (.seq ?_)))
    refine .vK (ms:=[0,0,0,6,14,31,0,127]) (W:=[5,7]) (As:=[6]) (items:=tA) rfl ae ae ae ae (by decide) ?_
    iterate 5 refine .rf ?_
    refine .al rfl rfl (by decide) (by decide) (by decide) (by decide) iq ?_
    refine .wr rfl rfl (by decide) (.pure rfl rfl rfl call126 (by decide) (dh) (by first|rfl|simp[*]) ?_)
    intro _ e;rw[lK hd] at e;subst e;rw[XC hd,qw] at jK;obtain⟨hb,Fv⟩:∃b,hasB c j w=b:=⟨_,rfl⟩;have oJ:=oJ w (by have:=(nI aP hd).2.2.2.2.2;omega);rw[Fv] at oJ jK
    refine .wr rfl rfl (by decide) (.dz iq (by decide) ?_)
    refine .done (.seq (.ar kS rfl ae ?_))
    refine .rn dQ _ ?_
    refine .pc rfl rfl rfl rfl rfl call159 (oJ) ?_
    refine .rn [5] [] ?_
    refine .done (.seq (.ar fR rfl ae ?_))
    refine .rn [0,1,2] _ ?_
    refine .split (t:=95) rfl (fun pM=>?_) (fun pM=>?_)
    ·try subst pM
     try simp at pM
     refine .rn [3,4] [] ?_
     refine .done ?_
     refine .cs ?_ ?_<;>intro pC
     ·try simp at pC
      rw[if_pos pC] at jK
      have tu:=tu s
      have sB:=sB O s (by omega)
      rw[hE] at sB tu
      rcases Xu O with⟨RT,KE⟩|KE<;>simp only[KE]
      ·skip
       refine .ar gT rfl ae (.rn fR _ ?_)
       refine .pc rfl rfl rfl rfl rfl call93 (tu) ?_
       refine .rn [6] [] ?_
       refine .done (.rn ?_)
       refine⟨k+1,ba,ba,?_⟩
       have vd:eL (rX c (all.take (k+1)))=.vec [.agg [.int .i64 s.k,.int .i64 s.a,.int .i64 s.i,.int .i64 s.l,.int .i64 s.w]]:=by rw[jK,RT,← hE];rfl
       simp only[vd]
       exact aX
      skip
      refine .ar gT rfl ae (.rn fR _ ?_)
      refine .pc rfl rfl rfl rfl rfl call93 (sB) ?_
      refine .rn [6] [] ?_
      refine .done (.rn ?_)
      refine⟨k+1,ba,ba,?_⟩
      have vd:eL (rX c (all.take (k+1)))=.vec ((eC O s).map encS):=by rw[jK,RM (Xv O s)]
      simp only[vd]
      exact aX
     try simp at pC
     rw[if_neg (by rw[pC];simp)] at jK
     have vd:eL (rX c (all.take (k+1)))=eL O:=by rw[jK]
     refine .skip (.rn ?_)
     refine⟨k+1,ba,ba,?_⟩
     simp only[vd]
     exact aX
    try subst pM
    try simp at pM
   try simp at qh
   obtain rfl:k=all.length:=by omega
   rw[List.take_length] at *
   refine .exit (.sr ?_)
   refine .ret (ax ?_)
   exact zk
  try simp at nu
 ·
  have hAe:vQ c i j=[⟨2,i,j,0,0⟩]:=by unfold vQ;rw[if_neg eV];rfl
  refine .sr ?_
  refine .sr ?_
  refine .seq (.sr ?_)
  refine .cs ?_ ?_<;>intro nu
  ·try simp at nu
  try simp at nu
  refine .skip (.sr ?_)
  refine .seq (.sr ?_)
  refine .block ?_
  refine .cZ (fun z:Nat×List ak=>([(1,.int .i64 i),(2,.int .i64 j),(3,.ptr 0 0),(7,.grow 2 z.2.length true),(8,.int .i64 z.1)],⟨3,[(2,.grow 5 (z.2.map encS)),(0,.box (cQ c))]⟩)) (fun z=>z.1≤c.t.length+1∧z.2=vQ c i j++x5 i j z.1) (fun z=>c.t.length+1 - z.1) (0,vQ c i j) (by simp[x5]) aX ?_
  rintro⟨n,all⟩ ⟨hn,bk⟩
  simp only at hn bk ⊢
  have ep:all.length≤103:=by rw[bk,List.length_append,NL];omega
  replace bk:=bk.symm
  refine .seq (.sr ?_)
  refine .cs ?_ ?_<;>intro fV
  ·try simp at fV
   have cR:IntKind.i64.wrap ((n:Int)+1)=((n+1:Nat):Int):=by rw[wrap64 (by omega) (by omega)];omega
   have ll:all.length+2≤4294967296:=by omega
   refine .skip (.seq (.block (.rn ?_)))
   refine .rn ?_
   refine⟨(n+1,all++[⟨3,i,j,n,0⟩,⟨4,i,j,n,0⟩]),⟨by omega,?_⟩,ba,(.mk [] [(2,4)] gH gY rfl rfl rfl)⟩
   rw[← bk,RO,List.append_assoc]
  try simp at fV
  obtain rfl:n=c.t.length+1:=by omega
  refine .exit (.seq (.sr ?_))
  refine .block ?_
  refine .cZ (fun z:Nat×List ak=>([(1,.int .i64 i),(2,.int .i64 j),(3,.ptr 0 0),(7,.grow 2 z.2.length true),(9,.int .i64 z.1)],⟨3,[(2,.grow 5 (z.2.map encS)),(0,.box (cQ c))]⟩)) (fun z=>z.1≤c.g.length∧z.2=vQ c i j++x5 i j (c.t.length+1)++zq i j z.1) (fun z=>c.g.length - z.1) (0,all) ⟨by simp,by rw[← bk];simp[zq]⟩ aX ?_
  clear bk ep
  rintro⟨n,all⟩ ⟨hn,bk⟩
  simp only at hn bk ⊢
  have ep:all.length≤109:=by rw[bk,List.length_append,List.length_append,NL,Xy];omega
  replace bk:=bk.symm
  refine .seq (.sr ?_)
  refine .cs ?_ ?_<;>intro tz
  ·try simp at tz
   have cR:IntKind.i64.wrap ((n:Int)+1)=((n+1:Nat):Int):=by rw[wrap64 (by omega) (by omega)];omega
   have ll:all.length+1≤4294967296:=by omega
   refine .skip (.seq (.block (.rn ?_)))
   refine .rn ?_
   refine⟨(n+1,all++[⟨5,i,j,n,0⟩]),⟨by omega,?_⟩,ba,(.mk [] [(2,4)] gH gY rfl rfl rfl)⟩
   rw[← bk,Xw,List.append_assoc]
  try simp at tz
  obtain rfl:n=c.g.length:=by omega
  have zr:pL c i j=all:=by rw[RP,bk]
  rw[zr]
  refine .exit (.sr ?_)
  refine .seq (.sr ?_)
  refine .block ?_
  refine .cZ (fun k:Nat=>([(2,.int .i64 j),(3,.ptr 0 0),(7,.grow 2 all.length true),(10,eL (rX c (all.take k))),(11,.int .i64 k)],⟨3,[(2,.grow 5 (all.map encS)),(0,.box (cQ c))]⟩)) (fun k=>k≤all.length) (fun k=>all.length - k) 0 (by simp) aX ?_
  rintro k ee
  simp only at ee ⊢
  refine .seq (.sr ?_)
  refine .cs ?_ ?_<;>intro qh
  ·try simp at qh
   have cR:IntKind.i64.wrap ((k:Int)+1)=((k+1:Nat):Int):=by rw[wrap64 (by omega) (by omega)];omega
   have dm:k<all.length:=by omega
   obtain⟨s,hs⟩:∃s,all[k]?=some s:=⟨_,List.getElem?_eq_getElem dm⟩
   have gq:all[k]=s:=(List.getElem?_eq_some_iff.1 hs).2
   have jK:=Xz c (all.take k) s
   have A6:all.take (k+1)=all.take k++[s]:=by rw[List.take_succ_eq_append_getElem dm,gq]
   have ji:=XA c (all.take k)
   rw[← A6] at jK
   rw[List.length_take] at ji
   have qw:s.i.toNat=j:=by
    have hm:s∈pL c i j:=by rw[zr];exact List.mem_of_getElem? hs
    exact XD hm
   obtain⟨O,hO⟩:∃O,rX c (all.take k)=O:=⟨_,rfl⟩
   rw[hO] at jK ji ⊢
   have dh:=dh s
   rw[hE] at dh
   have RR:=RS (sz:=5) (es:=all.map encS) (q:=k) (e:=encS s) (fun e he=>by obtain⟨x,_,rfl⟩:=List.mem_map.1 he;rfl) (by rw[List.getElem?_map,hs];rfl)
   obtain⟨w9,uQ⟩:=RR
   rw[List.length_flatMap,List.map_map] at uQ
   rw[hE] at w9
   simp only[PV.cells] at w9
   rcases hd:aM c s with _|⟨n,i',w⟩
   ·skip
    refine .skip (.seq (.block (.seq ?_)))
    refine .vK (ms:=[0,0,0,6,14,31,0,127]) (W:=[5,7]) (As:=[6]) (items:=tA) rfl ae ae ae ae (by decide) ?_
    iterate 5 refine .rf ?_
    refine .al rfl rfl (by decide) (by decide) (by decide) (by decide) iq ?_
    refine .wr rfl rfl (by decide) (.pure rfl rfl rfl call126 (by decide) (dh) (by first|rfl|simp[*]) ?_)
    intro _ e;rw[nz hd] at e;subst e;rw[if_neg (XB hd)] at jK
    refine .wr rfl rfl (by decide) (.dz iq (by decide) ?_)
    refine .done (.seq (.ar kS rfl ae ?_))
    refine .rn dQ _ ?_
    refine .pc rfl rfl rfl rfl rfl call159 ((oJ [] (by simp))) ?_
    refine .rn [5] [] ?_
    refine .done (.seq (.ar fR rfl ae ?_))
    refine .rn [0,1,2] _ ?_
    refine .split (t:=95) rfl (fun pM=>?_) (fun pM=>?_)
    ·try subst pM
     try simp at pM
    try subst pM
    try simp at pM
    refine .rn [3,4] [] ?_
    refine .done (.gI rfl (.skip (.rn ?_)))
    refine⟨k+1,ba,ba,?_⟩
    have vd:eL (rX c (all.take (k+1)))=eL O:=by rw[jK]
    simp only[vd]
    exact aX
   skip
   refine .skip (.seq (.block (.seq ?_)))
   refine .vK (ms:=[0,0,0,6,14,31,0,127]) (W:=[5,7]) (As:=[6]) (items:=tA) rfl ae ae ae ae (by decide) ?_
   iterate 5 refine .rf ?_
   refine .al rfl rfl (by decide) (by decide) (by decide) (by decide) iq ?_
   refine .wr rfl rfl (by decide) (.pure rfl rfl rfl call126 (by decide) (dh) (by first|rfl|simp[*]) ?_)
   intro _ e;rw[lK hd] at e;subst e;rw[XC hd,qw] at jK;obtain⟨hb,Fv⟩:∃b,hasB c j w=b:=⟨_,rfl⟩;have oJ:=oJ w (by have:=(nI aP hd).2.2.2.2.2;omega);rw[Fv] at oJ jK
   refine .wr rfl rfl (by decide) (.dz iq (by decide) ?_)
   refine .done (.seq (.ar kS rfl ae ?_))
   refine .rn dQ _ ?_
   refine .pc rfl rfl rfl rfl rfl call159 (oJ) ?_
   refine .rn [5] [] ?_
   refine .done (.seq (.ar fR rfl ae ?_))
   refine .rn [0,1,2] _ ?_
   refine .split (t:=95) rfl (fun pM=>?_) (fun pM=>?_)
   ·try subst pM
    try simp at pM
    refine .rn [3,4] [] ?_
    refine .done ?_
    refine .cs ?_ ?_<;>intro pC
    ·try simp at pC
     rw[if_pos pC] at jK
     have tu:=tu s
     have sB:=sB O s (by omega)
     rw[hE] at sB tu
     rcases Xu O with⟨RT,KE⟩|KE<;>simp only[KE]
     ·skip
      refine .ar gT rfl ae (.rn fR _ ?_)
      refine .pc rfl rfl rfl rfl rfl call93 (tu) ?_
      refine .rn [6] [] ?_
      refine .done (.rn ?_)
      refine⟨k+1,ba,ba,?_⟩
      have vd:eL (rX c (all.take (k+1)))=.vec [.agg [.int .i64 s.k,.int .i64 s.a,.int .i64 s.i,.int .i64 s.l,.int .i64 s.w]]:=by rw[jK,RT,← hE];rfl
      simp only[vd]
      exact aX
     skip
     refine .ar gT rfl ae (.rn fR _ ?_)
     refine .pc rfl rfl rfl rfl rfl call93 (sB) ?_
     refine .rn [6] [] ?_
     refine .done (.rn ?_)
     refine⟨k+1,ba,ba,?_⟩
     have vd:eL (rX c (all.take (k+1)))=.vec ((eC O s).map encS):=by rw[jK,RM (Xv O s)]
     simp only[vd]
     exact aX
    try simp at pC
    rw[if_neg (by rw[pC];simp)] at jK
    have vd:eL (rX c (all.take (k+1)))=eL O:=by rw[jK]
    refine .skip (.rn ?_)
    refine⟨k+1,ba,ba,?_⟩
    simp only[vd]
    exact aX
   try subst pM
   try simp at pM
  try simp at qh
  obtain rfl:k=all.length:=by omega
  rw[List.take_length] at *
  refine .exit (.sr ?_)
  refine .ret (ax ?_)
  exact zk
end Go.Am.Sl
end
