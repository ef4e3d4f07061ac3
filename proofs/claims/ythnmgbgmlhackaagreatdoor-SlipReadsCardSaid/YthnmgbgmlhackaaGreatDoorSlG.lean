/-
 What is used in the proof of a statement (part SlG); no condition.
-/
import Derived.Test.YthnmgbgmlhackaaGreatDoorSlZ
import Derived.Test.YthnmgbgmlhackaaGreatDoorVm2
import Derived.Test.YthnmgbgmlhackaaGreatDoorSlT
import Derived.Test.YthnmgbgmlhackaaGreatDoorSlF
set_option linter.all false
set_option maxHeartbeats 40000000
set_option maxRecDepth 100000
section
namespace Go.Am.Sl
open Go Go.Am Go.Proofs Tryz
attribute [local simp] fZ jh tW eo jM pg ai.back dE ji nr bm Nat.testBit_eq_decide_div_mod_eq cN jL o9 vO sy kh sA jY dh qq qo ss ki su rp oz tU rm sv sg sd sh se sf sj sn pO gz lq fY sB qt rq sC sD pN tR tS kg pa iz gO iA nc jF qZ qe qf kL rY bp rl gN bZ cm nR ai.get ai.alloc ai.put ai.drop ai.empty bs dN jz kx gA cG chunk List.range List.range.loop ns tX oA bK cA PV.aH PV.aJ PV.dU PV.gM kQ kj ru PV.one PV.ids PV.di ia beq_eq vc xq
attribute [local simp] cQ bQ km tZ y1 ue uf sU jk gr
attribute [local simp ↓ high] xu vi
theorem Mo {c:ao}{j:Nat}{w:List Int}:hasB c j w=true↔j≤c.c.length∧∀m,m<w.length→j+m<c.c.length∧c.c[j+m]?=w[m]?:=by
 unfold hasB
 rw[bV,decide_eq_true_eq,decide_eq_true_eq]
 constructor
 ·rintro⟨h1,h2⟩
  refine⟨by omega,fun m hm=>⟨by omega,?_⟩⟩
  rw[← h2,List.getElem?_take_of_lt hm,List.getElem?_drop]
 rintro⟨h1,h2⟩
 have h3:j+w.length≤c.c.length:=by
  rcases Nat.eq_zero_or_pos w.length with h|h
  ·omega
  have:=(h2 (w.length - 1) (by omega)).1;omega
 refine⟨h3,List.ext_getElem? fun m=>?_⟩
 by_cases hm:m<w.length
 ·rw[List.getElem?_take_of_lt hm,List.getElem?_drop,(h2 m hm).2]
 rw[List.getElem?_eq_none (by rw[List.length_take];omega),List.getElem?_eq_none (by omega)]
theorem zxv {l:List jO}{i:Nat}(h:i<l.length)(f t:Int):eB (l.drop i) f t=if l[i].f=f∧l[i].t=t then some l[i].c else eB (l.drop (i+1)) f t:=by
 rw[List.drop_eq_getElem_cons h];rfl
section
variable [bG]
theorem qJ (n lo hi:Int):aN prog 99 [.int .i64 n,.int .i64 lo,.int .i64 hi] fun r=>r=.bool (decide (lo≤n)&&decide (n≤hi)):=by
 obtain⟨b,hb⟩:∃b,decide (lo≤n)=b:=⟨_,rfl⟩
 obtain⟨d,hd⟩:∃d,decide (n≤hi)=d:=⟨_,rfl⟩
 rw[hb,hd]
 refine .bP func99 rfl rfl ?_
 refine .sr ?_
 refine .seq (.au pQ rfl af (.rn dt _ ?_))
 refine .split (t:=10) rfl (fun fc=>?_) (fun fc=>?_)
 ·try subst fc
  try simp at fc
  refine .rn [4,5,6,7,8] [] ?_
  refine .done (.ret (aA ?_))
  exact zk
 try subst fc
 try simp at fc
 refine .rn [4,5,6,7,8] [] ?_
 refine .done (.ret (aA ?_))
 exact zk
theorem ze (n:Int):aN prog 161 [.int .i64 n] fun r=>r=.bool (fa n):=by
 refine .bP func161 rfl rfl ?_
 refine .sr ?_
 refine .seq (.au [0,1,2] rfl af (.rn [0] _ ?_))
 refine .pc rfl rfl rfl rfl rfl call99 (qJ _ _ _) ?_
 refine .rn [2] [] ?_
 refine .done (.ret (aA ?_))
 rfl
theorem Mp (c:ao)(f t:Int)(hl:c.mx.length≤4294967295):aN prog 160 [.agg [.int .i64 c.om,.int .i64 c.le,.int .i64 c.tw,.int .i64 c.gl,.int .i64 c.ad,.vec (c.mx.map bu)],.int .i64 f,.int .i64 t] fun r=>r=.int .i64 ((eB c.mx f t).getD 0):=by
 refine .bP func160 rfl rfl ?_
 refine .sr ?_
 refine .seq (.sr ?_)
 refine .block ?_
 refine .ec (fun i:Nat=>([(1,.int .i64 f),(2,.int .i64 t),(3,.ptr 0 0),(7,.int .i64 i)],⟨1,[(0,.box [.int .i64 c.om,.int .i64 c.le,.int .i64 c.tw,.int .i64 c.gl,.int .i64 c.ad,.vec (c.mx.map bu)])]⟩)) (fun i=>i≤c.mx.length∧eB c.mx f t=eB (c.mx.drop i) f t) (fun i=>c.mx.length - i) 0 ⟨by simp,by simp⟩ bT ?_
 rintro i ⟨hi,hx⟩
 simp only at hi hx ⊢
 refine .seq (.sr ?_)
 refine .cs ?_ ?_<;>intro oC
 ·try simp at oC
  have eO:=gD i
  have dx:i<c.mx.length:=by omega
  obtain⟨x,hxg⟩:∃x,c.mx[i]?=some x:=⟨_,List.getElem?_eq_getElem dx⟩
  have lL:c.mx[i]=x:=(List.getElem?_eq_some_iff.1 hxg).2
  rw[zxv dx,lL] at hx
  have hE:bu x=.agg [.int .i64 x.f,.int .i64 x.t,.int .i64 x.c]:=rfl
  obtain⟨e0,er⟩:∃b,(x.f==f)=b:=⟨_,rfl⟩
  obtain⟨e1,fG⟩:∃b,(x.t==t)=b:=⟨_,rfl⟩
  refine .skip (.seq (.block (.seq (.au kR rfl af (.rn pQ _ ?_)))))
  refine .split (t:=23) rfl (fun fm=>?_) (fun fm=>?_)
  ·try subst fm
   try simp at fm
   refine .rn [9,10,11,12,13,14,15,16,17] [] ?_
   refine .done ?_
   refine .cs ?_ ?_<;>intro eC
   ·try simp at eC
    subst eC
    have IP:x.f=f∧x.t=t:=⟨by simpa using er,by simpa using fG⟩
    rw[if_pos IP] at hx
    refine .sr ?_
    refine .ret (aA ?_)
    rw[hx];rfl
   try simp at eC
   refine .skip (.rn ?_)
   rw[if_neg (fun hh=>by rw[eC] at fG;simp[hh.2] at fG)] at hx
   exact⟨i+1,⟨bC,hx⟩,bC,bT⟩
  try subst fm
  try simp at fm
  refine .rn [9,10,11,12,13,14,15,16,17] [] ?_
  refine .done (.gn rfl (.skip (.rn ?_)))
  rw[if_neg (fun hh=>by simp[hh.1] at er)] at hx
  exact⟨i+1,⟨bC,hx⟩,bC,bT⟩
 try simp at oC
 obtain rfl:i=c.mx.length:=by omega
 rw[List.drop_length] at hx
 refine .exit (.sr ?_)
 refine .ret (aA ?_)
 rw[hx];rfl
theorem Mq (c:ao)(j:Nat)(w:List Int)(hj:j≤100)(hl:w.length≤100)(hc:c.c.length≤100):aN prog 159 [aD c,.int .i64 j,eW w] fun r=>r=.bool (hasB c j w):=by
 have hC:cw c=(cQ c):=rfl
 unfold aD
 rw[hC]
 refine .bP func159 rfl rfl ?_
 rcases IF w with⟨rfl,hw⟩|hw
 ·
  rw[hw]
  refine .sr ?_
  refine .seq (.sr ?_)
  refine .block ?_
  refine .ec (fun k:Nat=>([(1,.int .i64 j),(2,.aG),(3,.ptr 0 0),(7,.int .i64 k)],⟨1,[(0,.box (cQ c))]⟩)) (fun k=>k=0) (fun k=>0) 0 rfl bT ?_
  rintro k hk
  simp only at hk ⊢
  refine .seq (.sr ?_)
  refine .cs ?_ ?_<;>intro jq
  ·try simp at jq
  try simp at jq
  refine .exit (.sr ?_)
  refine .ret (aA ?_)
  subst hk;simp[hasB]
 ·
  rw[hw]
  refine .sr ?_
  refine .seq (.sr ?_)
  refine .block ?_
  refine .ec (fun k:Nat=>([(1,.int .i64 j),(2,ints w),(3,.ptr 0 0),(7,.int .i64 k)],⟨1,[(0,.box (cQ c))]⟩)) (fun k=>k≤w.length∧∀m,m<k→j+m<c.c.length∧c.c[j+m]?=w[m]?) (fun k=>w.length - k) 0 ⟨by simp,fun m h=>absurd h (Nat.not_lt_zero m)⟩ bT ?_
  rintro k hk
  simp only at hk ⊢
  refine .seq (.sr ?_)
  refine .cs ?_ ?_<;>intro jq
  ·try simp at jq
   obtain⟨hk,hm⟩:=hk
   have eO:=gD k
   have rB:IntKind.i64.wrap ((j:Int)+(k:Int))=(j:Int)+(k:Int):=wrap64 (by omega) (by omega)
   have gP:k<w.length:=by omega
   obtain⟨e0,er⟩:∃b,decide ((c.c.length:Int)≤(j:Int)+(k:Int))=b:=⟨_,rfl⟩
   obtain⟨wv,Mr⟩:∃v,w[k]?=some v:=⟨_,List.getElem?_eq_getElem gP⟩
   have hwe:w[k]=wv:=(List.getElem?_eq_some_iff.1 Mr).2
   refine .skip (.seq (.block (.seq ?_)))
   refine .drawn (ms:=[0,0,3,0,8,24,63,127,255,511,255,255,3327,8191,16383,255,255,98559,229631,524287,1048575]) (W:=[]) (items:=[.op 0,.op 1,.op 2,.op 3,.op 4,.op 5,.op 6,.op 7,.op 8,.op 9,.op 10,.op 11,.op 12,.op 13,.op 14,.op 15,.op 16,.op 17,.op 18,.op 19,.op 20]) rfl af af af ?_
   iterate 8 refine .rx ?_
   refine .split (t:=21) rfl (fun dz=>?_) (fun dz=>?_)
   ·try subst dz
    try simp at dz
    have hb:¬j+k<c.c.length:=by simp at er;omega
    have hF:hasB c j w=false:=by
     rw[Bool.eq_false_iff];intro hh
     exact hb ((Mo.1 hh).2 k gP).1
    iterate 12 refine .ux ?_
    refine .rx ?_
    refine .done (.ep rfl (.sr ?_))
    refine .ret (aA ?_)
    simp[hF]
   try subst dz
   try simp at dz
   have hb:j+k<c.c.length:=by simp at er;omega
   have hq:0≤(j:Int)+(k:Int)∧(j:Int)+(k:Int)<(c.c.length:Int):=by omega
   have hqn:((j:Int)+(k:Int)).toNat=j+k:=by omega
   obtain⟨cv,gq⟩:∃v,c.c[j+k]?=some v:=⟨_,List.getElem?_eq_getElem hb⟩
   have hP:c.c[j+k]=cv:=(List.getElem?_eq_some_iff.1 gq).2
   iterate 13 refine .rx ?_
   refine .done ?_
   refine .cs ?_ ?_<;>intro pr
   ·try simp at pr
    have hF:hasB c j w=false:=by
     rw[Bool.eq_false_iff];intro hh
     have:=((Mo.1 hh).2 k gP).2
     rw[gq,Mr] at this
     injection this with this
     exact pr this
    refine .sr ?_
    refine .ret (aA ?_)
    simp[hF]
   try simp at pr
   have heq:cv=wv:=pr
   refine .skip (.rn ?_)
   refine⟨k+1,⟨bC,fun m gC=>?_⟩,bC,bT⟩
   rcases Nat.lt_or_ge m k with h|h
   ·exact hm m h
   obtain rfl:m=k:=by omega
   exact⟨hb,by rw[gq,Mr,heq]⟩
  try simp at jq
  obtain⟨hk,hm⟩:=hk
  obtain rfl:k=w.length:=by omega
  have hF:hasB c j w=decide (j≤c.c.length):=by
   rw[Bool.eq_iff_iff,Mo,decide_eq_true_eq]
   exact⟨fun hh=>hh.1,fun hh=>⟨hh,hm⟩⟩
  refine .exit (.sr ?_)
  refine .ret (aA ?_)
  simp[hF]
end
def iV (s:aq)(w:List Int):Int:=if w=[] then s.i else IntKind.i64.wrap (s.i+w.length)
theorem Rx {s:aq}{w:List Int}(h:w≠[]):iV s w=IntKind.i64.wrap (s.i+w.length):=if_neg h
def Cv (c:ao)(s:aq):PV:=match aK c s with
 |some (n,i',w)=>.agg [.int .i64 i',.int .i64 (iV s w),.int .i64 n,eW w,.bool true]
 |none=>.agg [.int .i64 0,.int .i64 0,.int .i64 0,.aG,.bool false]
theorem ig {c:ao}{s:aq}{n:Int}{i':Nat}{w:List Int}(h:aK c s=some (n,i',w)):Cv c s=.agg [.int .i64 i',.int .i64 (iV s w),.int .i64 n,eW w,.bool true]:=by unfold Cv;rw[h]
theorem j5 {c:ao}{s:aq}(h:aK c s=none):Cv c s=.agg [.int .i64 0,.int .i64 0,.int .i64 0,.aG,.bool false]:=by unfold Cv;rw[h]
theorem xbl {c:ao}{a i:Nat}{l w:Int}(h:a≤c.t.length):aK c ⟨1,a,i,l,w⟩=if a<c.t.length∧l=0 then (eB c.mx (c.t.getD a 0) w).map fun n=>(n,a+1,[w]) else none:=by
 unfold aK;rw[if_pos (by simp only;omega)];simp
theorem xc6 {c:ao}{a i:Nat}{l w:Int}(h:a≤c.t.length):aK c ⟨2,a,i,l,w⟩=if a<c.t.length∧l=0∧w=0 then some (c.om,a+1,[]) else none:=by
 unfold aK;rw[if_pos (by simp only;omega)];simp
theorem xcy {c:ao}{a i:Nat}{l w:Int}(h:a≤c.t.length):aK c ⟨3,a,i,l,w⟩=if 1≤a∧1≤l∧l≤(c.t.length:Int) - a∧w=0∧c.t.getD (a+l.toNat - 1) 0=c.t.getD (a - 1) 0 then some (c.le,a+l.toNat,[]) else none:=by
 unfold aK;rw[if_pos (by simp only;omega)];simp
theorem xbr {c:ao}{a i:Nat}{l w:Int}(h:a≤c.t.length):aK c ⟨4,a,i,l,w⟩=if 1≤l∧l≤(a:Int)∧w=0 then some (c.tw,a,(c.t.drop (a - l.toNat)).take l.toNat) else none:=by
 unfold aK;rw[if_pos (by simp only;omega)];simp
theorem xc2 {c:ao}{a i:Nat}{l w:Int}(h:a≤c.t.length):aK c ⟨5,a,i,l,w⟩=if 0≤l∧l≤(c.g.length:Int) - 1∧w=0∧(c.g.getD l.toNat ⟨0,[]⟩).at_=a then some (c.gl,a,(c.g.getD l.toNat ⟨0,[]⟩).ws) else none:=by
 unfold aK;rw[if_pos (by simp only;omega)];simp
theorem xbd {c:ao}{a i:Nat}{l w:Int}(h:a≤c.t.length):aK c ⟨6,a,i,l,w⟩=if fa w=true∧l=0 then some (c.ad,a,[w]) else none:=by
 unfold aK;rw[if_pos (by simp only;omega)];simp
theorem xa6 {c:ao}{s:aq}(h1:s.k≠1)(h2:s.k≠2)(h3:s.k≠3)(h4:s.k≠4)(h5:s.k≠5)(h6:s.k≠6):aK c s=none:=by
 unfold aK;split
 ·simp[h1,h2,h3,h4,h5,h6]
 rfl
variable [bG] in
theorem zf (c:ao)(s:aq)(hk:bf c=0):aN prog 126 [aD c,encS s] fun r=>r=Cv c s:=by
 have bj:=iC hk
 have oB:=bj.tl
 have K2:=bj.K3
 have pS:=bj.sH
 have hC:cw c=(cQ c):=rfl
 obtain⟨sk,sa,si,sl,sw⟩:=s
 have hE:encS ⟨sk,sa,si,sl,sw⟩=.agg [.int .i64 sk,.int .i64 sa,.int .i64 si,.int .i64 sl,.int .i64 sw]:=rfl
 have zg:=fun f t=>Mp c f t (by omega)
 unfold aD
 rw[hE,hC]
 refine .bP func126 rfl rfl ?_
 by_cases dm:0≤sa∧sa≤(c.t.length:Int)∧0≤si
 ·
  obtain⟨a,rfl⟩:∃a:Nat,sa=a:=⟨sa.toNat,by omega⟩
  obtain⟨i,rfl⟩:∃i:Nat,si=i:=⟨si.toNat,by omega⟩
  have eG:a≤c.t.length:=by omega
  have oJ:=qJ (a:Int) 0 (c.t.length:Int)
  have np:IntKind.i64.wrap ((a:Int)+1)=((a+1:Nat):Int):=by rw[wrap64 (by omega) (by omega)];omega
  have D1:=fun l w=>@xbl c a i l w eG
  have D2:=fun l w=>@xc6 c a i l w eG
  have D3:=fun l w=>@xcy c a i l w eG
  have D4:=fun l w=>@xbr c a i l w eG
  have D5:=fun l w=>@xc2 c a i l w eG
  have D6:=fun l w=>@xbd c a i l w eG
  obtain⟨en,IQ⟩:∃b,((a:Int)==(c.t.length:Int))=b:=⟨_,rfl⟩
  obtain⟨el,lf⟩:∃b,(sl != 0)=b:=⟨_,rfl⟩
  obtain⟨ew,IS⟩:∃b,(sw != 0)=b:=⟨_,rfl⟩
  obtain⟨ez,IT⟩:∃b,((a:Int)==0)=b:=⟨_,rfl⟩
  have bW:el=true→¬sl=0:=fun h hh=>by rw[h] at lf;simp[hh] at lf
  have IU:ew=true→¬sw=0:=fun h hh=>by rw[h] at IS;simp[hh] at IS
  have Ry:en=true→¬a<c.t.length:=fun h hh=>by rw[h] at IQ;simp at IQ;omega
  have haz:ez=true→¬1≤a:=fun h hh=>by rw[h] at IT;simp at IT;omega
  have sq:el=false→sl=0:=fun h=>by rw[h] at lf;simpa using lf
  have zh:ew=false→sw=0:=fun h=>by rw[h] at IS;simpa using IS
  have Gu:en=false→a<c.t.length:=fun h=>by rw[h] at IQ;simp at IQ;omega
  have Ms:ez=false→1≤a:=fun h=>by rw[h] at IT;simp at IT;omega
  refine .sr ?_
  refine .sr ?_
  refine .sr ?_
  refine .sr ?_
  refine .sr ?_
  refine .seq (.au dt rfl af (.rn [0,1] _ ?_))
  refine .pc rfl rfl rfl rfl rfl call99 (oJ) ?_
  refine .rn [3] [] ?_
  refine .done (.seq (.seq (.au iB rfl af ?_)))
  refine .rn [0,1,2] _ ?_
  refine .split (t:=28) rfl (fun jr=>?_) (fun jr=>?_)
  ·try subst jr
   try simp at jr
  try subst jr
  try simp at jr
  refine .rn [3,4,5] [] ?_
  refine .done ?_
  refine .cs ?_ ?_<;>intro n4
  ·try simp at n4
   exfalso;omega
  try simp at n4
  refine .skip (.seq (.sr ?_))
  refine .block (.sr ?_)
  refine .cs ?_ ?_<;>intro zd
  ·try simp at zd
   subst zd
   have hD:=D1 sl sw
   refine .seq (.seq (.au lV rfl af (.rn dt _ ?_)))
   refine .split (t:=40) rfl (fun mw=>?_) (fun mw=>?_)
   ·try subst mw
    try simp at mw
    rw[if_neg (fun hh=>Ry rfl hh.1)] at hD
    refine .rn [4,5,6,7] [] ?_
    refine .done (.ep rfl (.sr ?_))
    refine .ret (aA ?_)
    first|(rw[et];done)|(rw[et];first|rfl|(simp;done))|(rw[j5 hD];done)|(rw[ig hD];first|rfl|(simp[ints,eW,iV];done))
   try subst mw
   try simp at mw
   have iw:=Gu rfl
   obtain⟨tv,nV⟩:∃v,c.t[a]?=some v:=⟨_,List.getElem?_eq_getElem iw⟩
   have jv:c.t[a]=tv:=(List.getElem?_eq_some_iff.1 nV).2
   have Gv:c.t.getD a 0=tv:=by rw[List.getD_eq_getElem?_getD,nV];rfl
   rw[Gv] at hD
   have zg:=zg tv sw
   obtain⟨mv,AI⟩:∃m,(eB c.mx tv sw).getD 0=m:=⟨_,rfl⟩
   rw[AI] at zg
   refine .rn [4,5,6,7] [] ?_
   refine .done ?_
   refine .cs ?_ ?_<;>intro sR
   ·try simp at sR
    rw[if_neg (fun hh=>bW sR hh.2)] at hD
    refine .sr ?_
    refine .ret (aA ?_)
    first|(rw[et];done)|(rw[et];first|rfl|(simp;done))|(rw[j5 hD];done)|(rw[ig hD];first|rfl|(simp[ints,eW,iV];done))
   try simp at sR
   rw[if_pos ⟨iw,sq sR⟩] at hD
   refine .skip (.seq ?_)
   refine .drawn (ms:=[0,1,0,4,0,28,60,0,128,511,1023]) (W:=[9]) (items:=zb) rfl af af af ?_
   iterate 9 refine .rx ?_
   refine .wp rfl rfl rfl rfl rfl call160 (zg) ?_
   refine .rx ?_
   refine .done (.seq (.sr ?_))
   refine .cs ?_ ?_<;>intro Mt
   ·try simp at Mt
    have mF:eB c.mx tv sw=none:=by
     cases hm:eB c.mx tv sw with
     |none=>rfl
     |some n=>
      obtain⟨x,hx,_,_,hxc⟩:=Mv hm
      have:=(bj.Rz x hx).1
      rw[hm] at AI
      simp at AI
      omega
    rw[mF] at hD
    refine .sr ?_
    refine .ret (aA ?_)
    first|(rw[et];done)|(rw[et];first|rfl|(simp;done))|(rw[j5 hD];done)|(rw[ig hD];first|rfl|(simp[ints,eW,iV];done))
   try simp at Mt
   obtain⟨n,mF⟩:∃n,eB c.mx tv sw=some n:=by
    cases hm:eB c.mx tv sw with
    |none=>rw[hm] at AI;exact absurd AI.symm Mt
    |some n=>exact⟨n,rfl⟩
   rw[mF] at hD AI
   simp only[Option.getD_some] at AI
   subst AI
   refine .skip (.sr ?_)
   refine .ret (aA ?_)
   first|(rw[et];done)|(rw[et];first|rfl|(simp;done))|(rw[j5 hD];done)|(rw[ig hD];first|rfl|(simp[ints,eW,iV];done))
  try simp at zd
  refine .sr ?_
  refine .cs ?_ ?_<;>intro xz
  ·try simp at xz
   subst xz
   have hD:=D2 sl sw
   refine .seq (.seq (.au gb rfl af (.rn dt _ ?_)))
   refine .split (t:=74) rfl (fun lr=>?_) (fun lr=>?_)
   ·try subst lr
    try simp at lr
    rw[if_neg (fun hh=>Ry rfl hh.1)] at hD
    refine .rn [4,5,6,7,8,9,10,11,12] [] ?_
    refine .done (.ep rfl (.sr ?_))
    refine .ret (aA ?_)
    first|(rw[et];done)|(rw[et];first|rfl|(simp;done))|(rw[j5 hD];done)|(rw[ig hD];first|rfl|(simp[ints,eW,iV];done))
   try subst lr
   try simp at lr
   refine .rn [4,5,6,7,8] _ ?_
   refine .split (t:=79) rfl (fun pV=>?_) (fun pV=>?_)
   ·try subst pV
    try simp at pV
    rw[if_neg (fun hh=>bW rfl hh.2.1)] at hD
    refine .rn [9,10,11,12] [] ?_
    refine .done (.ep rfl (.sr ?_))
    refine .ret (aA ?_)
    first|(rw[et];done)|(rw[et];first|rfl|(simp;done))|(rw[j5 hD];done)|(rw[ig hD];first|rfl|(simp[ints,eW,iV];done))
   try subst pV
   try simp at pV
   refine .rn [9,10,11,12] [] ?_
   refine .done ?_
   refine .cs ?_ ?_<;>intro IV
   ·try simp at IV
    rw[if_neg (fun hh=>IU IV hh.2.2)] at hD
    refine .sr ?_
    refine .ret (aA ?_)
    first|(rw[et];done)|(rw[et];first|rfl|(simp;done))|(rw[j5 hD];done)|(rw[ig hD];first|rfl|(simp[ints,eW,iV];done))
   try simp at IV
   rw[if_pos ⟨Gu rfl,sq rfl,zh IV⟩] at hD
   refine .skip (.sr ?_)
   refine .ret (aA ?_)
   first|(rw[et];done)|(rw[et];first|rfl|(simp;done))|(rw[j5 hD];done)|(rw[ig hD];first|rfl|(simp[ints,eW,iV];done))
  try simp at xz
  refine .sr ?_
  refine .cs ?_ ?_<;>intro IW
  ·try simp at IW
   subst IW
   have hD:=D3 sl sw
   have mn:IntKind.i64.wrap ((c.t.length:Int) - (a:Int))=(c.t.length:Int) - (a:Int):=wrap64 (by omega) (by omega)
   have l5:=qJ sl 1 ((c.t.length:Int) - (a:Int))
   obtain⟨wi,dW⟩:∃b,(decide (1≤sl)&&decide (sl≤(c.t.length:Int) - (a:Int)))=b:=⟨_,rfl⟩
   rw[dW] at l5
   refine .seq (.seq (.au gE rfl af (.rn [0,1,2] _ ?_)))
   refine .split (t:=97) rfl (fun nu=>?_) (fun nu=>?_)
   ·try subst nu
    try simp at nu
    rw[if_neg (fun hh=>haz rfl hh.1)] at hD
    refine .rn [3,4,5,6] [] ?_
    refine .done (.ep rfl (.sr ?_))
    refine .ret (aA ?_)
    first|(rw[et];done)|(rw[et];first|rfl|(simp;done))|(rw[j5 hD];done)|(rw[ig hD];first|rfl|(simp[ints,eW,iV];done))
   try subst nu
   try simp at nu
   refine .rn [3,4,5,6] [] ?_
   refine .done ?_
   refine .cs ?_ ?_<;>intro qI
   ·try simp at qI
    rw[if_neg (fun hh=>IU qI hh.2.2.2.1)] at hD
    refine .sr ?_
    refine .ret (aA ?_)
    first|(rw[et];done)|(rw[et];first|rfl|(simp;done))|(rw[j5 hD];done)|(rw[ig hD];first|rfl|(simp[ints,eW,iV];done))
   try simp at qI
   have ha1:=Ms rfl
   refine .skip (.seq (.au gE rfl af (.rn fe _ ?_)))
   refine .step rfl rfl (.pure rfl rfl rfl call99 (by decide) (l5) (by first|rfl|simp[*]) ?_)
   rintro _ rfl;obtain⟨nw,Bp⟩:∃b,(!wi)=b:=⟨_,rfl⟩
   refine .rn [6] [] ?_
   refine .done (.seq (.seq ?_))
   refine .drawn (ms:=[0,1,3,7,15,7,7,71,231,487,1023,2047,7,4103,7,16391,61447,126983,262143,524287]) (W:=[]) (items:=Fo) rfl af af af ?_
   iterate 3 refine .rx ?_
   refine .split (t:=111) rfl (fun vS=>?_) (fun vS=>?_)
   ·try subst vS
    try simp at vS
    have l6:wi=false:=by simpa using Bp
    rw[if_neg (fun hh=>by rw[l6] at dW;simp[hh.2.1,hh.2.2.1] at dW)] at hD
    iterate 16 refine .ux ?_
    refine .rx ?_
    refine .done (.ep rfl (.sr ?_))
    refine .ret (aA ?_)
    first|(rw[et];done)|(rw[et];first|rfl|(simp;done))|(rw[j5 hD];done)|(rw[ig hD];first|rfl|(simp[ints,eW,iV];done))
   try subst vS
   try simp at vS
   have l6:wi=true:=by simpa using Bp
   have uS:1≤sl∧sl≤(c.t.length:Int) - (a:Int):=by rw[l6] at dW;simpa using dW
   obtain⟨l,rfl⟩:∃l:Nat,sl=l:=⟨sl.toNat,by omega⟩
   have BT:IntKind.i64.wrap ((a:Int)+(l:Int))=(a:Int)+(l:Int):=wrap64 (by omega) (by omega)
   obtain⟨p,hp⟩:∃p:Nat,a+l - 1=p:=⟨_,rfl⟩
   obtain⟨q,hq⟩:∃q:Nat,a - 1=q:=⟨_,rfl⟩
   have rK:IntKind.i64.wrap ((a:Int)+(l:Int) - 1)=(p:Int):=by rw[wrap64 (by omega) (by omega)];omega
   have Hu:IntKind.i64.wrap ((a:Int) - 1)=(q:Int):=by rw[wrap64 (by omega) (by omega)];omega
   have il:p<c.t.length:=by omega
   have hql:q<c.t.length:=by omega
   obtain⟨v1,iP⟩:∃v,c.t[p]?=some v:=⟨_,List.getElem?_eq_getElem il⟩
   obtain⟨v2,eT⟩:∃v,c.t[q]?=some v:=⟨_,List.getElem?_eq_getElem hql⟩
   have zi:c.t[p]=v1:=(List.getElem?_eq_some_iff.1 iP).2
   have zj:c.t[q]=v2:=(List.getElem?_eq_some_iff.1 eT).2
   have e1:c.t.getD p 0=v1:=by rw[List.getD_eq_getElem?_getD,iP];rfl
   have e2:c.t.getD q 0=v2:=by rw[List.getD_eq_getElem?_getD,eT];rfl
   rw[Int.toNat_natCast,hp,hq,e1,e2] at hD
   iterate 17 refine .rx ?_
   refine .done ?_
   refine .cs ?_ ?_<;>intro zl
   ·try simp at zl
    rw[if_neg (fun hh=>zl hh.2.2.2.2)] at hD
    refine .sr ?_
    refine .ret (aA ?_)
    first|(rw[et];done)|(rw[et];first|rfl|(simp;done))|(rw[j5 hD];done)|(rw[ig hD];first|rfl|(simp[ints,eW,iV];done))
   try simp at zl
   rw[if_pos ⟨ha1,uS.1,uS.2,zh qI,zl⟩] at hD
   refine .skip (.sr ?_)
   refine .ret (aA ?_)
   first|(rw[et];done)|(rw[et];first|rfl|(simp;done))|(rw[j5 hD];done)|(rw[ig hD];first|rfl|(simp[ints,eW,iV];done))
  try simp at IW
  refine .sr ?_
  refine .cs ?_ ?_<;>intro zm
  ·try simp at zm
   subst zm
   have hD:=D4 sl sw
   have l5:=qJ sl 1 (a:Int)
   obtain⟨wi,dW⟩:∃b,(decide (1≤sl)&&decide (sl≤(a:Int)))=b:=⟨_,rfl⟩
   rw[dW] at l5
   refine .seq (.au fe rfl af (.rn [0,1,2] _ ?_))
   refine .pc rfl rfl rfl rfl rfl call99 (l5) ?_
   refine .rn [4] [] ?_
   refine .done (.seq (.seq (.au gE rfl af ?_)))
   refine .rn [0,1,2] _ ?_
   refine .split (t:=148) rfl (fun qK=>?_) (fun qK=>?_)
   ·try subst qK
    try simp at qK
    have l6:wi=false:=by simpa using qK
    rw[if_neg (fun hh=>by rw[l6] at dW;simp[hh.1,hh.2.1] at dW)] at hD
    refine .rn [3,4,5,6] [] ?_
    refine .done (.ep rfl (.sr ?_))
    refine .ret (aA ?_)
    first|(rw[et];done)|(rw[et];first|rfl|(simp;done))|(rw[j5 hD];done)|(rw[ig hD];first|rfl|(simp[ints,eW,iV];done))
   try subst qK
   try simp at qK
   have l6:wi=true:=by simpa using qK
   have uS:1≤sl∧sl≤(a:Int):=by rw[l6] at dW;simpa using dW
   obtain⟨l,rfl⟩:∃l:Nat,sl=l:=⟨sl.toNat,by omega⟩
   obtain⟨p,hp⟩:∃p:Nat,a - l=p:=⟨_,rfl⟩
   have BT:IntKind.i64.wrap ((a:Int) - (l:Int))=(p:Int):=by rw[wrap64 (by omega) (by omega)];omega
   have hpa:a - p=l:=by omega
   have il:p≤a:=by omega
   rw[Int.toNat_natCast,hp] at hD
   obtain⟨W,hW⟩:∃W,(c.t.drop p).take l=W:=⟨_,rfl⟩
   have DA:W.length=l:=by rw[← hW,List.length_take,List.length_drop];omega
   have HZ:List.take l (List.drop p (c.t.map (PV.int .i64)))=W.map (PV.int .i64):=by rw[← hW,List.map_take,List.map_drop]
   have qu:W≠[]:=fun h=>by rw[h] at DA;simp at DA;omega
   have Mw:eW W=ints W:=Fh qu
   have Mx:iV ⟨4,a,i,l,sw⟩ W=IntKind.i64.wrap ((i:Int)+(l:Int)):=by rw[Rx qu,DA]
   rw[hW] at hD
   clear hW
   refine .rn [3,4,5,6] [] ?_
   refine .done ?_
   refine .cs ?_ ?_<;>intro zn
   ·try simp at zn
    rw[if_neg (fun hh=>IU zn hh.2.2)] at hD
    refine .sr ?_
    refine .ret (aA ?_)
    first|(rw[et];done)|(rw[et];first|rfl|(simp;done))|(rw[j5 hD];done)|(rw[ig hD];first|rfl|(simp[ints,eW,iV];done))
   try simp at zn
   rw[if_pos ⟨uS.1,uS.2,zh zn⟩] at hD
   have et:=ig hD
   rw[Mw,Mx] at et
   refine .skip (.seq ?_)
   refine .drawn (ms:=[0,0,0,4,14,31,0,64,192,0,512,0,0,4096,14336,0,65024,131071,262143]) (W:=[18]) (items:=[.op 0,.op 1,.op 2,.op 3,.op 4,.op 5,.op 6,.op 7,.op 8,.op 9,.op 10,.op 11,.op 12,.op 13,.op 14,.op 15,.op 16,.op 17,.op 18]) rfl af af af ?_
   iterate 18 refine .rx ?_
   refine .wv ?_
   refine .done (.ret (aA ?_))
   first|(rw[et];done)|(rw[et];first|rfl|(simp;done))|(rw[j5 hD];done)|(rw[ig hD];first|rfl|(simp[ints,eW,iV];done))
  try simp at zm
  refine .sr ?_
  refine .cs ?_ ?_<;>intro zo
  ·try simp at zo
   subst zo
   have hD:=D5 sl sw
   have mn:IntKind.i64.wrap ((c.g.length:Int) - 1)=(c.g.length:Int) - 1:=wrap64 (by omega) (by omega)
   have l5:=qJ sl 0 ((c.g.length:Int) - 1)
   obtain⟨wi,dW⟩:∃b,(decide (0≤sl)&&decide (sl≤(c.g.length:Int) - 1))=b:=⟨_,rfl⟩
   rw[dW] at l5
   refine .seq (.au lV rfl af (.rn iB _ ?_))
   refine .pc rfl rfl rfl rfl rfl call99 (l5) ?_
   refine .rn [7] [] ?_
   refine .done (.seq (.seq (.au kR rfl af ?_)))
   refine .rn [0,1,2] _ ?_
   refine .split (t:=183) rfl (fun qL=>?_) (fun qL=>?_)
   ·try subst qL
    try simp at qL
    have l6:wi=false:=by simpa using qL
    rw[if_neg (fun hh=>by rw[l6] at dW;simp[hh.1,hh.2.1] at dW)] at hD
    refine .rn [3,4,5,6,7,8,9,10,11,12,13,14,15,16,17] [] ?_
    refine .done (.ep rfl (.sr ?_))
    refine .ret (aA ?_)
    first|(rw[et];done)|(rw[et];first|rfl|(simp;done))|(rw[j5 hD];done)|(rw[ig hD];first|rfl|(simp[ints,eW,iV];done))
   try subst qL
   try simp at qL
   have l6:wi=true:=by simpa using qL
   have uS:0≤sl∧sl≤(c.g.length:Int) - 1:=by rw[l6] at dW;simpa using dW
   obtain⟨l,rfl⟩:∃l:Nat,sl=l:=⟨sl.toNat,by omega⟩
   have da:l<c.g.length:=by omega
   obtain⟨y,hy⟩:∃y,c.g[l]?=some y:=⟨_,List.getElem?_eq_getElem da⟩
   have zp:c.g[l]=y:=(List.getElem?_eq_some_iff.1 hy).2
   have hyd:c.g.getD l ⟨0,[]⟩=y:=by rw[List.getD_eq_getElem?_getD,hy];rfl
   have RA:=bj.Ij y (List.mem_of_getElem? hy)
   have hG:cn y=.agg [.int .i64 y.at_,ints y.ws]:=rfl
   rw[Int.toNat_natCast,hyd] at hD
   have hyl:=RA.2.2.1
   have RB:=RA.2.1
   have qu:y.ws≠[]:=fun h=>by rw[h] at RB;simp at RB
   have Mw:eW y.ws=ints y.ws:=Fh qu
   have Mx:iV ⟨5,a,i,l,sw⟩ y.ws=IntKind.i64.wrap ((i:Int)+(y.ws.length:Int)):=Rx qu
   refine .rn [3,4,5,6,7] _ ?_
   refine .split (t:=188) rfl (fun vT=>?_) (fun vT=>?_)
   ·try subst vT
    try simp at vT
    rw[if_neg (fun hh=>IU rfl hh.2.2.1)] at hD
    refine .rn [8,9,10,11,12,13,14,15,16,17] [] ?_
    refine .done (.ep rfl (.sr ?_))
    refine .ret (aA ?_)
    first|(rw[et];done)|(rw[et];first|rfl|(simp;done))|(rw[j5 hD];done)|(rw[ig hD];first|rfl|(simp[ints,eW,iV];done))
   try subst vT
   try simp at vT
   refine .rn [8,9,10,11,12,13,14,15,16,17] [] ?_
   refine .done ?_
   refine .cs ?_ ?_<;>intro zq
   ·try simp at zq
    rw[if_neg (fun hh=>zq hh.2.2.2)] at hD
    refine .sr ?_
    refine .ret (aA ?_)
    first|(rw[et];done)|(rw[et];first|rfl|(simp;done))|(rw[j5 hD];done)|(rw[ig hD];first|rfl|(simp[ints,eW,iV];done))
   try simp at zq
   rw[if_pos ⟨uS.1,uS.2,zh rfl,zq⟩] at hD
   have et:=ig hD
   rw[Mw,Mx] at et
   refine .skip (.seq ?_)
   refine .drawn (ms:=[0,0,0,4,0,16,60,124,252,508,1022,2047,0,4096,12288,0,32768,0,131072,491520,1015808,2064384,4194303,8388607]) (W:=[23]) (items:=PS) rfl af af af ?_
   iterate 23 refine .rx ?_
   refine .wv ?_
   refine .done (.ret (aA ?_))
   first|(rw[et];done)|(rw[et];first|rfl|(simp;done))|(rw[j5 hD];done)|(rw[ig hD];first|rfl|(simp[ints,eW,iV];done))
  try simp at zo
  refine .sr ?_
  refine .cs ?_ ?_<;>intro zr
  ·try simp at zr
   subst zr
   have hD:=D6 sl sw
   have vU:=ze sw
   obtain⟨wb,rK⟩:∃b,fa sw=b:=⟨_,rfl⟩
   rw[rK] at vU
   refine .seq (.au dt rfl af (.rn [0,1] _ ?_))
   refine .pc rfl rfl rfl rfl rfl call161 (vU) ?_
   refine .rn [3] [] ?_
   refine .done (.seq (.seq (.au gE rfl af ?_)))
   refine .rn [0,1,2] _ ?_
   refine .split (t:=230) rfl (fun kr=>?_) (fun kr=>?_)
   ·try subst kr
    try simp at kr
    rw[if_neg (fun hh=>by rw[hh.1] at rK;simp[← rK] at kr)] at hD
    refine .rn [3,4,5,6] [] ?_
    refine .done (.ep rfl (.sr ?_))
    refine .ret (aA ?_)
    first|(rw[et];done)|(rw[et];first|rfl|(simp;done))|(rw[j5 hD];done)|(rw[ig hD];first|rfl|(simp[ints,eW,iV];done))
   try subst kr
   try simp at kr
   refine .rn [3,4,5,6] [] ?_
   refine .done ?_
   refine .cs ?_ ?_<;>intro mS
   ·try simp at mS
    rw[if_neg (fun hh=>bW mS hh.2)] at hD
    refine .sr ?_
    refine .ret (aA ?_)
    first|(rw[et];done)|(rw[et];first|rfl|(simp;done))|(rw[j5 hD];done)|(rw[ig hD];first|rfl|(simp[ints,eW,iV];done))
   try simp at mS
   rw[if_pos ⟨rK.trans (by simpa using kr),sq mS⟩] at hD
   refine .skip (.sr ?_)
   refine .ret (aA ?_)
   first|(rw[et];done)|(rw[et];first|rfl|(simp;done))|(rw[j5 hD];done)|(rw[ig hD];first|rfl|(simp[ints,eW,iV];done))
  try simp at zr
  have hD:aK c ⟨sk,a,i,sl,sw⟩=none:=xa6 (s:=⟨sk,a,i,sl,sw⟩) zd xz IW zm zo zr
  refine .skip (.sr ?_)
  refine .ret (aA ?_)
  first|(rw[et];done)|(rw[et];first|rfl|(simp;done))|(rw[j5 hD];done)|(rw[ig hD];first|rfl|(simp[ints,eW,iV];done))
 ·
  have hN:=j5 (PM (c:=c) (s:=⟨sk,sa,si,sl,sw⟩) dm)
  have oJ:=qJ sa 0 (c.t.length:Int)
  rw[hN]
  obtain⟨wi,dW⟩:∃b,(decide (0≤sa)&&decide (sa≤(c.t.length:Int)))=b:=⟨_,rfl⟩
  obtain⟨nw,Bp⟩:∃b,(!wi)=b:=⟨_,rfl⟩
  rw[dW] at oJ
  refine .sr ?_
  refine .sr ?_
  refine .sr ?_
  refine .sr ?_
  refine .sr ?_
  refine .seq (.au dt rfl af (.rn [0,1] _ ?_))
  refine .pc rfl rfl rfl rfl rfl call99 (oJ) ?_
  refine .rn [3] [] ?_
  refine .done (.seq (.seq (.au iB rfl af ?_)))
  refine .rn [0,1,2] _ ?_
  refine .split (t:=28) rfl (fun jr=>?_) (fun jr=>?_)
  ·try subst jr
   try simp at jr
   refine .rn [3,4,5] [] ?_
   refine .done (.ep rfl (.sr ?_))
   refine .ret (aA ?_)
   exact zk
  try subst jr
  try simp at jr
  refine .rn [3,4,5] [] ?_
  refine .done ?_
  refine .cs ?_ ?_<;>intro n4
  ·try simp at n4
   refine .sr ?_
   refine .ret (aA ?_)
   exact zk
  try simp at n4
  exfalso;have np:wi=true:=by simpa using Bp
  rw[np] at dW;simp at dW;exact dm ⟨dW.1,dW.2,by omega⟩
theorem IX (w:List Int):PV.one (eW w)=true:=by unfold eW;split<;>rfl
attribute [local simp ↓ high] IX
def xQ (c:ao)(l:List aq):PV:=match dF c l with
 |some (o,n)=>.agg [ints o,.int .i64 n,.bool true]
 |none=>.agg [.vec [],.int .i64 0,.bool false]
theorem IY {a b:PV}(ha:a.aH=true)(hb:b.aH=true):dO (.agg [.aG,a,b]) (.agg [.vec [],a,b]):=.j7 (.cons .dV (.cons (.same _ ha) (.cons (.same _ hb) .nil)))
theorem RC (c:ao)(l:List aq):(xQ c l).aH=true:=by
 unfold xQ
 split<;>simp[PV.aH,PV.aJ]
section
variable [bG]
theorem IZ (a b:List Int)(ha:a.length<4611686018427387904)(hb:b.length<4611686018427387904):aN prog 37 [ints a,ints b] fun r=>r=.bool (decide (a=b)):=by
 refine .bP func37 rfl rfl ?_
 refine .sr ?_
 refine .seq (.sr ?_)
 refine .cs ?_ ?_<;>intro fc
 ·try simp at fc
  have dp:decide (a=b)=false:=by
   rw[decide_eq_false_iff_not];intro h;rw[h] at fc;simp at fc
  refine .sr ?_
  refine .ret (aA ?_)
  rw[dp]
 try simp at fc
 have hlen:b.length=a.length:=by omega
 refine .skip (.seq (.sr ?_))
 refine .block ?_
 refine .ec (fun i:Nat=>([(0,ints a),(1,ints b),(5,.int .i64 i)],ai.empty)) (fun i=>i≤a.length∧a.take i=b.take i) (fun i=>a.length - i) 0 ⟨by simp,by simp⟩ (.pure (by simp[*]) (by simp)) ?_
 rintro i ⟨hi,ht⟩
 simp only at hi ht ⊢
 refine .seq (.sr ?_)
 refine .cs ?_ ?_<;>intro gR
 ·try simp at gR
  have eO:=gD i
  have qx:i<a.length:=by omega
  have BW:i<b.length:=by omega
  obtain⟨x,hx⟩:∃x,a[i]?=some x:=⟨_,List.getElem?_eq_getElem qx⟩
  obtain⟨y,hy⟩:∃y,b[i]?=some y:=⟨_,List.getElem?_eq_getElem BW⟩
  have lL:a[i]=x:=(List.getElem?_eq_some_iff.1 hx).2
  have zp:b[i]=y:=(List.getElem?_eq_some_iff.1 hy).2
  refine .skip (.seq (.block (.seq ?_)))
  refine .drawn (ms:=[0,0,3,7,0,0,48,112,255]) (W:=[]) (items:=Dz) rfl af af af ?_
  iterate 9 refine .rx ?_
  refine .done ?_
  refine .cs ?_ ?_<;>intro fx
  ·try simp at fx
   have zt:¬x=y:=fx
   have dp:decide (a=b)=false:=by
    rw[decide_eq_false_iff_not];intro h
    rw[h,hy] at hx;injection hx with hx;exact zt hx.symm
   refine .sr ?_
   refine .ret (aA ?_)
   rw[dp]
  try simp at fx
  have zt:x=y:=fx
  refine .skip (.rn ?_)
  refine⟨i+1,⟨bC,?_⟩,bC,.pure (by simp[*]) (by simp)⟩
  rw[List.take_succ_eq_append_getElem qx,List.take_succ_eq_append_getElem BW,ht,lL,zp,zt]
 try simp at gR
 obtain rfl:i=a.length:=by omega
 have dp:decide (a=b)=true:=by
  rw[decide_eq_true_eq]
  rw[List.take_length,← hlen,List.take_length] at ht
  exact ht
 refine .exit (.sr ?_)
 refine .ret (aA ?_)
 rw[dp]
theorem RD (a b:List aq)(ha:a.length<4611686018427387904)(hb:b.length<4611686018427387904):aN prog 34 [.vec (a.map encS),.vec (b.map encS)] fun r=>r=.bool (decide (a=b)):=by
 refine .bP func34 rfl rfl ?_
 refine .sr ?_
 refine .seq (.sr ?_)
 refine .cs ?_ ?_<;>intro fc
 ·try simp at fc
  have dp:decide (a=b)=false:=by
   rw[decide_eq_false_iff_not];intro h;rw[h] at fc;simp at fc
  refine .sr ?_
  refine .ret (aA ?_)
  rw[dp]
 try simp at fc
 have hlen:b.length=a.length:=by omega
 refine .skip (.seq (.sr ?_))
 refine .block ?_
 refine .ec (fun i:Nat=>([(0,.vec (a.map encS)),(1,.vec (b.map encS)),(5,.int .i64 i)],ai.empty)) (fun i=>i≤a.length∧a.take i=b.take i) (fun i=>a.length - i) 0 ⟨by simp,by simp⟩ (.pure (by simp[*]) (by simp)) ?_
 rintro i ⟨hi,ht⟩
 simp only at hi ht ⊢
 refine .seq (.sr ?_)
 refine .cs ?_ ?_<;>intro gR
 ·try simp at gR
  have eO:=gD i
  have qx:i<a.length:=by omega
  have BW:i<b.length:=by omega
  obtain⟨x,hx⟩:∃x,a[i]?=some x:=⟨_,List.getElem?_eq_getElem qx⟩
  obtain⟨y,hy⟩:∃y,b[i]?=some y:=⟨_,List.getElem?_eq_getElem BW⟩
  have lL:a[i]=x:=(List.getElem?_eq_some_iff.1 hx).2
  have zp:b[i]=y:=(List.getElem?_eq_some_iff.1 hy).2
  have hE:∀s:aq,encS s=.agg [.int .i64 s.k,.int .i64 s.a,.int .i64 s.i,.int .i64 s.l,.int .i64 s.w]:=fun _=>rfl
  refine .skip (.seq (.block (.seq ?_)))
  refine .drawn (ms:=[0,0,3,7,0,0,48,112,255]) (W:=[]) (items:=Dz) rfl af af af ?_
  iterate 9 refine .rx ?_
  refine .done ?_
  refine .cs ?_ ?_<;>intro fx
  ·try simp at fx
   have zt:¬x=y:=fun e=>by subst e;simp at fx
   have dp:decide (a=b)=false:=by
    rw[decide_eq_false_iff_not];intro h
    rw[h,hy] at hx;injection hx with hx;exact zt hx.symm
   refine .sr ?_
   refine .ret (aA ?_)
   rw[dp]
  try simp at fx
  have zt:x=y:=by cases x;cases y;simp at fx;simp[fx]
  refine .skip (.rn ?_)
  refine⟨i+1,⟨bC,?_⟩,bC,.pure (by simp[*]) (by simp)⟩
  rw[List.take_succ_eq_append_getElem qx,List.take_succ_eq_append_getElem BW,ht,lL,zp,zt]
 try simp at gR
 obtain rfl:i=a.length:=by omega
 have dp:decide (a=b)=true:=by
  rw[decide_eq_true_eq]
  rw[List.take_length,← hlen,List.take_length] at ht
  exact ht
 refine .exit (.sr ?_)
 refine .ret (aA ?_)
 rw[dp]
theorem Gw (c:ao)(l:List aq)(hk:bf c=0)(da:l.length≤200):aN prog 127 [aD c,.vec (l.map encS)] fun r=>dO r (xQ c l):=by
 have bj:=iC hk
 have oB:=bj.tl
 have hC:cw c=(cQ c):=rfl
 have hE:∀s:aq,encS s=.agg [.int .i64 s.k,.int .i64 s.a,.int .i64 s.i,.int .i64 s.l,.int .i64 s.w]:=fun _=>rfl
 have bU:=fun s=>zf c s hk
 have oJ:=fun a i:Int=>qJ a i (c.t.length:Int)
 have xJ:=WI.start c l
 unfold aD at bU ⊢
 rw[hC] at bU ⊢
 have vo:dF c l=none→xQ c l=.agg [.vec [],.int .i64 0,.bool false]:=fun h=>by unfold xQ;rw[h]
 refine .bP func127 rfl rfl ?_
 refine .sr ?_
 refine .sr ?_
 refine .sr ?_
 refine .sr ?_
 refine .seq (.sr ?_)
 refine .block ?_
 refine .ec (fun z:Nat×List Int×Nat×Int=>([(1,.vec (l.map encS)),(2,.ptr 0 0),(4,.ptr 1 0),(5,.grow 2 z.2.1.length true),(6,.int .i64 z.2.2.2),(7,.int .i64 z.2.2.1),(8,.int .i64 z.1)],⟨3,[(2,.grow 1 (z.2.1.map (.int .i64))),(1,.box [.aG,.int .i64 0,.bool false]),(0,.box (cQ c))]⟩)) (fun z=>WI c l z.1 z.2.1 z.2.2.1 z.2.2.2) (fun z=>l.length - z.1) (0,[],0,0) xJ bT ?_
 clear xJ
 rintro⟨k,out,i,sum⟩ hI
 simp only at hI ⊢
 have gP:=hI.hk
 have dx:=hI.hi
 have yh:=hI.h0
 have xg:=hI.h1
 have A9:=hI.ho
 refine .seq (.sr ?_)
 refine .cs ?_ ?_<;>intro cb
 ·try simp at cb
  have eO:=gD k
  have fH:k<l.length:=by omega
  obtain⟨s,hs⟩:∃s,l[k]?=some s:=⟨l[k],List.getElem?_eq_getElem fH⟩
  have fU:l[k]=s:=(List.getElem?_eq_some_iff.1 hs).2
  have oJ:=oJ s.a i
  obtain⟨wi,dW⟩:∃b,(decide ((i:Int)≤s.a)&&decide (s.a≤(c.t.length:Int)))=b:=⟨_,rfl⟩
  rw[dW] at oJ
  have bU:=bU s
  rw[hE] at bU
  refine .skip (.seq (.block (.sr ?_)))
  refine .seq (.au lV rfl af (.rn iB _ ?_))
  refine .pc rfl rfl rfl rfl rfl call99 (oJ) ?_
  refine .rn [7] [] ?_
  refine .done (.seq (.sr ?_))
  refine .cs ?_ ?_<;>intro xR
  ·try simp at xR
   have hb:=hI.bad hs (.inl (fun hh=>by rw[xR] at dW;simp[hh.1,hh.2] at dW))
   refine .sr ?_
   refine .ret (aA ?_)
   rw[vo hb];exact IY rfl rfl
  try simp at xR
  have dm:(i:Int)≤s.a∧s.a≤(c.t.length:Int):=by rw[xR] at dW;simpa using dW
  obtain⟨a,ha⟩:∃a:Nat,s.a=a:=⟨s.a.toNat,by omega⟩
  have o6:s.a.toNat=a:=by omega
  have qx:i≤a:=by omega
  have eG:a≤c.t.length:=by omega
  have jQ:=@WI.bad c l k out i sum hI s hs
  have e9:=@WI.next c bj l k out i sum hI s hs
  rw[o6] at jQ e9
  have iK:(a:Int)≤(c.t.length:Int):=by omega
  have LY:(i:Int)≤(a:Int):=by omega
  rw[ha] at bU
  have aY:((c.t.drop i).take (a - i)).length=a - i:=by rw[List.length_take,List.length_drop];omega
  have oS:List.take (a - i) (List.drop i (c.t.map (PV.int .i64)))=((c.t.drop i).take (a - i)).map (PV.int .i64):=by rw[List.map_take,List.map_drop]
  obtain⟨Q,hQ⟩:∃Q,(c.t.drop i).take (a - i)=Q:=⟨_,rfl⟩
  rw[hQ] at aY oS jQ e9
  have Zx:out.length+Q.length≤4294967296:=by omega
  have LZ:out.length+Q.length≤20000:=by omega
  clear aY
  obtain⟨ni,DF⟩:∃b,(s.i != (out.length:Int)+(Q.length:Int))=b:=⟨_,rfl⟩
  rcases hd:aK c s with _|⟨n,i',w⟩
  ·skip
   refine .skip (.sr ?_)
   refine .seq (.au fe rfl af (.rn [0,1] _ ?_))
   refine .step rfl rfl (.pure rfl rfl rfl call126 (by decide) (bU) (by first|rfl|simp[*]) ?_)
   intro _ e;rw[j5 hd] at e;subst e;have uu:=jQ (.inr (.inl hd))
   refine .rn [3,4] [] ?_
   refine .done (.seq (.seq (.au fw rfl af ?_)))
   refine .rn iB _ ?_
   refine .split (t:=48) rfl (fun iU=>?_) (fun iU=>?_)
   ·try subst iU
    try simp at iU
    refine .rn [6,7,8,9] [] ?_
    refine .done (.ep rfl (.sr ?_))
    refine .ret (aA ?_)
    rw[vo uu];exact IY rfl rfl
   try subst iU
   try simp at iU
   refine .rn [6,7,8,9] [] ?_
   refine .done ?_
   refine .cs ?_ ?_<;>intro AE
   ·try simp at AE
    refine .sr ?_
    refine .ret (aA ?_)
    rw[vo uu];exact IY rfl rfl
   try simp at AE
  skip
  refine .skip (.sr ?_)
  refine .seq (.au fe rfl af (.rn [0,1] _ ?_))
  refine .step rfl rfl (.pure rfl rfl rfl call126 (by decide) (bU) (by first|rfl|simp[*]) ?_)
  intro _ e;rw[ig hd] at e;subst e;obtain⟨d1,d2,d3,d4,d5,d6⟩:=kS bj hd;have Zy:IntKind.i64.wrap (sum+n)=sum+n:=wrap64 (by omega) (by omega);have Zz:out.length+Q.length+w.length≤4294967296:=by omega
  refine .rn [3,4] [] ?_
  refine .done (.seq (.seq (.au fw rfl af ?_)))
  refine .rn iB _ ?_
  refine .split (t:=48) rfl (fun iU=>?_) (fun iU=>?_)
  ·try subst iU
   try simp at iU
   have uu:=jQ (.inr (.inr (fun e=>by rw[e] at DF;simp at DF)))
   refine .rn [6,7,8,9] [] ?_
   refine .done (.ep rfl (.sr ?_))
   refine .ret (aA ?_)
   rw[vo uu];exact IY rfl rfl
  try subst iU
  try simp at iU
  have nP:s.i=(out.length:Int)+(Q.length:Int):=by simpa using DF
  have qu:=e9 dm hd (by rw[nP];simp)
  refine .rn [6,7,8,9] [] ?_
  refine .done ?_
  refine .cs ?_ ?_<;>intro AE
  ·try simp at AE
  try simp at AE
  rcases IF w with⟨rfl,hw⟩|hw<;>simp only[hw]
  ·skip
   refine .skip (.sr ?_)
   refine .sr ?_
   refine .rn ?_
   refine .rn ?_
   refine⟨(k+1,out++Q++[],i',sum+n),qu,bC,(.mk [] [(2,6)] ib iQ rfl rfl rfl)⟩
  skip
  refine .skip (.sr ?_)
  refine .sr ?_
  refine .rn ?_
  refine .rn ?_
  have L3:=Nat.add_assoc out.length Q.length w.length
  refine⟨(k+1,out++Q++w,i',sum+n),qu,bC,(.mk [] [(2,6)] ib iQ rfl rfl rfl)⟩
 try simp at cb
 obtain rfl:k=l.length:=by omega
 have dB:=hI.stop
 obtain⟨D,hD⟩:∃D,c.t.drop i=D:=⟨_,rfl⟩
 have ZA:List.drop i (c.t.map (PV.int .i64))=D.map (PV.int .i64):=by rw[← hD,List.map_drop]
 have ZB:List.take (c.t.length - i) (D.map (PV.int .i64))=D.map (PV.int .i64):=List.take_of_length_le (by rw[← hD];simp)
 have vL:D.length≤48:=by rw[← hD,List.length_drop];omega
 have bW:out.length+D.length≤4294967296:=by omega
 rw[hD] at dB
 clear hD
 have L4:(i:Int)≤(c.t.length:Int):=by omega
 have r9:xQ c l=.agg [ints (out++D),.int .i64 sum,.bool true]:=by unfold xQ;rw[dB]
 refine .exit (.sr ?_)
 refine .ret (aA ?_)
 rw[r9];simp only[ints,List.map_append];exact ly rfl
theorem Gx (c:ao)(l:List aq)(hk:bf c=0)(da:l.length≤200):aN prog 107 [aD c,.vec (l.map encS)] fun r=>r=.int .i64 ((cF c l).getD (-1)):=by
 have bj:=iC hk
 have eJ:=bj.cl
 have hC:cw c=(cQ c):=rfl
 have gV:=aN.soft (Gw c l hk da) (RC c l)
 have hx:cF c l=if 100<l.length then none else match dF c l with|some (o,n)=>if o=c.c then some n else none|none=>none:=rfl
 unfold aD at gV ⊢
 rw[hC] at gV ⊢
 unfold xQ at gV
 refine .bP func107 rfl rfl ?_
 rcases hw:dF c l with _|⟨o,n⟩
 ·
  rw[hw] at hx gV
  simp only at hx gV
  have lA:cF c l=none:=by rw[hx];split<;>rfl
  rw[lA]
  have xS:=IZ [] c.c (by simp) (by omega)
  refine .sr ?_
  refine .seq (.sr ?_)
  refine .cs ?_ ?_<;>intro c9
  ·try simp at c9
   refine .sr ?_
   refine .ret (aA ?_)
   exact zk
  try simp at c9
  refine .skip (.seq (.au fe rfl af (.rn [0,1] _ ?_)))
  refine .pc rfl rfl rfl rfl rfl call127 (gV) ?_
  refine .rn [3,4] [] ?_
  refine .done (.seq (.au iB rfl af ?_))
  refine .rn dt _ ?_
  refine .pc rfl rfl rfl rfl rfl call37 (xS) ?_
  refine .rn [5] [] ?_
  refine .done (.seq (.seq (.au gE rfl af ?_)))
  refine .rn dt _ ?_
  refine .split (t:=21) rfl (fun dz=>?_) (fun dz=>?_)
  ·try subst dz
   try simp at dz
   refine .rn [4,5,6] [] ?_
   refine .done (.ep rfl (.sr ?_))
   refine .ret (aA ?_)
   exact zk
  try subst dz
  try simp at dz
 ·
  rw[hw] at hx gV
  simp only at hx gV
  have o7:=IG bj hw
  have xS:=IZ o c.c (by omega) (by omega)
  obtain⟨eb,vM⟩:∃b,decide (o=c.c)=b:=⟨_,rfl⟩
  rw[vM] at xS
  refine .sr ?_
  refine .seq (.sr ?_)
  refine .cs ?_ ?_<;>intro c9
  ·try simp at c9
   rw[if_pos (show 100<l.length by omega)] at hx
   refine .sr ?_
   refine .ret (aA ?_)
   first|(rw[hx];rfl)|(rw[lA];rfl)
  try simp at c9
  rw[if_neg (by omega)] at hx
  refine .skip (.seq (.au fe rfl af (.rn [0,1] _ ?_)))
  refine .pc rfl rfl rfl rfl rfl call127 (gV) ?_
  refine .rn [3,4] [] ?_
  refine .done (.seq (.au iB rfl af ?_))
  refine .rn dt _ ?_
  refine .pc rfl rfl rfl rfl rfl call37 (xS) ?_
  refine .rn [5] [] ?_
  refine .done (.seq (.seq (.au gE rfl af ?_)))
  refine .rn dt _ ?_
  refine .split (t:=21) rfl (fun dz=>?_) (fun dz=>?_)
  ·try subst dz
   try simp at dz
  try subst dz
  try simp at dz
  refine .rn [4,5,6] [] ?_
  refine .done ?_
  refine .cs ?_ ?_<;>intro nv
  ·try simp at nv
   have lA:cF c l=none:=by rw[hx,if_neg (fun hh=>by rw[hh] at vM;simp[nv] at vM)]
   refine .sr ?_
   refine .ret (aA ?_)
   first|(rw[hx];rfl)|(rw[lA];rfl)
  try simp at nv
  have lA:cF c l=some n:=by rw[hx,if_pos (by rw[nv] at vM;simpa using vM)]
  refine .skip (.sr ?_)
  refine .ret (aA ?_)
  first|(rw[hx];rfl)|(rw[lA];rfl)
end
theorem My {x y:aq}(h:¬x.a=y.a):decide (x.lt y)=decide (x.a<y.a):=decide_eq_decide.2 (by unfold aq.lt;omega)
theorem Mz {x y:aq}(g:x.a=y.a)(h:¬x.i=y.i):decide (x.lt y)=decide (x.i<y.i):=decide_eq_decide.2 (by unfold aq.lt;omega)
theorem MA {x y:aq}(g:x.a=y.a)(g2:x.i=y.i)(h:¬x.k=y.k):decide (x.lt y)=decide (x.k<y.k):=decide_eq_decide.2 (by unfold aq.lt;omega)
theorem MB {x y:aq}(g:x.a=y.a)(g2:x.i=y.i)(g3:x.k=y.k)(h:¬x.l=y.l):decide (x.lt y)=decide (x.l<y.l):=decide_eq_decide.2 (by unfold aq.lt;omega)
theorem MC {x y:aq}(g:x.a=y.a)(g2:x.i=y.i)(g3:x.k=y.k)(g4:x.l=y.l):decide (x.lt y)=decide (x.w<y.w):=decide_eq_decide.2 (by unfold aq.lt;omega)
theorem MD {s:aq}:∀ {l:List aq} {k:Nat},k≤l.length→(∀x∈l.take k,x.lt s)→(∀x,l[k]?=some x→¬x.lt s)→eE l s=if l[k]?=some s then l else l.take k++s::l.drop k
 |[],k,hk,_,_=>by obtain rfl:k=0:=(by simpa using hk);rfl
 |a::r,0,_,_,hn=>by
  have h1:=hn a rfl
  unfold eE
  rw[if_neg h1]
  by_cases h:a=s
  ·simp[h]
  simp[h]
 |a::r,k+1,hk,ht,hn=>by
  have h1:=ht a (by simp)
  unfold eE
  rw[if_pos h1,MD (k:=k) (by simpa using hk) (fun x hx=>ht x (by simp[hx])) (fun x hx=>hn x (by simpa using hx))]
  simp only[List.getElem?_cons_succ,List.take_succ_cons,List.drop_succ_cons,List.cons_append]
  split<;>rfl
section
variable [bG]
theorem ME (x y:aq):aN prog 143 [encS x,encS y] fun r=>r=.bool (decide (x.lt y)):=by
 obtain⟨xk,xa,xi,xl,xw⟩:=x
 obtain⟨yk,ya,yi,yl,yw⟩:=y
 have hE:∀k a i l w,encS ⟨k,a,i,l,w⟩=.agg [.int .i64 k,.int .i64 a,.int .i64 i,.int .i64 l,.int .i64 w]:=fun _ _ _ _ _=>rfl
 rw[hE,hE]
 have d1:=@My ⟨xk,xa,xi,xl,xw⟩ ⟨yk,ya,yi,yl,yw⟩
 have d2:=@Mz ⟨xk,xa,xi,xl,xw⟩ ⟨yk,ya,yi,yl,yw⟩
 have d3:=@MA ⟨xk,xa,xi,xl,xw⟩ ⟨yk,ya,yi,yl,yw⟩
 have d4:=@MB ⟨xk,xa,xi,xl,xw⟩ ⟨yk,ya,yi,yl,yw⟩
 have d5:=@MC ⟨xk,xa,xi,xl,xw⟩ ⟨yk,ya,yi,yl,yw⟩
 simp only at d1 d2 d3 d4 d5
 refine .bP func143 rfl rfl ?_
 refine .sr ?_
 refine .seq (.sr ?_)
 refine .cs ?_ ?_<;>intro c9
 ·try simp at c9
  have d1:=d1 c9
  refine .sr ?_
  refine .ret (aA ?_)
  first|(rw[d5];done)|(rw[d4];done)|(rw[d3];done)|(rw[d2];done)|(rw[d1];done)
 try simp at c9
 refine .skip (.seq (.sr ?_))
 refine .cs ?_ ?_<;>intro jC
 ·try simp at jC
  have d2:=d2 c9 jC
  refine .sr ?_
  refine .ret (aA ?_)
  first|(rw[d5];done)|(rw[d4];done)|(rw[d3];done)|(rw[d2];done)|(rw[d1];done)
 try simp at jC
 refine .skip (.seq (.sr ?_))
 refine .cs ?_ ?_<;>intro mL
 ·try simp at mL
  have d3:=d3 c9 jC mL
  refine .sr ?_
  refine .ret (aA ?_)
  first|(rw[d5];done)|(rw[d4];done)|(rw[d3];done)|(rw[d2];done)|(rw[d1];done)
 try simp at mL
 refine .skip (.seq (.sr ?_))
 refine .cs ?_ ?_<;>intro yP
 ·try simp at yP
  have d4:=d4 c9 jC mL yP
  refine .sr ?_
  refine .ret (aA ?_)
  first|(rw[d5];done)|(rw[d4];done)|(rw[d3];done)|(rw[d2];done)|(rw[d1];done)
 try simp at yP
 have d5:=d5 c9 jC mL yP
 refine .skip (.sr ?_)
 refine .ret (aA ?_)
 first|(rw[d5];done)|(rw[d4];done)|(rw[d3];done)|(rw[d2];done)|(rw[d1];done)
theorem p93 (l:List aq)(s:aq)(hl:l.length≤100000):aN prog 93 [.vec (l.map encS),encS s] fun r=>r=.vec ((eE l s).map encS):=by
 have te:=fun x=>ME x s
 have hE:encS s=.agg [.int .i64 s.k,.int .i64 s.a,.int .i64 s.i,.int .i64 s.l,.int .i64 s.w]:=rfl
 rw[hE] at te ⊢
 refine .bP func93 rfl rfl ?_
 refine .sr ?_
 refine .sr ?_
 refine .seq (.block ?_)
 refine .ec (fun i:Nat=>([(0,.vec (l.map encS)),(3,.ptr 0 0),(5,.int .i64 i)],⟨1,[(0,.box [.int .i64 s.k,.int .i64 s.a,.int .i64 s.i,.int .i64 s.l,.int .i64 s.w])]⟩)) (fun i=>i≤l.length∧∀x∈l.take i,x.lt s) (fun i=>l.length - i) 0 (by simp) bT ?_
 rintro i ⟨hi,ht⟩
 simp only at hi ht ⊢
 refine .seq (.sr ?_)
 refine .cs ?_ ?_<;>intro fc
 ·try simp at fc
  have eO:=gD i
  have dx:i<l.length:=by omega
  obtain⟨x,hx⟩:∃x,l[i]?=some x:=⟨_,List.getElem?_eq_getElem dx⟩
  have lL:l[i]=x:=(List.getElem?_eq_some_iff.1 hx).2
  have hEx:encS x=.agg [.int .i64 x.k,.int .i64 x.a,.int .i64 x.i,.int .i64 x.l,.int .i64 x.w]:=rfl
  have te:=te x
  rw[hEx] at te
  obtain⟨lb,MF⟩:∃b,decide (x.lt s)=b:=⟨_,rfl⟩
  rw[MF] at te
  refine .skip (.block (.seq ?_))
  refine .drawn (ms:=[0,0,3,7,0,31,63]) (W:=[5]) (items:=[.op 0,.op 1,.op 2,.op 3,.op 4,.op 5,.op 6]) rfl af af af ?_
  iterate 5 refine .rx ?_
  refine .wp rfl rfl rfl rfl rfl call143 (te) ?_
  refine .rx ?_
  refine .done (.seq (.sr ?_))
  refine .cs ?_ ?_<;>intro pU
  ·try simp at pU
   have MG:¬x.lt s:=by rw[← decide_eq_false_iff_not,MF];simpa using pU
   have hp:=MD hi ht (fun y hy=>by rw[hx] at hy;injection hy with hy;rw[← hy];exact MG)
   rw[hx] at hp
   have Mm:List.take i (l.map encS)=(l.take i).map encS:=(List.map_take).symm
   have fN:List.drop i (l.map encS)=(l.drop i).map encS:=(List.map_drop).symm
   obtain⟨T,hT⟩:∃T,l.take i=T:=⟨_,rfl⟩
   obtain⟨D,hD⟩:∃D,l.drop i=D:=⟨_,rfl⟩
   have B0:T.length=i:=by rw[← hT,List.length_take];omega
   have vL:D.length=l.length - i:=by rw[← hD,List.length_drop]
   have iF:List.take (l.length - i) (D.map encS)=D.map encS:=List.take_of_length_le (by rw[List.length_map];omega)
   have pK:T.length+(D.length+1)=i+1+(l.length - i):=by omega
   rw[hT] at Mm hp
   rw[hD] at fN hp
   clear hT hD ht
   have tf:=KR T
   have hsD:=KR D
   have hi4:i≤4294967296:=by omega
   have hi5:i+1≤4294967296:=by omega
   have hi6:i+1+(l.length - i)≤4294967296:=by omega
   refine .exit (.seq (.seq ?_))
   refine .drawn (ms:=[0,0,2,7,15,31,31,127,255,31,1023,2047]) (W:=[]) (items:=Cw) rfl af af af ?_
   iterate 5 refine .rx ?_
   refine .split (t:=25) rfl (fun fx=>?_) (fun fx=>?_)
   ·try subst fx
    try simp at fx
    iterate 7 refine .rx ?_
    refine .done ?_
    refine .cs ?_ ?_<;>intro eC
    ·try simp at eC
     refine .sr ?_
     refine .ret (aA ?_)
     show _=_
     have q7:x=s:=aq.ext' eC.1.1.1.1 eC.1.1.1.2 eC.1.1.2 eC.1.2 eC.2
     rw[hp,if_pos (by rw[q7])]
    try simp at eC
    refine .skip (.seq ?_)
    refine .rD (ms:=[0,0,0,6,15,0,32,127,0,0,768,2047,4095]) (W:=[0,4,7,11]) (As:=[6]) (items:=[.op 1,.op 2,.op 3,.op 5,.op 6,.op 8,.op 9,.op 10,.op 0,.ck 5,.op 4,.ck 5,.op 7,.op 11,.op 12]) rfl af af af af (by decide) ?_
    iterate 4 refine .rf ?_
    refine .al rfl rfl (by decide) (by decide) (by decide) (by decide) fA ?_
    iterate 3 refine .rf ?_
    refine .wr rfl rfl (by decide) (.eo fA (by decide) ?_)
    refine .ck rfl eQ ?_
    refine .wr rfl rfl (by decide) (.Cx [2] (ee:=[5]) fA fA (by decide) (⟨⟨eQ,_,_,rfl,fA⟩,trivial⟩) af ?_)
    refine .ck rfl eQ ?_
    refine .wr rfl rfl (by decide) (.eo fA (by decide) ?_)
    refine .wr rfl rfl (by decide) (.eo fA (by decide) ?_)
    refine .rf ?_
    refine .done (.ret ?_)
    refine⟨_,_,gp,(by simp[pK]<;>rfl),?_⟩
    show _=_
    rw[hp,if_neg (fun hh=>by injection hh with hh;rw[hh] at eC;exact eC rfl rfl rfl rfl rfl),List.map_append,List.map_cons,hE]
   try subst fx
   try simp at fx
  try simp at pU
  have MG:x.lt s:=by rw[← decide_eq_true_eq (p:=x.lt s),MF];simpa using pU
  refine .skip (.rn ?_)
  refine⟨i+1,⟨bC,?_⟩,bC,bT⟩
  intro y hy
  rw[List.take_succ_eq_append_getElem dx,List.mem_append,List.mem_singleton,lL] at hy
  rcases hy with hy|hy
  ·exact ht y hy
  rw[hy];exact MG
 try simp at fc
 obtain rfl:i=l.length:=by omega
 have Mm:List.take l.length (l.map encS)=l.map encS:=List.take_of_length_le (by simp)
 have fN:List.drop l.length (l.map encS)=[]:=List.drop_of_length_le (by simp)
 have hp:=MD (Nat.le_refl _) ht (fun y hy=>by rw[List.getElem?_eq_none (Nat.le_refl _)] at hy;cases hy)
 have hN:l[l.length]?=none:=List.getElem?_eq_none (Nat.le_refl _)
 have tf:=KR l
 have hsE:ky 5 ([]:List PV)=true:=rfl
 have hi4:l.length≤4294967296:=by omega
 have hi5:l.length+1≤4294967296:=by omega
 refine .exit (.seq (.seq ?_))
 refine .drawn (ms:=[0,0,2,7,15,31,31,127,255,31,1023,2047]) (W:=[]) (items:=Cw) rfl af af af ?_
 iterate 5 refine .rx ?_
 refine .split (t:=25) rfl (fun fx=>?_) (fun fx=>?_)
 ·try subst fx
  try simp at fx
 try subst fx
 try simp at fx
 iterate 6 refine .ux ?_
 refine .rx ?_
 refine .done (.gn rfl (.skip (.seq ?_)))
 refine .rD (ms:=[0,0,0,6,15,0,32,127,0,0,768,2047,4095]) (W:=[0,4,7,11]) (As:=[6]) (items:=[.op 1,.op 2,.op 3,.op 5,.op 6,.op 8,.op 9,.op 10,.op 0,.ck 5,.op 4,.ck 5,.op 7,.op 11,.op 12]) rfl af af af af (by decide) ?_
 iterate 4 refine .rf ?_
 refine .al rfl rfl (by decide) (by decide) (by decide) (by decide) fA ?_
 iterate 3 refine .rf ?_
 refine .wr rfl rfl (by decide) (.eo fA (by decide) ?_)
 refine .ck rfl eQ ?_
 refine .wr rfl rfl (by decide) (.Cx [2] (ee:=[5]) fA fA (by decide) (⟨⟨eQ,_,_,rfl,fA⟩,trivial⟩) af ?_)
 refine .ck rfl eQ ?_
 refine .wr rfl rfl (by decide) (.eo fA (by decide) ?_)
 refine .wr rfl rfl (by decide) (.eo fA (by decide) ?_)
 refine .rf ?_
 refine .done (.ret (aA ?_))
 show _=_
 rw[hp,if_neg (fun hh=>by rw[hN] at hh;cases hh),List.take_length,List.drop_length,List.map_append,List.map_cons,hE,List.map_nil]
theorem MH (s:aq):aN prog 93 [.aG,encS s] fun r=>r=.vec [encS s]:=by
 have hE:encS s=.agg [.int .i64 s.k,.int .i64 s.a,.int .i64 s.i,.int .i64 s.l,.int .i64 s.w]:=rfl
 rw[hE]
 refine .bP func93 rfl rfl ?_
 refine .sr ?_
 refine .sr ?_
 refine .seq (.block ?_)
 refine .ec (fun i:Nat=>([(0,.aG),(3,.ptr 0 0),(5,.int .i64 i)],⟨1,[(0,.box [.int .i64 s.k,.int .i64 s.a,.int .i64 s.i,.int .i64 s.l,.int .i64 s.w])]⟩)) (fun i=>i=0) (fun i=>0) 0 (by simp) bT ?_
 rintro i rfl
 simp only
 refine .seq (.sr ?_)
 refine .cs ?_ ?_<;>intro fc
 ·try simp at fc
 try simp at fc
 refine .exit (.seq (.seq ?_))
 refine .drawn (ms:=[0,0,2,7,15,31,31,127,255,31,1023,2047]) (W:=[]) (items:=Cw) rfl af af af ?_
 iterate 5 refine .rx ?_
 refine .split (t:=25) rfl (fun fx=>?_) (fun fx=>?_)
 ·try rw[fx]
  try simp at fx
 try rw[fx]
 try simp at fx
 iterate 6 refine .ux ?_
 refine .rx ?_
 refine .done (.gn rfl (.skip (.seq ?_)))
 refine .rD (ms:=[0,0,0,6,15,0,32,127,0,0,768,2047,4095]) (W:=[0,4,7,11]) (As:=[6]) (items:=[.op 1,.op 2,.op 3,.op 5,.op 6,.op 8,.op 9,.op 10,.op 0,.ck 5,.op 4,.ck 5,.op 7,.op 11,.op 12]) rfl af af af af (by decide) ?_
 iterate 4 refine .rf ?_
 refine .al rfl rfl (by decide) (by decide) (by decide) (by decide) fA ?_
 iterate 3 refine .rf ?_
 refine .wr rfl rfl (by decide) (.eo fA (by decide) ?_)
 refine .ck rfl eQ ?_
 refine .wr rfl rfl (by decide) (.Cx [2] (ee:=[5]) fA fA (by decide) (⟨⟨eQ,_,_,rfl,fA⟩,trivial⟩) af ?_)
 refine .ck rfl eQ ?_
 refine .wr rfl rfl (by decide) (.eo fA (by decide) ?_)
 refine .wr rfl rfl (by decide) (.eo fA (by decide) ?_)
 refine .rf ?_
 refine .done (.ret (aA ?_))
 exact zk
end
def eL (l:List aq):PV:=if l=[] then .aG else .vec (l.map encS)
theorem MJ {l:List aq}(h:l≠[]):eL l=.vec (l.map encS):=if_neg h
theorem zzl (w:List aq):(eL w).cells=[eL w]:=by unfold eL;split<;>rfl
theorem RE (w:List aq):(eL w).aH=true:=by unfold eL;split<;>simp[PV.aH]
theorem z8p (w:List aq):PV.one (eL w)=true:=by unfold eL;split<;>rfl
theorem xab (vh:ai)(w:List aq):bK vh (eL w)=some (eL w):=K0 vh (RE w)
theorem RF (w:List aq):(w=[]∧eL w=.aG)∨eL w=.vec (w.map encS):=by
 by_cases h:w=[]
 ·exact .inl ⟨h,by rw[h];rfl⟩
 exact .inr (MJ h)
theorem RG (l:List aq)(s:aq):eE l s≠[]:=fun h=>by
 have:=(I0 (l:=l) (s:=s) (x:=s)).2 (.inr rfl)
 rw[h] at this;cases this
theorem RH (s:aq):∀l:List aq,(eE l s).length≤l.length+1
 |[]=>by simp[eE]
 |a::r=>by
  unfold eE
  split
  ·have:=RH s r;simp;omega
  split<;>simp
def rL (c:ao)(i j:Nat):List aq:=(if j<c.c.length then [⟨1,i,j,0,c.c.getD j 0⟩,⟨6,i,j,0,c.c.getD j 0⟩] else [])++[⟨2,i,j,0,0⟩]
def uv (i j n:Nat):List aq:=(List.range n).flatMap fun (k:Nat)=>[⟨3,i,j,k,0⟩,⟨4,i,j,k,0⟩]
def vV (i j n:Nat):List aq:=(List.range n).map fun (k:Nat)=>⟨5,i,j,k,0⟩
theorem MK (i j n:Nat):uv i j (n+1)=uv i j n++[⟨3,i,j,n,0⟩,⟨4,i,j,n,0⟩]:=by unfold uv;rw[List.range_succ,List.flatMap_append];rfl
theorem RI (i j n:Nat):vV i j (n+1)=vV i j n++[⟨5,i,j,n,0⟩]:=by unfold vV;rw[List.range_succ,List.map_append];rfl
theorem ML (c:ao)(i j:Nat):l8 c i j=rL c i j++uv i j (c.t.length+1)++vV i j c.g.length:=rfl
theorem z5l (c:ao)(i j:Nat):(rL c i j).length≤3:=by unfold rL;split<;>simp
theorem RJ (i j:Nat):∀n,(uv i j n).length=2*n
 |0=>rfl
 |n+1=>by rw[MK,List.length_append,RJ i j n];simp;omega
theorem RK (i j n:Nat):(vV i j n).length=n:=by unfold vV;rw[List.length_map,List.length_range]
def oa (c:ao)(l:List aq):List aq:=(l.filter (jj c)).foldl eE []
theorem RL (c:ao)(l:List aq)(s:aq):oa c (l++[s])=if jj c s=true then eE (oa c l) s else oa c l:=by
 unfold oa
 rw[List.filter_append,List.foldl_append]
 by_cases h:jj c s=true
 ·rw[if_pos h,List.filter_cons_of_pos h];rfl
 rw[if_neg h,List.filter_cons_of_neg h];rfl
theorem RM (c:ao)(l:List aq):(oa c l).length≤l.length:=by
 have h1:∀(r a:List aq),(r.foldl eE a).length≤a.length+r.length:=fun r=>by
  induction r with
  |nil=>exact fun a=>Nat.le_refl _
  |cons s r ih=>exact fun a=>by have:=ih (eE a s);have h2:=RH s a;rw[List.foldl_cons,List.length_cons];omega
 have:=h1 (l.filter (jj c)) []
 have h2:=List.length_filter_le (jj c) l
 unfold oa
 simp at this
 omega
theorem RN {c:ao}{s:aq}(h:aK c s=none):¬jj c s=true:=by unfold jj;rw[h];simp
theorem RO {c:ao}{s:aq}{n:Int}{i':Nat}{w:List Int}(h:aK c s=some (n,i',w)):jj c s=hasB c s.i.toNat w:=by unfold jj;rw[h]
theorem RP {c:ao}{i j:Nat}{s:aq}(h:s∈l8 c i j):s.i.toNat=j:=by
 rw[ML] at h
 unfold rL uv vV at h
 simp only[List.mem_append,List.mem_flatMap,List.mem_map,List.mem_cons,List.mem_range,List.not_mem_nil,or_false] at h
 rcases h with (((h|rfl)|⟨k,_,rfl|rfl⟩)|⟨k,_,rfl⟩)
 ·split at h
  ·simp only[List.mem_cons,List.not_mem_nil,or_false] at h
   rcases h with rfl|rfl<;>rfl
  cases h
 all_goals rfl
attribute [local simp ↓ high] IX zzl RE z8p xab
variable [bG] in
theorem MM (c:ao)(i j:Nat)(hk:bf c=0)(hi:i≤c.t.length)(hj:j≤c.c.length):aN prog 125 [aD c,.int .i64 i,.int .i64 j] fun r=>r=eL (I1 c i j):=by
 have bj:=iC hk
 have oB:=bj.tl
 have eJ:=bj.cl
 have pS:=bj.sH
 have hC:cw c=(cQ c):=rfl
 have hE:∀s:aq,encS s=.agg [.int .i64 s.k,.int .i64 s.a,.int .i64 s.i,.int .i64 s.l,.int .i64 s.w]:=fun _=>rfl
 have bU:=fun s=>zf c s hk
 have lg:=fun w hw=>Mq c j w (by omega) hw (by omega)
 have pA:=MH
 have AJ:=p93
 have hR:I1 c i j=oa c (l8 c i j):=rfl
 have hA3:=z5l c i j
 have I2:=fun n=>RJ i j n
 unfold aD at bU lg ⊢
 rw[hC] at bU lg ⊢
 rw[hR]
 refine .bP func125 rfl rfl ?_
 by_cases dY:j<c.c.length
 ·
  obtain⟨x,hx⟩:∃x,c.c[j]?=some x:=⟨_,List.getElem?_eq_getElem dY⟩
  have lL:c.c[j]=x:=(List.getElem?_eq_some_iff.1 hx).2
  have hAe:rL c i j=[⟨1,i,j,0,x⟩,⟨6,i,j,0,x⟩,⟨2,i,j,0,0⟩]:=by unfold rL;rw[if_pos dY,List.getD_eq_getElem?_getD,hx];rfl
  refine .sr ?_
  refine .sr ?_
  refine .seq (.sr ?_)
  refine .cs ?_ ?_<;>intro pU
  ·try simp at pU
   refine .drawn (ms:=[0,0,0,0,8,0,56,120,254,0,0,0,2048,0,14336,30720,65024,131070,262143,524287]) (W:=[17,18]) (items:=Fo) rfl af af af ?_
   iterate 17 refine .rx ?_
   refine .wv ?_
   refine .wv ?_
   refine .rx ?_
   refine .done (.sr ?_)
   refine .seq (.sr ?_)
   refine .block ?_
   refine .ec (fun z:Nat×List aq=>([(1,.int .i64 i),(2,.int .i64 j),(3,.ptr 0 0),(7,.grow 2 z.2.length true),(8,.int .i64 z.1)],⟨3,[(2,.grow 5 (z.2.map encS)),(0,.box (cQ c))]⟩)) (fun z=>z.1≤c.t.length+1∧z.2=rL c i j++uv i j z.1) (fun z=>c.t.length+1 - z.1) (0,rL c i j) (by simp[uv]) (.mk [] [(2,4)] ib iQ rfl rfl rfl) ?_
   rintro⟨n,all⟩ ⟨hn,bo⟩
   simp only at hn bo ⊢
   have eG:all.length≤103:=by rw[bo,List.length_append,I2];omega
   replace bo:=bo.symm
   refine .seq (.sr ?_)
   refine .cs ?_ ?_<;>intro iU
   ·try simp at iU
    have eO:IntKind.i64.wrap ((n:Int)+1)=((n+1:Nat):Int):=by rw[wrap64 (by omega) (by omega)];omega
    have q8:all.length+2≤4294967296:=by omega
    refine .skip (.seq (.block (.rn ?_)))
    refine .rn ?_
    refine⟨(n+1,all++[⟨3,i,j,n,0⟩,⟨4,i,j,n,0⟩]),⟨by omega,?_⟩,bC,(.mk [] [(2,4)] ib iQ rfl rfl rfl)⟩
    rw[← bo,MK,List.append_assoc]
   try simp at iU
   obtain rfl:n=c.t.length+1:=by omega
   refine .exit (.seq (.sr ?_))
   refine .block ?_
   refine .ec (fun z:Nat×List aq=>([(1,.int .i64 i),(2,.int .i64 j),(3,.ptr 0 0),(7,.grow 2 z.2.length true),(9,.int .i64 z.1)],⟨3,[(2,.grow 5 (z.2.map encS)),(0,.box (cQ c))]⟩)) (fun z=>z.1≤c.g.length∧z.2=rL c i j++uv i j (c.t.length+1)++vV i j z.1) (fun z=>c.g.length - z.1) (0,all) ⟨by simp,by rw[← bo];simp[vV]⟩ bT ?_
   clear bo eG
   rintro⟨n,all⟩ ⟨hn,bo⟩
   simp only at hn bo ⊢
   have eG:all.length≤109:=by rw[bo,List.length_append,List.length_append,I2,RK];omega
   replace bo:=bo.symm
   refine .seq (.sr ?_)
   refine .cs ?_ ?_<;>intro Gy
   ·try simp at Gy
    have eO:IntKind.i64.wrap ((n:Int)+1)=((n+1:Nat):Int):=by rw[wrap64 (by omega) (by omega)];omega
    have q8:all.length+1≤4294967296:=by omega
    refine .skip (.seq (.block (.rn ?_)))
    refine .rn ?_
    refine⟨(n+1,all++[⟨5,i,j,n,0⟩]),⟨by omega,?_⟩,bC,(.mk [] [(2,4)] ib iQ rfl rfl rfl)⟩
    rw[← bo,RI,List.append_assoc]
   try simp at Gy
   obtain rfl:n=c.g.length:=by omega
   have vW:l8 c i j=all:=by rw[ML,bo]
   rw[vW]
   refine .exit (.sr ?_)
   refine .seq (.sr ?_)
   refine .block ?_
   refine .ec (fun k:Nat=>([(2,.int .i64 j),(3,.ptr 0 0),(7,.grow 2 all.length true),(10,eL (oa c (all.take k))),(11,.int .i64 k)],⟨3,[(2,.grow 5 (all.map encS)),(0,.box (cQ c))]⟩)) (fun k=>k≤all.length) (fun k=>all.length - k) 0 (by simp) bT ?_
   rintro k gP
   simp only at gP ⊢
   refine .seq (.sr ?_)
   refine .cs ?_ ?_<;>intro pV
   ·try simp at pV
    have eO:IntKind.i64.wrap ((k:Int)+1)=((k+1:Nat):Int):=by rw[wrap64 (by omega) (by omega)];omega
    have fH:k<all.length:=by omega
    obtain⟨s,hs⟩:∃s,all[k]?=some s:=⟨_,List.getElem?_eq_getElem fH⟩
    have fU:all[k]=s:=(List.getElem?_eq_some_iff.1 hs).2
    have gy:=RL c (all.take k) s
    have xP:all.take (k+1)=all.take k++[s]:=by rw[List.take_succ_eq_append_getElem fH,fU]
    have il:=RM c (all.take k)
    rw[← xP] at gy
    rw[List.length_take] at il
    have nP:s.i.toNat=j:=by
     have hm:s∈l8 c i j:=by rw[vW];exact List.mem_of_getElem? hs
     exact RP hm
    obtain⟨O,hO⟩:∃O,oa c (all.take k)=O:=⟨_,rfl⟩
    rw[hO] at gy il ⊢
    have bU:=bU s
    rw[hE] at bU
    have MN:=MO (sz:=5) (es:=all.map encS) (q:=k) (e:=encS s) (fun e he=>by obtain⟨x,_,rfl⟩:=List.mem_map.1 he;rfl) (by rw[List.getElem?_map,hs];rfl)
    obtain⟨uw,xF⟩:=MN
    rw[List.length_flatMap,List.map_map] at xF
    rw[hE] at uw
    simp only[PV.cells] at uw
    rcases hd:aK c s with _|⟨n,i',w⟩
    ·skip
     refine .skip (.seq (.block (.seq ?_)))
     refine .rD (ms:=[0,0,0,6,14,31,0,127]) (W:=[5,7]) (As:=[6]) (items:=pB) rfl af af af af (by decide) ?_
     iterate 5 refine .rf ?_
     refine .al rfl rfl (by decide) (by decide) (by decide) (by decide) fA ?_
     refine .wr rfl rfl (by decide) (.pure rfl rfl rfl call126 (by decide) (bU) (by first|rfl|simp[*]) ?_)
     intro _ e;rw[j5 hd] at e;subst e;rw[if_neg (RN hd)] at gy
     refine .wr rfl rfl (by decide) (.eo fA (by decide) ?_)
     refine .done (.seq (.au iB rfl af ?_))
     refine .rn dt _ ?_
     refine .pc rfl rfl rfl rfl rfl call159 ((lg [] (by simp))) ?_
     refine .rn [5] [] ?_
     refine .done (.seq (.au fe rfl af ?_))
     refine .rn [0,1,2] _ ?_
     refine .split (t:=95) rfl (fun l9=>?_) (fun l9=>?_)
     ·try subst l9
      try simp at l9
     try subst l9
     try simp at l9
     refine .rn [3,4] [] ?_
     refine .done (.gn rfl (.skip (.rn ?_)))
     refine⟨k+1,bC,bC,?_⟩
     have qM:eL (oa c (all.take (k+1)))=eL O:=by rw[gy]
     simp only[qM]
     exact bT
    skip
    refine .skip (.seq (.block (.seq ?_)))
    refine .rD (ms:=[0,0,0,6,14,31,0,127]) (W:=[5,7]) (As:=[6]) (items:=pB) rfl af af af af (by decide) ?_
    iterate 5 refine .rf ?_
    refine .al rfl rfl (by decide) (by decide) (by decide) (by decide) fA ?_
    refine .wr rfl rfl (by decide) (.pure rfl rfl rfl call126 (by decide) (bU) (by first|rfl|simp[*]) ?_)
    intro _ e;rw[ig hd] at e;subst e;rw[RO hd,nP] at gy;obtain⟨hb,BX⟩:∃b,hasB c j w=b:=⟨_,rfl⟩;have lg:=lg w (by have:=(kS bj hd).2.2.2.2.2;omega);rw[BX] at lg gy
    refine .wr rfl rfl (by decide) (.eo fA (by decide) ?_)
    refine .done (.seq (.au iB rfl af ?_))
    refine .rn dt _ ?_
    refine .pc rfl rfl rfl rfl rfl call159 (lg) ?_
    refine .rn [5] [] ?_
    refine .done (.seq (.au fe rfl af ?_))
    refine .rn [0,1,2] _ ?_
    refine .split (t:=95) rfl (fun l9=>?_) (fun l9=>?_)
    ·try subst l9
     try simp at l9
     refine .rn [3,4] [] ?_
     refine .done ?_
     refine .cs ?_ ?_<;>intro nu
     ·try simp at nu
      rw[if_pos nu] at gy
      have pA:=pA s
      have AJ:=AJ O s (by omega)
      rw[hE] at AJ pA
      rcases RF O with⟨Ik,Gz⟩|Gz<;>simp only[Gz]
      ·skip
       refine .au gE rfl af (.rn fe _ ?_)
       refine .pc rfl rfl rfl rfl rfl call93 (pA) ?_
       refine .rn [6] [] ?_
       refine .done (.rn ?_)
       refine⟨k+1,bC,bC,?_⟩
       have qM:eL (oa c (all.take (k+1)))=.vec [.agg [.int .i64 s.k,.int .i64 s.a,.int .i64 s.i,.int .i64 s.l,.int .i64 s.w]]:=by rw[gy,Ik,← hE];rfl
       simp only[qM]
       exact bT
      skip
      refine .au gE rfl af (.rn fe _ ?_)
      refine .pc rfl rfl rfl rfl rfl call93 (AJ) ?_
      refine .rn [6] [] ?_
      refine .done (.rn ?_)
      refine⟨k+1,bC,bC,?_⟩
      have qM:eL (oa c (all.take (k+1)))=.vec ((eE O s).map encS):=by rw[gy,MJ (RG O s)]
      simp only[qM]
      exact bT
     try simp at nu
     rw[if_neg (by rw[nu];simp)] at gy
     have qM:eL (oa c (all.take (k+1)))=eL O:=by rw[gy]
     refine .skip (.rn ?_)
     refine⟨k+1,bC,bC,?_⟩
     simp only[qM]
     exact bT
    try subst l9
    try simp at l9
   try simp at pV
   obtain rfl:k=all.length:=by omega
   rw[List.take_length] at *
   refine .exit (.sr ?_)
   refine .ret (aA ?_)
   exact zk
  try simp at pU
 ·
  have hAe:rL c i j=[⟨2,i,j,0,0⟩]:=by unfold rL;rw[if_neg dY];rfl
  refine .sr ?_
  refine .sr ?_
  refine .seq (.sr ?_)
  refine .cs ?_ ?_<;>intro pU
  ·try simp at pU
  try simp at pU
  refine .skip (.sr ?_)
  refine .seq (.sr ?_)
  refine .block ?_
  refine .ec (fun z:Nat×List aq=>([(1,.int .i64 i),(2,.int .i64 j),(3,.ptr 0 0),(7,.grow 2 z.2.length true),(8,.int .i64 z.1)],⟨3,[(2,.grow 5 (z.2.map encS)),(0,.box (cQ c))]⟩)) (fun z=>z.1≤c.t.length+1∧z.2=rL c i j++uv i j z.1) (fun z=>c.t.length+1 - z.1) (0,rL c i j) (by simp[uv]) bT ?_
  rintro⟨n,all⟩ ⟨hn,bo⟩
  simp only at hn bo ⊢
  have eG:all.length≤103:=by rw[bo,List.length_append,I2];omega
  replace bo:=bo.symm
  refine .seq (.sr ?_)
  refine .cs ?_ ?_<;>intro iU
  ·try simp at iU
   have eO:IntKind.i64.wrap ((n:Int)+1)=((n+1:Nat):Int):=by rw[wrap64 (by omega) (by omega)];omega
   have q8:all.length+2≤4294967296:=by omega
   refine .skip (.seq (.block (.rn ?_)))
   refine .rn ?_
   refine⟨(n+1,all++[⟨3,i,j,n,0⟩,⟨4,i,j,n,0⟩]),⟨by omega,?_⟩,bC,(.mk [] [(2,4)] ib iQ rfl rfl rfl)⟩
   rw[← bo,MK,List.append_assoc]
  try simp at iU
  obtain rfl:n=c.t.length+1:=by omega
  refine .exit (.seq (.sr ?_))
  refine .block ?_
  refine .ec (fun z:Nat×List aq=>([(1,.int .i64 i),(2,.int .i64 j),(3,.ptr 0 0),(7,.grow 2 z.2.length true),(9,.int .i64 z.1)],⟨3,[(2,.grow 5 (z.2.map encS)),(0,.box (cQ c))]⟩)) (fun z=>z.1≤c.g.length∧z.2=rL c i j++uv i j (c.t.length+1)++vV i j z.1) (fun z=>c.g.length - z.1) (0,all) ⟨by simp,by rw[← bo];simp[vV]⟩ bT ?_
  clear bo eG
  rintro⟨n,all⟩ ⟨hn,bo⟩
  simp only at hn bo ⊢
  have eG:all.length≤109:=by rw[bo,List.length_append,List.length_append,I2,RK];omega
  replace bo:=bo.symm
  refine .seq (.sr ?_)
  refine .cs ?_ ?_<;>intro Gy
  ·try simp at Gy
   have eO:IntKind.i64.wrap ((n:Int)+1)=((n+1:Nat):Int):=by rw[wrap64 (by omega) (by omega)];omega
   have q8:all.length+1≤4294967296:=by omega
   refine .skip (.seq (.block (.rn ?_)))
   refine .rn ?_
   refine⟨(n+1,all++[⟨5,i,j,n,0⟩]),⟨by omega,?_⟩,bC,(.mk [] [(2,4)] ib iQ rfl rfl rfl)⟩
   rw[← bo,RI,List.append_assoc]
  try simp at Gy
  obtain rfl:n=c.g.length:=by omega
  have vW:l8 c i j=all:=by rw[ML,bo]
  rw[vW]
  refine .exit (.sr ?_)
  refine .seq (.sr ?_)
  refine .block ?_
  refine .ec (fun k:Nat=>([(2,.int .i64 j),(3,.ptr 0 0),(7,.grow 2 all.length true),(10,eL (oa c (all.take k))),(11,.int .i64 k)],⟨3,[(2,.grow 5 (all.map encS)),(0,.box (cQ c))]⟩)) (fun k=>k≤all.length) (fun k=>all.length - k) 0 (by simp) bT ?_
  rintro k gP
  simp only at gP ⊢
  refine .seq (.sr ?_)
  refine .cs ?_ ?_<;>intro pV
  ·try simp at pV
   have eO:IntKind.i64.wrap ((k:Int)+1)=((k+1:Nat):Int):=by rw[wrap64 (by omega) (by omega)];omega
   have fH:k<all.length:=by omega
   obtain⟨s,hs⟩:∃s,all[k]?=some s:=⟨_,List.getElem?_eq_getElem fH⟩
   have fU:all[k]=s:=(List.getElem?_eq_some_iff.1 hs).2
   have gy:=RL c (all.take k) s
   have xP:all.take (k+1)=all.take k++[s]:=by rw[List.take_succ_eq_append_getElem fH,fU]
   have il:=RM c (all.take k)
   rw[← xP] at gy
   rw[List.length_take] at il
   have nP:s.i.toNat=j:=by
    have hm:s∈l8 c i j:=by rw[vW];exact List.mem_of_getElem? hs
    exact RP hm
   obtain⟨O,hO⟩:∃O,oa c (all.take k)=O:=⟨_,rfl⟩
   rw[hO] at gy il ⊢
   have bU:=bU s
   rw[hE] at bU
   have MN:=MO (sz:=5) (es:=all.map encS) (q:=k) (e:=encS s) (fun e he=>by obtain⟨x,_,rfl⟩:=List.mem_map.1 he;rfl) (by rw[List.getElem?_map,hs];rfl)
   obtain⟨uw,xF⟩:=MN
   rw[List.length_flatMap,List.map_map] at xF
   rw[hE] at uw
   simp only[PV.cells] at uw
   rcases hd:aK c s with _|⟨n,i',w⟩
   ·skip
    refine .skip (.seq (.block (.seq ?_)))
    refine .rD (ms:=[0,0,0,6,14,31,0,127]) (W:=[5,7]) (As:=[6]) (items:=pB) rfl af af af af (by decide) ?_
    iterate 5 refine .rf ?_
    refine .al rfl rfl (by decide) (by decide) (by decide) (by decide) fA ?_
    refine .wr rfl rfl (by decide) (.pure rfl rfl rfl call126 (by decide) (bU) (by first|rfl|simp[*]) ?_)
    intro _ e;rw[j5 hd] at e;subst e;rw[if_neg (RN hd)] at gy
    refine .wr rfl rfl (by decide) (.eo fA (by decide) ?_)
    refine .done (.seq (.au iB rfl af ?_))
    refine .rn dt _ ?_
    refine .pc rfl rfl rfl rfl rfl call159 ((lg [] (by simp))) ?_
    refine .rn [5] [] ?_
    refine .done (.seq (.au fe rfl af ?_))
    refine .rn [0,1,2] _ ?_
    refine .split (t:=95) rfl (fun l9=>?_) (fun l9=>?_)
    ·try subst l9
     try simp at l9
    try subst l9
    try simp at l9
    refine .rn [3,4] [] ?_
    refine .done (.gn rfl (.skip (.rn ?_)))
    refine⟨k+1,bC,bC,?_⟩
    have qM:eL (oa c (all.take (k+1)))=eL O:=by rw[gy]
    simp only[qM]
    exact bT
   skip
   refine .skip (.seq (.block (.seq ?_)))
   refine .rD (ms:=[0,0,0,6,14,31,0,127]) (W:=[5,7]) (As:=[6]) (items:=pB) rfl af af af af (by decide) ?_
   iterate 5 refine .rf ?_
   refine .al rfl rfl (by decide) (by decide) (by decide) (by decide) fA ?_
   refine .wr rfl rfl (by decide) (.pure rfl rfl rfl call126 (by decide) (bU) (by first|rfl|simp[*]) ?_)
   intro _ e;rw[ig hd] at e;subst e;rw[RO hd,nP] at gy;obtain⟨hb,BX⟩:∃b,hasB c j w=b:=⟨_,rfl⟩;have lg:=lg w (by have:=(kS bj hd).2.2.2.2.2;omega);rw[BX] at lg gy
   refine .wr rfl rfl (by decide) (.eo fA (by decide) ?_)
   refine .done (.seq (.au iB rfl af ?_))
   refine .rn dt _ ?_
   refine .pc rfl rfl rfl rfl rfl call159 (lg) ?_
   refine .rn [5] [] ?_
   refine .done (.seq (.au fe rfl af ?_))
   refine .rn [0,1,2] _ ?_
   refine .split (t:=95) rfl (fun l9=>?_) (fun l9=>?_)
   ·try subst l9
    try simp at l9
    refine .rn [3,4] [] ?_
    refine .done ?_
    refine .cs ?_ ?_<;>intro nu
    ·try simp at nu
     rw[if_pos nu] at gy
     have pA:=pA s
     have AJ:=AJ O s (by omega)
     rw[hE] at AJ pA
     rcases RF O with⟨Ik,Gz⟩|Gz<;>simp only[Gz]
     ·skip
      refine .au gE rfl af (.rn fe _ ?_)
      refine .pc rfl rfl rfl rfl rfl call93 (pA) ?_
      refine .rn [6] [] ?_
      refine .done (.rn ?_)
      refine⟨k+1,bC,bC,?_⟩
      have qM:eL (oa c (all.take (k+1)))=.vec [.agg [.int .i64 s.k,.int .i64 s.a,.int .i64 s.i,.int .i64 s.l,.int .i64 s.w]]:=by rw[gy,Ik,← hE];rfl
      simp only[qM]
      exact bT
     skip
     refine .au gE rfl af (.rn fe _ ?_)
     refine .pc rfl rfl rfl rfl rfl call93 (AJ) ?_
     refine .rn [6] [] ?_
     refine .done (.rn ?_)
     refine⟨k+1,bC,bC,?_⟩
     have qM:eL (oa c (all.take (k+1)))=.vec ((eE O s).map encS):=by rw[gy,MJ (RG O s)]
     simp only[qM]
     exact bT
    try simp at nu
    rw[if_neg (by rw[nu];simp)] at gy
    have qM:eL (oa c (all.take (k+1)))=eL O:=by rw[gy]
    refine .skip (.rn ?_)
    refine⟨k+1,bC,bC,?_⟩
    simp only[qM]
    exact bT
   try subst l9
   try simp at l9
  try simp at pV
  obtain rfl:k=all.length:=by omega
  rw[List.take_length] at *
  refine .exit (.sr ?_)
  refine .ret (aA ?_)
  exact zk
end Go.Am.Sl
end
