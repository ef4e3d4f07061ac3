/-
 What is used in the proof of a statement (part SlG); no condition.
-/
import Derived.Test.YthnmgbgmlhackaaGreatDoorSlZ
import Derived.Test.YthnmgbgmlhackaaGreatDoorVm2
import Derived.Test.YthnmgbgmlhackaaGreatDoorSlT
import Derived.Test.YthnmgbgmlhackaaGreatDoorSlF
set_option linter.all false
set_option maxHeartbeats 40000000
set_option maxRecDepth 100000
section
namespace Go.Am.Sl
open Go Go.Am Go.Proofs Tryz
attribute [local simp] eQ ij pV dH gk mz ai.back cS fW lg bm Nat.testBit_eq_decide_div_mod_eq cC iE mw vO ph gF pj iP cU nG nF pe gG pf n4 lZ pT n3 pg o7 o4 o8 o5 o6 o9 pa mR eZ jW eP pn nH oc po pq mQ pR pS gE my fK fy fL kV gg nS nv ny jF oR bj nZ fx bP bK lD ai.get ai.alloc ai.put ai.drop ai.empty bt cZ iw jn gA cz chunk List.range List.range.loop lh pW l9 bI b6 PV.aG PV.aF PV.dc PV.fu gY gH od PV.one PV.ids PV.cF gI beq_eq qD rE
attribute [local simp] cQ bQ fN pZ ti p7 p9 pw gJ fI
attribute [local simp ↓ high] sD rJ
theorem Pz {c:aj}{j:Nat}{w:List Int}:hasB c j w=true↔j≤c.c.length∧∀m,m<w.length→j+m<c.c.length∧c.c[j+m]?=w[m]?:=by
 unfold hasB
 rw[bS,decide_eq_true_eq,decide_eq_true_eq]
 constructor
 ·rintro⟨h1,h2⟩
  refine⟨by omega,fun m hm=>⟨by omega,?_⟩⟩
  rw[← h2,List.getElem?_take_of_lt hm,List.getElem?_drop]
 rintro⟨h1,h2⟩
 have h3:j+w.length≤c.c.length:=by
  rcases Nat.eq_zero_or_pos w.length with h|h
  ·omega
  have:=(h2 (w.length - 1) (by omega)).1;omega
 refine⟨h3,List.ext_getElem? fun m=>?_⟩
 by_cases hm:m<w.length
 ·rw[List.getElem?_take_of_lt hm,List.getElem?_drop,(h2 m hm).2]
 rw[List.getElem?_eq_none (by rw[List.length_take];omega),List.getElem?_eq_none (by omega)]
theorem z1j {l:List gZ}{i:Nat}(h:i<l.length)(f t:Int):ed (l.drop i) f t=if l[i].f=f∧l[i].t=t then some l[i].c else ed (l.drop (i+1)) f t:=by
 rw[List.drop_eq_getElem_cons h];rfl
section
variable [bF]
theorem wD (n lo hi:Int):aN prog 99 [.int .i64 n,.int .i64 lo,.int .i64 hi] fun r=>r=.bool (decide (lo≤n)&&decide (n≤hi)):=by
 obtain⟨b,hb⟩:∃b,decide (lo≤n)=b:=⟨_,rfl⟩
 obtain⟨d,hd⟩:∃d,decide (n≤hi)=d:=⟨_,rfl⟩
 rw[hb,hd]
 refine .bT func99 rfl rfl ?_
 refine .sr ?_
 refine .seq (.ay rF rfl ae (.rn eD _ ?_))
 refine .split (t:=10) rfl (fun hU=>?_) (fun hU=>?_)
 ·try subst hU
  try simp at hU
  refine .rn [4,5,6,7,8] [] ?_
  refine .done (.ret (au ?_))
  exact zk
 try subst hU
 try simp at hU
 refine .rn [4,5,6,7,8] [] ?_
 refine .done (.ret (au ?_))
 exact zk
theorem Bn (n:Int):aN prog 161 [.int .i64 n] fun r=>r=.bool (dB n):=by
 refine .bT func161 rfl rfl ?_
 refine .sr ?_
 refine .seq (.ay [0,1,2] rfl ae (.rn [0] _ ?_))
 refine .pc rfl rfl rfl rfl rfl call99 (wD _ _ _) ?_
 refine .rn [2] [] ?_
 refine .done (.ret (au ?_))
 rfl
theorem PA (c:aj)(f t:Int)(hl:c.mx.length≤4294967295):aN prog 160 [.agg [.int .i64 c.om,.int .i64 c.le,.int .i64 c.tw,.int .i64 c.gl,.int .i64 c.ad,.vec (c.mx.map bk)],.int .i64 f,.int .i64 t] fun r=>r=.int .i64 ((ed c.mx f t).getD 0):=by
 refine .bT func160 rfl rfl ?_
 refine .sr ?_
 refine .seq (.sr ?_)
 refine .block ?_
 refine .dw (fun i:Nat=>([(1,.int .i64 f),(2,.int .i64 t),(3,.ptr 0 0),(7,.int .i64 i)],⟨1,[(0,.box [.int .i64 c.om,.int .i64 c.le,.int .i64 c.tw,.int .i64 c.gl,.int .i64 c.ad,.vec (c.mx.map bk)])]⟩)) (fun i=>i≤c.mx.length∧ed c.mx f t=ed (c.mx.drop i) f t) (fun i=>c.mx.length - i) 0 ⟨by simp,by simp⟩ bn ?_
 rintro i ⟨hi,hx⟩
 simp only at hi hx ⊢
 refine .seq (.sr ?_)
 refine .cs ?_ ?_<;>intro wm
 ·try simp at wm
  have et:=fA i
  have dy:i<c.mx.length:=by omega
  obtain⟨x,hxg⟩:∃x,c.mx[i]?=some x:=⟨_,List.getElem?_eq_getElem dy⟩
  have lV:c.mx[i]=x:=(List.getElem?_eq_some_iff.1 hxg).2
  rw[z1j dy,lV] at hx
  have hE:bk x=.agg [.int .i64 x.f,.int .i64 x.t,.int .i64 x.c]:=rfl
  obtain⟨e0,dz⟩:∃b,(x.f==f)=b:=⟨_,rfl⟩
  obtain⟨e1,gn⟩:∃b,(x.t==t)=b:=⟨_,rfl⟩
  refine .skip (.seq (.block (.seq (.ay qc rfl ae (.rn rF _ ?_)))))
  refine .split (t:=23) rfl (fun fS=>?_) (fun fS=>?_)
  ·try subst fS
   try simp at fS
   refine .rn [9,10,11,12,13,14,15,16,17] [] ?_
   refine .done ?_
   refine .cs ?_ ?_<;>intro dX
   ·try simp at dX
    subst dX
    have LP:x.f=f∧x.t=t:=⟨by simpa using dz,by simpa using gn⟩
    rw[if_pos LP] at hx
    refine .sr ?_
    refine .ret (au ?_)
    rw[hx];rfl
   try simp at dX
   refine .skip (.rn ?_)
   rw[if_neg (fun hh=>by rw[dX] at gn;simp[hh.2] at gn)] at hx
   exact⟨i+1,⟨bp,hx⟩,bp,bn⟩
  try subst fS
  try simp at fS
  refine .rn [9,10,11,12,13,14,15,16,17] [] ?_
  refine .done (.fD rfl (.skip (.rn ?_)))
  rw[if_neg (fun hh=>by simp[hh.1] at dz)] at hx
  exact⟨i+1,⟨bp,hx⟩,bp,bn⟩
 try simp at wm
 obtain rfl:i=c.mx.length:=by omega
 rw[List.drop_length] at hx
 refine .exit (.sr ?_)
 refine .ret (au ?_)
 rw[hx];rfl
theorem PB (c:aj)(j:Nat)(w:List Int)(hj:j≤100)(hl:w.length≤100)(hc:c.c.length≤100):aN prog 159 [aH c,.int .i64 j,eW w] fun r=>r=.bool (hasB c j w):=by
 have hC:cR c=(cQ c):=rfl
 unfold aH
 rw[hC]
 refine .bT func159 rfl rfl ?_
 rcases LD w with⟨rfl,hw⟩|hw
 ·
  rw[hw]
  refine .sr ?_
  refine .seq (.sr ?_)
  refine .block ?_
  refine .dw (fun k:Nat=>([(1,.int .i64 j),(2,.aI),(3,.ptr 0 0),(7,.int .i64 k)],⟨1,[(0,.box (cQ c))]⟩)) (fun k=>k=0) (fun k=>0) 0 rfl bn ?_
  rintro k hk
  simp only at hk ⊢
  refine .seq (.sr ?_)
  refine .cs ?_ ?_<;>intro lI
  ·try simp at lI
  try simp at lI
  refine .exit (.sr ?_)
  refine .ret (au ?_)
  subst hk;simp[hasB]
 ·
  rw[hw]
  refine .sr ?_
  refine .seq (.sr ?_)
  refine .block ?_
  refine .dw (fun k:Nat=>([(1,.int .i64 j),(2,ints w),(3,.ptr 0 0),(7,.int .i64 k)],⟨1,[(0,.box (cQ c))]⟩)) (fun k=>k≤w.length∧∀m,m<k→j+m<c.c.length∧c.c[j+m]?=w[m]?) (fun k=>w.length - k) 0 ⟨by simp,fun m h=>absurd h (Nat.not_lt_zero m)⟩ bn ?_
  rintro k hk
  simp only at hk ⊢
  refine .seq (.sr ?_)
  refine .cs ?_ ?_<;>intro lI
  ·try simp at lI
   obtain⟨hk,hm⟩:=hk
   have et:=fA k
   have qF:IntKind.i64.wrap ((j:Int)+(k:Int))=(j:Int)+(k:Int):=wrap64 (by omega) (by omega)
   have eG:k<w.length:=by omega
   obtain⟨e0,dz⟩:∃b,decide ((c.c.length:Int)≤(j:Int)+(k:Int))=b:=⟨_,rfl⟩
   obtain⟨wv,PD⟩:∃v,w[k]?=some v:=⟨_,List.getElem?_eq_getElem eG⟩
   have PE:w[k]=wv:=(List.getElem?_eq_some_iff.1 PD).2
   refine .skip (.seq (.block (.seq ?_)))
   refine .drawn (ms:=[0,0,3,0,8,24,63,127,255,511,255,255,3327,8191,16383,255,255,98559,229631,524287,1048575]) (W:=[]) (items:=[.op 0,.op 1,.op 2,.op 3,.op 4,.op 5,.op 6,.op 7,.op 8,.op 9,.op 10,.op 11,.op 12,.op 13,.op 14,.op 15,.op 16,.op 17,.op 18,.op 19,.op 20]) rfl ae ae ae ?_
   iterate 8 refine .rx ?_
   refine .split (t:=21) rfl (fun dm=>?_) (fun dm=>?_)
   ·try subst dm
    try simp at dm
    have hb:¬j+k<c.c.length:=by simp at dz;omega
    have hF:hasB c j w=false:=by
     rw[Bool.eq_false_iff];intro hh
     exact hb ((Pz.1 hh).2 k eG).1
    iterate 12 refine .ux ?_
    refine .rx ?_
    refine .done (.eA rfl (.sr ?_))
    refine .ret (au ?_)
    simp[hF]
   try subst dm
   try simp at dm
   have hb:j+k<c.c.length:=by simp at dz;omega
   have hq:0≤(j:Int)+(k:Int)∧(j:Int)+(k:Int)<(c.c.length:Int):=by omega
   have hqn:((j:Int)+(k:Int)).toNat=j+k:=by omega
   obtain⟨cv,jE⟩:∃v,c.c[j+k]?=some v:=⟨_,List.getElem?_eq_getElem hb⟩
   have ja:c.c[j+k]=cv:=(List.getElem?_eq_some_iff.1 jE).2
   iterate 13 refine .rx ?_
   refine .done ?_
   refine .cs ?_ ?_<;>intro pA
   ·try simp at pA
    have hF:hasB c j w=false:=by
     rw[Bool.eq_false_iff];intro hh
     have:=((Pz.1 hh).2 k eG).2
     rw[jE,PD] at this
     injection this with this
     exact pA this
    refine .sr ?_
    refine .ret (au ?_)
    simp[hF]
   try simp at pA
   have heq:cv=wv:=pA
   refine .skip (.rn ?_)
   refine⟨k+1,⟨bp,fun m ig=>?_⟩,bp,bn⟩
   rcases Nat.lt_or_ge m k with h|h
   ·exact hm m h
   obtain rfl:m=k:=by omega
   exact⟨hb,by rw[jE,PD,heq]⟩
  try simp at lI
  obtain⟨hk,hm⟩:=hk
  obtain rfl:k=w.length:=by omega
  have hF:hasB c j w=decide (j≤c.c.length):=by
   rw[Bool.eq_iff_iff,Pz,decide_eq_true_eq]
   exact⟨fun hh=>hh.1,fun hh=>⟨hh,hm⟩⟩
  refine .exit (.sr ?_)
  refine .ret (au ?_)
  simp[hF]
end
def j3 (s:aq)(w:List Int):Int:=if w=[] then s.i else IntKind.i64.wrap (s.i+w.length)
theorem Vq {s:aq}{w:List Int}(h:w≠[]):j3 s w=IntKind.i64.wrap (s.i+w.length):=if_neg h
def IP (c:aj)(s:aq):PV:=match aJ c s with
 |some (n,i',w)=>.agg [.int .i64 i',.int .i64 (j3 s w),.int .i64 n,eW w,.bool true]
 |none=>.agg [.int .i64 0,.int .i64 0,.int .i64 0,.aI,.bool false]
theorem jC {c:aj}{s:aq}{n:Int}{i':Nat}{w:List Int}(h:aJ c s=some (n,i',w)):IP c s=.agg [.int .i64 i',.int .i64 (j3 s w),.int .i64 n,eW w,.bool true]:=by unfold IP;rw[h]
theorem kQ {c:aj}{s:aq}(h:aJ c s=none):IP c s=.agg [.int .i64 0,.int .i64 0,.int .i64 0,.aI,.bool false]:=by unfold IP;rw[h]
theorem xgr {c:aj}{a i:Nat}{l w:Int}(h:a≤c.t.length):aJ c ⟨1,a,i,l,w⟩=if a<c.t.length∧l=0 then (ed c.mx (c.t.getD a 0) w).map fun n=>(n,a+1,[w]) else none:=by
 unfold aJ;rw[if_pos (by simp only;omega)];simp
theorem xh8 {c:aj}{a i:Nat}{l w:Int}(h:a≤c.t.length):aJ c ⟨2,a,i,l,w⟩=if a<c.t.length∧l=0∧w=0 then some (c.om,a+1,[]) else none:=by
 unfold aJ;rw[if_pos (by simp only;omega)];simp
theorem xhp {c:aj}{a i:Nat}{l w:Int}(h:a≤c.t.length):aJ c ⟨3,a,i,l,w⟩=if 1≤a∧1≤l∧l≤(c.t.length:Int) - a∧w=0∧c.t.getD (a+l.toNat - 1) 0=c.t.getD (a - 1) 0 then some (c.le,a+l.toNat,[]) else none:=by
 unfold aJ;rw[if_pos (by simp only;omega)];simp
theorem xha {c:aj}{a i:Nat}{l w:Int}(h:a≤c.t.length):aJ c ⟨4,a,i,l,w⟩=if 1≤l∧l≤(a:Int)∧w=0 then some (c.tw,a,(c.t.drop (a - l.toNat)).take l.toNat) else none:=by
 unfold aJ;rw[if_pos (by simp only;omega)];simp
theorem xgq {c:aj}{a i:Nat}{l w:Int}(h:a≤c.t.length):aJ c ⟨5,a,i,l,w⟩=if 0≤l∧l≤(c.g.length:Int) - 1∧w=0∧(c.g.getD l.toNat ⟨0,[]⟩).at_=a then some (c.gl,a,(c.g.getD l.toNat ⟨0,[]⟩).ws) else none:=by
 unfold aJ;rw[if_pos (by simp only;omega)];simp
theorem xhc {c:aj}{a i:Nat}{l w:Int}(h:a≤c.t.length):aJ c ⟨6,a,i,l,w⟩=if dB w=true∧l=0 then some (c.ad,a,[w]) else none:=by
 unfold aJ;rw[if_pos (by simp only;omega)];simp
theorem xgv {c:aj}{s:aq}(h1:s.k≠1)(h2:s.k≠2)(h3:s.k≠3)(h4:s.k≠4)(h5:s.k≠5)(h6:s.k≠6):aJ c s=none:=by
 unfold aJ;split
 ·simp[h1,h2,h3,h4,h5,h6]
 rfl
variable [bF] in
theorem EC (c:aj)(s:aq)(hk:bl c=0):aN prog 126 [aH c,encS s] fun r=>r=IP c s:=by
 have bo:=gR hk
 have oh:=bo.tl
 have Of:=bo.HI
 have sE:=bo.wc
 have hC:cR c=(cQ c):=rfl
 obtain⟨sk,sa,si,sl,sw⟩:=s
 have hE:encS ⟨sk,sa,si,sl,sw⟩=.agg [.int .i64 sk,.int .i64 sa,.int .i64 si,.int .i64 sl,.int .i64 sw]:=rfl
 have Bo:=fun f t=>PA c f t (by omega)
 unfold aH
 rw[hE,hC]
 refine .bT func126 rfl rfl ?_
 by_cases dx:0≤sa∧sa≤(c.t.length:Int)∧0≤si
 ·
  obtain⟨a,rfl⟩:∃a:Nat,sa=a:=⟨sa.toNat,by omega⟩
  obtain⟨i,rfl⟩:∃i:Nat,si=i:=⟨si.toNat,by omega⟩
  have eU:a≤c.t.length:=by omega
  have tG:=wD (a:Int) 0 (c.t.length:Int)
  have lX:IntKind.i64.wrap ((a:Int)+1)=((a+1:Nat):Int):=by rw[wrap64 (by omega) (by omega)];omega
  have D1:=fun l w=>@xgr c a i l w eU
  have D2:=fun l w=>@xh8 c a i l w eU
  have D3:=fun l w=>@xhp c a i l w eU
  have D4:=fun l w=>@xha c a i l w eU
  have D5:=fun l w=>@xgq c a i l w eU
  have D6:=fun l w=>@xhc c a i l w eU
  obtain⟨en,LQ⟩:∃b,((a:Int)==(c.t.length:Int))=b:=⟨_,rfl⟩
  obtain⟨el,mj⟩:∃b,(sl != 0)=b:=⟨_,rfl⟩
  obtain⟨ew,LR⟩:∃b,(sw != 0)=b:=⟨_,rfl⟩
  obtain⟨ez,LS⟩:∃b,((a:Int)==0)=b:=⟨_,rfl⟩
  have b7:el=true→¬sl=0:=fun h hh=>by rw[h] at mj;simp[hh] at mj
  have LU:ew=true→¬sw=0:=fun h hh=>by rw[h] at LR;simp[hh] at LR
  have Gh:en=true→¬a<c.t.length:=fun h hh=>by rw[h] at LQ;simp at LQ;omega
  have haz:ez=true→¬1≤a:=fun h hh=>by rw[h] at LS;simp at LS;omega
  have uU:el=false→sl=0:=fun h=>by rw[h] at mj;simpa using mj
  have Bp:ew=false→sw=0:=fun h=>by rw[h] at LR;simpa using LR
  have IQ:en=false→a<c.t.length:=fun h=>by rw[h] at LQ;simp at LQ;omega
  have PF:ez=false→1≤a:=fun h=>by rw[h] at LS;simp at LS;omega
  refine .sr ?_
  refine .sr ?_
  refine .sr ?_
  refine .sr ?_
  refine .sr ?_
  refine .seq (.ay eD rfl ae (.rn [0,1] _ ?_))
  refine .pc rfl rfl rfl rfl rfl call99 (tG) ?_
  refine .rn [3] [] ?_
  refine .done (.seq (.seq (.ay kg rfl ae ?_)))
  refine .rn [0,1,2] _ ?_
  refine .split (t:=28) rfl (fun sR=>?_) (fun sR=>?_)
  ·try subst sR
   try simp at sR
  try subst sR
  try simp at sR
  refine .rn [3,4,5] [] ?_
  refine .done ?_
  refine .cs ?_ ?_<;>intro vm
  ·try simp at vm
   exfalso;omega
  try simp at vm
  refine .skip (.seq (.sr ?_))
  refine .block (.sr ?_)
  refine .cs ?_ ?_<;>intro Bm
  ·try simp at Bm
   subst Bm
   have hD:=D1 sl sw
   refine .seq (.seq (.ay mC rfl ae (.rn eD _ ?_)))
   refine .split (t:=40) rfl (fun kO=>?_) (fun kO=>?_)
   ·try subst kO
    try simp at kO
    rw[if_neg (fun hh=>Gh rfl hh.1)] at hD
    refine .rn [4,5,6,7] [] ?_
    refine .done (.eA rfl (.sr ?_))
    refine .ret (au ?_)
    first|(rw[eH];done)|(rw[eH];first|rfl|(simp;done))|(rw[kQ hD];done)|(rw[jC hD];first|rfl|(simp[ints,eW,j3];done))
   try subst kO
   try simp at kO
   have oT:=IQ rfl
   obtain⟨tv,mB⟩:∃v,c.t[a]?=some v:=⟨_,List.getElem?_eq_getElem oT⟩
   have ka:c.t[a]=tv:=(List.getElem?_eq_some_iff.1 mB).2
   have yg:c.t.getD a 0=tv:=by rw[List.getD_eq_getElem?_getD,mB];rfl
   rw[yg] at hD
   have Bo:=Bo tv sw
   obtain⟨mv,CJ⟩:∃m,(ed c.mx tv sw).getD 0=m:=⟨_,rfl⟩
   rw[CJ] at Bo
   refine .rn [4,5,6,7] [] ?_
   refine .done ?_
   refine .cs ?_ ?_<;>intro qI
   ·try simp at qI
    rw[if_neg (fun hh=>b7 qI hh.2)] at hD
    refine .sr ?_
    refine .ret (au ?_)
    first|(rw[eH];done)|(rw[eH];first|rfl|(simp;done))|(rw[kQ hD];done)|(rw[jC hD];first|rfl|(simp[ints,eW,j3];done))
   try simp at qI
   rw[if_pos ⟨oT,uU qI⟩] at hD
   refine .skip (.seq ?_)
   refine .drawn (ms:=[0,1,0,4,0,28,60,0,128,511,1023]) (W:=[9]) (items:=yf) rfl ae ae ae ?_
   iterate 9 refine .rx ?_
   refine .wp rfl rfl rfl rfl rfl call160 (Bo) ?_
   refine .rx ?_
   refine .done (.seq (.sr ?_))
   refine .cs ?_ ?_<;>intro wE
   ·try simp at wE
    have lA:ed c.mx tv sw=none:=by
     cases hm:ed c.mx tv sw with
     |none=>rfl
     |some n=>
      obtain⟨x,hx,_,_,hxc⟩:=LV hm
      have:=(bo.Vr x hx).1
      rw[hm] at CJ
      simp at CJ
      omega
    rw[lA] at hD
    refine .sr ?_
    refine .ret (au ?_)
    first|(rw[eH];done)|(rw[eH];first|rfl|(simp;done))|(rw[kQ hD];done)|(rw[jC hD];first|rfl|(simp[ints,eW,j3];done))
   try simp at wE
   obtain⟨n,lA⟩:∃n,ed c.mx tv sw=some n:=by
    cases hm:ed c.mx tv sw with
    |none=>rw[hm] at CJ;exact absurd CJ.symm wE
    |some n=>exact⟨n,rfl⟩
   rw[lA] at hD CJ
   simp only[Option.getD_some] at CJ
   subst CJ
   refine .skip (.sr ?_)
   refine .ret (au ?_)
   first|(rw[eH];done)|(rw[eH];first|rfl|(simp;done))|(rw[kQ hD];done)|(rw[jC hD];first|rfl|(simp[ints,eW,j3];done))
  try simp at Bm
  refine .sr ?_
  refine .cs ?_ ?_<;>intro zF
  ·try simp at zF
   subst zF
   have hD:=D2 sl sw
   refine .seq (.seq (.ay jq rfl ae (.rn eD _ ?_)))
   refine .split (t:=74) rfl (fun mA=>?_) (fun mA=>?_)
   ·try subst mA
    try simp at mA
    rw[if_neg (fun hh=>Gh rfl hh.1)] at hD
    refine .rn [4,5,6,7,8,9,10,11,12] [] ?_
    refine .done (.eA rfl (.sr ?_))
    refine .ret (au ?_)
    first|(rw[eH];done)|(rw[eH];first|rfl|(simp;done))|(rw[kQ hD];done)|(rw[jC hD];first|rfl|(simp[ints,eW,j3];done))
   try subst mA
   try simp at mA
   refine .rn [4,5,6,7,8] _ ?_
   refine .split (t:=79) rfl (fun sJ=>?_) (fun sJ=>?_)
   ·try subst sJ
    try simp at sJ
    rw[if_neg (fun hh=>b7 rfl hh.2.1)] at hD
    refine .rn [9,10,11,12] [] ?_
    refine .done (.eA rfl (.sr ?_))
    refine .ret (au ?_)
    first|(rw[eH];done)|(rw[eH];first|rfl|(simp;done))|(rw[kQ hD];done)|(rw[jC hD];first|rfl|(simp[ints,eW,j3];done))
   try subst sJ
   try simp at sJ
   refine .rn [9,10,11,12] [] ?_
   refine .done ?_
   refine .cs ?_ ?_<;>intro LW
   ·try simp at LW
    rw[if_neg (fun hh=>LU LW hh.2.2)] at hD
    refine .sr ?_
    refine .ret (au ?_)
    first|(rw[eH];done)|(rw[eH];first|rfl|(simp;done))|(rw[kQ hD];done)|(rw[jC hD];first|rfl|(simp[ints,eW,j3];done))
   try simp at LW
   rw[if_pos ⟨IQ rfl,uU rfl,Bp LW⟩] at hD
   refine .skip (.sr ?_)
   refine .ret (au ?_)
   first|(rw[eH];done)|(rw[eH];first|rfl|(simp;done))|(rw[kQ hD];done)|(rw[jC hD];first|rfl|(simp[ints,eW,j3];done))
  try simp at zF
  refine .sr ?_
  refine .cs ?_ ?_<;>intro uy
  ·try simp at uy
   subst uy
   have hD:=D3 sl sw
   have o0:IntKind.i64.wrap ((c.t.length:Int) - (a:Int))=(c.t.length:Int) - (a:Int):=wrap64 (by omega) (by omega)
   have rV:=wD sl 1 ((c.t.length:Int) - (a:Int))
   obtain⟨wi,fg⟩:∃b,(decide (1≤sl)&&decide (sl≤(c.t.length:Int) - (a:Int)))=b:=⟨_,rfl⟩
   rw[fg] at rV
   refine .seq (.seq (.ay ik rfl ae (.rn [0,1,2] _ ?_)))
   refine .split (t:=97) rfl (fun pr=>?_) (fun pr=>?_)
   ·try subst pr
    try simp at pr
    rw[if_neg (fun hh=>haz rfl hh.1)] at hD
    refine .rn [3,4,5,6] [] ?_
    refine .done (.eA rfl (.sr ?_))
    refine .ret (au ?_)
    first|(rw[eH];done)|(rw[eH];first|rfl|(simp;done))|(rw[kQ hD];done)|(rw[jC hD];first|rfl|(simp[ints,eW,j3];done))
   try subst pr
   try simp at pr
   refine .rn [3,4,5,6] [] ?_
   refine .done ?_
   refine .cs ?_ ?_<;>intro tF
   ·try simp at tF
    rw[if_neg (fun hh=>LU tF hh.2.2.2.1)] at hD
    refine .sr ?_
    refine .ret (au ?_)
    first|(rw[eH];done)|(rw[eH];first|rfl|(simp;done))|(rw[kQ hD];done)|(rw[jC hD];first|rfl|(simp[ints,eW,j3];done))
   try simp at tF
   have ha1:=PF rfl
   refine .skip (.seq (.ay ik rfl ae (.rn gQ _ ?_)))
   refine .step rfl rfl (.pure rfl rfl rfl call99 (by decide) (rV) (by first|rfl|simp[*]) ?_)
   rintro _ rfl;obtain⟨nw,Ci⟩:∃b,(!wi)=b:=⟨_,rfl⟩
   refine .rn [6] [] ?_
   refine .done (.seq (.seq ?_))
   refine .drawn (ms:=[0,1,3,7,15,7,7,71,231,487,1023,2047,7,4103,7,16391,61447,126983,262143,524287]) (W:=[]) (items:=HL) rfl ae ae ae ?_
   iterate 3 refine .rx ?_
   refine .split (t:=111) rfl (fun gM=>?_) (fun gM=>?_)
   ·try subst gM
    try simp at gM
    have na:wi=false:=by simpa using Ci
    rw[if_neg (fun hh=>by rw[na] at fg;simp[hh.2.1,hh.2.2.1] at fg)] at hD
    iterate 16 refine .ux ?_
    refine .rx ?_
    refine .done (.eA rfl (.sr ?_))
    refine .ret (au ?_)
    first|(rw[eH];done)|(rw[eH];first|rfl|(simp;done))|(rw[kQ hD];done)|(rw[jC hD];first|rfl|(simp[ints,eW,j3];done))
   try subst gM
   try simp at gM
   have na:wi=true:=by simpa using Ci
   have xd:1≤sl∧sl≤(c.t.length:Int) - (a:Int):=by rw[na] at fg;simpa using fg
   obtain⟨l,rfl⟩:∃l:Nat,sl=l:=⟨sl.toNat,by omega⟩
   have FQ:IntKind.i64.wrap ((a:Int)+(l:Int))=(a:Int)+(l:Int):=wrap64 (by omega) (by omega)
   obtain⟨p,hp⟩:∃p:Nat,a+l - 1=p:=⟨_,rfl⟩
   obtain⟨q,hq⟩:∃q:Nat,a - 1=q:=⟨_,rfl⟩
   have zX:IntKind.i64.wrap ((a:Int)+(l:Int) - 1)=(p:Int):=by rw[wrap64 (by omega) (by omega)];omega
   have Kk:IntKind.i64.wrap ((a:Int) - 1)=(q:Int):=by rw[wrap64 (by omega) (by omega)];omega
   have jh:p<c.t.length:=by omega
   have hql:q<c.t.length:=by omega
   obtain⟨v1,iS⟩:∃v,c.t[p]?=some v:=⟨_,List.getElem?_eq_getElem jh⟩
   obtain⟨v2,eN⟩:∃v,c.t[q]?=some v:=⟨_,List.getElem?_eq_getElem hql⟩
   have Bq:c.t[p]=v1:=(List.getElem?_eq_some_iff.1 iS).2
   have Br:c.t[q]=v2:=(List.getElem?_eq_some_iff.1 eN).2
   have e1:c.t.getD p 0=v1:=by rw[List.getD_eq_getElem?_getD,iS];rfl
   have e2:c.t.getD q 0=v2:=by rw[List.getD_eq_getElem?_getD,eN];rfl
   rw[Int.toNat_natCast,hp,hq,e1,e2] at hD
   iterate 17 refine .rx ?_
   refine .done ?_
   refine .cs ?_ ?_<;>intro Bs
   ·try simp at Bs
    rw[if_neg (fun hh=>Bs hh.2.2.2.2)] at hD
    refine .sr ?_
    refine .ret (au ?_)
    first|(rw[eH];done)|(rw[eH];first|rfl|(simp;done))|(rw[kQ hD];done)|(rw[jC hD];first|rfl|(simp[ints,eW,j3];done))
   try simp at Bs
   rw[if_pos ⟨ha1,xd.1,xd.2,Bp tF,Bs⟩] at hD
   refine .skip (.sr ?_)
   refine .ret (au ?_)
   first|(rw[eH];done)|(rw[eH];first|rfl|(simp;done))|(rw[kQ hD];done)|(rw[jC hD];first|rfl|(simp[ints,eW,j3];done))
  try simp at uy
  refine .sr ?_
  refine .cs ?_ ?_<;>intro Bt
  ·try simp at Bt
   subst Bt
   have hD:=D4 sl sw
   have rV:=wD sl 1 (a:Int)
   obtain⟨wi,fg⟩:∃b,(decide (1≤sl)&&decide (sl≤(a:Int)))=b:=⟨_,rfl⟩
   rw[fg] at rV
   refine .seq (.ay gQ rfl ae (.rn [0,1,2] _ ?_))
   refine .pc rfl rfl rfl rfl rfl call99 (rV) ?_
   refine .rn [4] [] ?_
   refine .done (.seq (.seq (.ay ik rfl ae ?_)))
   refine .rn [0,1,2] _ ?_
   refine .split (t:=148) rfl (fun tH=>?_) (fun tH=>?_)
   ·try subst tH
    try simp at tH
    have na:wi=false:=by simpa using tH
    rw[if_neg (fun hh=>by rw[na] at fg;simp[hh.1,hh.2.1] at fg)] at hD
    refine .rn [3,4,5,6] [] ?_
    refine .done (.eA rfl (.sr ?_))
    refine .ret (au ?_)
    first|(rw[eH];done)|(rw[eH];first|rfl|(simp;done))|(rw[kQ hD];done)|(rw[jC hD];first|rfl|(simp[ints,eW,j3];done))
   try subst tH
   try simp at tH
   have na:wi=true:=by simpa using tH
   have xd:1≤sl∧sl≤(a:Int):=by rw[na] at fg;simpa using fg
   obtain⟨l,rfl⟩:∃l:Nat,sl=l:=⟨sl.toNat,by omega⟩
   obtain⟨p,hp⟩:∃p:Nat,a - l=p:=⟨_,rfl⟩
   have FQ:IntKind.i64.wrap ((a:Int) - (l:Int))=(p:Int):=by rw[wrap64 (by omega) (by omega)];omega
   have hpa:a - p=l:=by omega
   have jh:p≤a:=by omega
   rw[Int.toNat_natCast,hp] at hD
   obtain⟨W,hW⟩:∃W,(c.t.drop p).take l=W:=⟨_,rfl⟩
   have FT:W.length=l:=by rw[← hW,List.length_take,List.length_drop];omega
   have KQ:List.take l (List.drop p (c.t.map (PV.int .i64)))=W.map (PV.int .i64):=by rw[← hW,List.map_take,List.map_drop]
   have te:W≠[]:=fun h=>by rw[h] at FT;simp at FT;omega
   have PG:eW W=ints W:=HG te
   have PH:j3 ⟨4,a,i,l,sw⟩ W=IntKind.i64.wrap ((i:Int)+(l:Int)):=by rw[Vq te,FT]
   rw[hW] at hD
   clear hW
   refine .rn [3,4,5,6] [] ?_
   refine .done ?_
   refine .cs ?_ ?_<;>intro Bu
   ·try simp at Bu
    rw[if_neg (fun hh=>LU Bu hh.2.2)] at hD
    refine .sr ?_
    refine .ret (au ?_)
    first|(rw[eH];done)|(rw[eH];first|rfl|(simp;done))|(rw[kQ hD];done)|(rw[jC hD];first|rfl|(simp[ints,eW,j3];done))
   try simp at Bu
   rw[if_pos ⟨xd.1,xd.2,Bp Bu⟩] at hD
   have eH:=jC hD
   rw[PG,PH] at eH
   refine .skip (.seq ?_)
   refine .drawn (ms:=[0,0,0,4,14,31,0,64,192,0,512,0,0,4096,14336,0,65024,131071,262143]) (W:=[18]) (items:=[.op 0,.op 1,.op 2,.op 3,.op 4,.op 5,.op 6,.op 7,.op 8,.op 9,.op 10,.op 11,.op 12,.op 13,.op 14,.op 15,.op 16,.op 17,.op 18]) rfl ae ae ae ?_
   iterate 18 refine .rx ?_
   refine .wv ?_
   refine .done (.ret (au ?_))
   first|(rw[eH];done)|(rw[eH];first|rfl|(simp;done))|(rw[kQ hD];done)|(rw[jC hD];first|rfl|(simp[ints,eW,j3];done))
  try simp at Bt
  refine .sr ?_
  refine .cs ?_ ?_<;>intro oE
  ·try simp at oE
   subst oE
   have hD:=D5 sl sw
   have o0:IntKind.i64.wrap ((c.g.length:Int) - 1)=(c.g.length:Int) - 1:=wrap64 (by omega) (by omega)
   have rV:=wD sl 0 ((c.g.length:Int) - 1)
   obtain⟨wi,fg⟩:∃b,(decide (0≤sl)&&decide (sl≤(c.g.length:Int) - 1))=b:=⟨_,rfl⟩
   rw[fg] at rV
   refine .seq (.ay mC rfl ae (.rn kg _ ?_))
   refine .pc rfl rfl rfl rfl rfl call99 (rV) ?_
   refine .rn [7] [] ?_
   refine .done (.seq (.seq (.ay qc rfl ae ?_)))
   refine .rn [0,1,2] _ ?_
   refine .split (t:=183) rfl (fun tJ=>?_) (fun tJ=>?_)
   ·try subst tJ
    try simp at tJ
    have na:wi=false:=by simpa using tJ
    rw[if_neg (fun hh=>by rw[na] at fg;simp[hh.1,hh.2.1] at fg)] at hD
    refine .rn [3,4,5,6,7,8,9,10,11,12,13,14,15,16,17] [] ?_
    refine .done (.eA rfl (.sr ?_))
    refine .ret (au ?_)
    first|(rw[eH];done)|(rw[eH];first|rfl|(simp;done))|(rw[kQ hD];done)|(rw[jC hD];first|rfl|(simp[ints,eW,j3];done))
   try subst tJ
   try simp at tJ
   have na:wi=true:=by simpa using tJ
   have xd:0≤sl∧sl≤(c.g.length:Int) - 1:=by rw[na] at fg;simpa using fg
   obtain⟨l,rfl⟩:∃l:Nat,sl=l:=⟨sl.toNat,by omega⟩
   have fc:l<c.g.length:=by omega
   obtain⟨y,hy⟩:∃y,c.g[l]?=some y:=⟨_,List.getElem?_eq_getElem fc⟩
   have yh:c.g[l]=y:=(List.getElem?_eq_some_iff.1 hy).2
   have hyd:c.g.getD l ⟨0,[]⟩=y:=by rw[List.getD_eq_getElem?_getD,hy];rfl
   have Vs:=bo.La y (List.mem_of_getElem? hy)
   have hG:bV y=.agg [.int .i64 y.at_,ints y.ws]:=rfl
   rw[Int.toNat_natCast,hyd] at hD
   have hyl:=Vs.2.2.1
   have wF:=Vs.2.1
   have te:y.ws≠[]:=fun h=>by rw[h] at wF;simp at wF
   have PG:eW y.ws=ints y.ws:=HG te
   have PH:j3 ⟨5,a,i,l,sw⟩ y.ws=IntKind.i64.wrap ((i:Int)+(y.ws.length:Int)):=Vq te
   refine .rn [3,4,5,6,7] _ ?_
   refine .split (t:=188) rfl (fun yj=>?_) (fun yj=>?_)
   ·try subst yj
    try simp at yj
    rw[if_neg (fun hh=>LU rfl hh.2.2.1)] at hD
    refine .rn [8,9,10,11,12,13,14,15,16,17] [] ?_
    refine .done (.eA rfl (.sr ?_))
    refine .ret (au ?_)
    first|(rw[eH];done)|(rw[eH];first|rfl|(simp;done))|(rw[kQ hD];done)|(rw[jC hD];first|rfl|(simp[ints,eW,j3];done))
   try subst yj
   try simp at yj
   refine .rn [8,9,10,11,12,13,14,15,16,17] [] ?_
   refine .done ?_
   refine .cs ?_ ?_<;>intro Bv
   ·try simp at Bv
    rw[if_neg (fun hh=>Bv hh.2.2.2)] at hD
    refine .sr ?_
    refine .ret (au ?_)
    first|(rw[eH];done)|(rw[eH];first|rfl|(simp;done))|(rw[kQ hD];done)|(rw[jC hD];first|rfl|(simp[ints,eW,j3];done))
   try simp at Bv
   rw[if_pos ⟨xd.1,xd.2,Bp rfl,Bv⟩] at hD
   have eH:=jC hD
   rw[PG,PH] at eH
   refine .skip (.seq ?_)
   refine .drawn (ms:=[0,0,0,4,0,16,60,124,252,508,1022,2047,0,4096,12288,0,32768,0,131072,491520,1015808,2064384,4194303,8388607]) (W:=[23]) (items:=TJ) rfl ae ae ae ?_
   iterate 23 refine .rx ?_
   refine .wv ?_
   refine .done (.ret (au ?_))
   first|(rw[eH];done)|(rw[eH];first|rfl|(simp;done))|(rw[kQ hD];done)|(rw[jC hD];first|rfl|(simp[ints,eW,j3];done))
  try simp at oE
  refine .sr ?_
  refine .cs ?_ ?_<;>intro Bw
  ·try simp at Bw
   subst Bw
   have hD:=D6 sl sw
   have ym:=Bn sw
   obtain⟨wb,zX⟩:∃b,dB sw=b:=⟨_,rfl⟩
   rw[zX] at ym
   refine .seq (.ay eD rfl ae (.rn [0,1] _ ?_))
   refine .pc rfl rfl rfl rfl rfl call161 (ym) ?_
   refine .rn [3] [] ?_
   refine .done (.seq (.seq (.ay ik rfl ae ?_)))
   refine .rn [0,1,2] _ ?_
   refine .split (t:=230) rfl (fun lr=>?_) (fun lr=>?_)
   ·try subst lr
    try simp at lr
    rw[if_neg (fun hh=>by rw[hh.1] at zX;simp[← zX] at lr)] at hD
    refine .rn [3,4,5,6] [] ?_
    refine .done (.eA rfl (.sr ?_))
    refine .ret (au ?_)
    first|(rw[eH];done)|(rw[eH];first|rfl|(simp;done))|(rw[kQ hD];done)|(rw[jC hD];first|rfl|(simp[ints,eW,j3];done))
   try subst lr
   try simp at lr
   refine .rn [3,4,5,6] [] ?_
   refine .done ?_
   refine .cs ?_ ?_<;>intro oF
   ·try simp at oF
    rw[if_neg (fun hh=>b7 oF hh.2)] at hD
    refine .sr ?_
    refine .ret (au ?_)
    first|(rw[eH];done)|(rw[eH];first|rfl|(simp;done))|(rw[kQ hD];done)|(rw[jC hD];first|rfl|(simp[ints,eW,j3];done))
   try simp at oF
   rw[if_pos ⟨zX.trans (by simpa using lr),uU oF⟩] at hD
   refine .skip (.sr ?_)
   refine .ret (au ?_)
   first|(rw[eH];done)|(rw[eH];first|rfl|(simp;done))|(rw[kQ hD];done)|(rw[jC hD];first|rfl|(simp[ints,eW,j3];done))
  try simp at Bw
  have hD:aJ c ⟨sk,a,i,sl,sw⟩=none:=xgv (s:=⟨sk,a,i,sl,sw⟩) Bm zF uy Bt oE Bw
  refine .skip (.sr ?_)
  refine .ret (au ?_)
  first|(rw[eH];done)|(rw[eH];first|rfl|(simp;done))|(rw[kQ hD];done)|(rw[jC hD];first|rfl|(simp[ints,eW,j3];done))
 ·
  have hN:=kQ (TE (c:=c) (s:=⟨sk,sa,si,sl,sw⟩) dx)
  have tG:=wD sa 0 (c.t.length:Int)
  rw[hN]
  obtain⟨wi,fg⟩:∃b,(decide (0≤sa)&&decide (sa≤(c.t.length:Int)))=b:=⟨_,rfl⟩
  obtain⟨nw,Ci⟩:∃b,(!wi)=b:=⟨_,rfl⟩
  rw[fg] at tG
  refine .sr ?_
  refine .sr ?_
  refine .sr ?_
  refine .sr ?_
  refine .sr ?_
  refine .seq (.ay eD rfl ae (.rn [0,1] _ ?_))
  refine .pc rfl rfl rfl rfl rfl call99 (tG) ?_
  refine .rn [3] [] ?_
  refine .done (.seq (.seq (.ay kg rfl ae ?_)))
  refine .rn [0,1,2] _ ?_
  refine .split (t:=28) rfl (fun sR=>?_) (fun sR=>?_)
  ·try subst sR
   try simp at sR
   refine .rn [3,4,5] [] ?_
   refine .done (.eA rfl (.sr ?_))
   refine .ret (au ?_)
   exact zk
  try subst sR
  try simp at sR
  refine .rn [3,4,5] [] ?_
  refine .done ?_
  refine .cs ?_ ?_<;>intro vm
  ·try simp at vm
   refine .sr ?_
   refine .ret (au ?_)
   exact zk
  try simp at vm
  exfalso;have lX:wi=true:=by simpa using Ci
  rw[lX] at fg;simp at fg;exact dx ⟨fg.1,fg.2,by omega⟩
theorem PI (w:List Int):PV.one (eW w)=true:=by unfold eW;split<;>rfl
attribute [local simp ↓ high] PI
def CK (c:aj)(l:List aq):PV:=match eE c l with
 |some (o,n)=>.agg [ints o,.int .i64 n,.bool true]
 |none=>.agg [.vec [],.int .i64 0,.bool false]
theorem LX {a b:PV}(ha:a.aG=true)(hb:b.aG=true):eR (.agg [.aI,a,b]) (.agg [.vec [],a,b]):=.lO (.cons .dC (.cons (.same _ ha) (.cons (.same _ hb) .nil)))
theorem xa4 (c:aj)(l:List aq):(CK c l).aG=true:=by
 unfold CK
 split<;>simp[PV.aG,PV.aF]
section
variable [bF]
theorem PJ (a b:List Int)(ha:a.length<4611686018427387904)(hb:b.length<4611686018427387904):aN prog 37 [ints a,ints b] fun r=>r=.bool (decide (a=b)):=by
 refine .bT func37 rfl rfl ?_
 refine .sr ?_
 refine .seq (.sr ?_)
 refine .cs ?_ ?_<;>intro hU
 ·try simp at hU
  have cY:decide (a=b)=false:=by
   rw[decide_eq_false_iff_not];intro h;rw[h] at hU;simp at hU
  refine .sr ?_
  refine .ret (au ?_)
  rw[cY]
 try simp at hU
 have hlen:b.length=a.length:=by omega
 refine .skip (.seq (.sr ?_))
 refine .block ?_
 refine .dw (fun i:Nat=>([(0,ints a),(1,ints b),(5,.int .i64 i)],ai.empty)) (fun i=>i≤a.length∧a.take i=b.take i) (fun i=>a.length - i) 0 ⟨by simp,by simp⟩ (.pure (by simp[*]) (by simp)) ?_
 rintro i ⟨hi,ht⟩
 simp only at hi ht ⊢
 refine .seq (.sr ?_)
 refine .cs ?_ ?_<;>intro iy
 ·try simp at iy
  have et:=fA i
  have qG:i<a.length:=by omega
  have zH:i<b.length:=by omega
  obtain⟨x,hx⟩:∃x,a[i]?=some x:=⟨_,List.getElem?_eq_getElem qG⟩
  obtain⟨y,hy⟩:∃y,b[i]?=some y:=⟨_,List.getElem?_eq_getElem zH⟩
  have lV:a[i]=x:=(List.getElem?_eq_some_iff.1 hx).2
  have yh:b[i]=y:=(List.getElem?_eq_some_iff.1 hy).2
  refine .skip (.seq (.block (.seq ?_)))
  refine .drawn (ms:=[0,0,3,7,0,0,48,112,255]) (W:=[]) (items:=DZ) rfl ae ae ae ?_
  iterate 9 refine .rx ?_
  refine .done ?_
  refine .cs ?_ ?_<;>intro gq
  ·try simp at gq
   have vt:¬x=y:=gq
   have cY:decide (a=b)=false:=by
    rw[decide_eq_false_iff_not];intro h
    rw[h,hy] at hx;injection hx with hx;exact vt hx.symm
   refine .sr ?_
   refine .ret (au ?_)
   rw[cY]
  try simp at gq
  have vt:x=y:=gq
  refine .skip (.rn ?_)
  refine⟨i+1,⟨bp,?_⟩,bp,.pure (by simp[*]) (by simp)⟩
  rw[List.take_succ_eq_append_getElem qG,List.take_succ_eq_append_getElem zH,ht,lV,yh,vt]
 try simp at iy
 obtain rfl:i=a.length:=by omega
 have cY:decide (a=b)=true:=by
  rw[decide_eq_true_eq]
  rw[List.take_length,← hlen,List.take_length] at ht
  exact ht
 refine .exit (.sr ?_)
 refine .ret (au ?_)
 rw[cY]
theorem p34 (a b:List aq)(ha:a.length<4611686018427387904)(hb:b.length<4611686018427387904):aN prog 34 [.vec (a.map encS),.vec (b.map encS)] fun r=>r=.bool (decide (a=b)):=by
 refine .bT func34 rfl rfl ?_
 refine .sr ?_
 refine .seq (.sr ?_)
 refine .cs ?_ ?_<;>intro hU
 ·try simp at hU
  have cY:decide (a=b)=false:=by
   rw[decide_eq_false_iff_not];intro h;rw[h] at hU;simp at hU
  refine .sr ?_
  refine .ret (au ?_)
  rw[cY]
 try simp at hU
 have hlen:b.length=a.length:=by omega
 refine .skip (.seq (.sr ?_))
 refine .block ?_
 refine .dw (fun i:Nat=>([(0,.vec (a.map encS)),(1,.vec (b.map encS)),(5,.int .i64 i)],ai.empty)) (fun i=>i≤a.length∧a.take i=b.take i) (fun i=>a.length - i) 0 ⟨by simp,by simp⟩ (.pure (by simp[*]) (by simp)) ?_
 rintro i ⟨hi,ht⟩
 simp only at hi ht ⊢
 refine .seq (.sr ?_)
 refine .cs ?_ ?_<;>intro iy
 ·try simp at iy
  have et:=fA i
  have qG:i<a.length:=by omega
  have zH:i<b.length:=by omega
  obtain⟨x,hx⟩:∃x,a[i]?=some x:=⟨_,List.getElem?_eq_getElem qG⟩
  obtain⟨y,hy⟩:∃y,b[i]?=some y:=⟨_,List.getElem?_eq_getElem zH⟩
  have lV:a[i]=x:=(List.getElem?_eq_some_iff.1 hx).2
  have yh:b[i]=y:=(List.getElem?_eq_some_iff.1 hy).2
  have hE:∀s:aq,encS s=.agg [.int .i64 s.k,.int .i64 s.a,.int .i64 s.i,.int .i64 s.l,.int .i64 s.w]:=fun _=>rfl
  refine .skip (.seq (.block (.seq ?_)))
  refine .drawn (ms:=[0,0,3,7,0,0,48,112,255]) (W:=[]) (items:=DZ) rfl ae ae ae ?_
  iterate 9 refine .rx ?_
  refine .done ?_
  refine .cs ?_ ?_<;>intro gq
  ·try simp at gq
   have vt:¬x=y:=fun e=>by subst e;simp at gq
   have cY:decide (a=b)=false:=by
    rw[decide_eq_false_iff_not];intro h
    rw[h,hy] at hx;injection hx with hx;exact vt hx.symm
   refine .sr ?_
   refine .ret (au ?_)
   rw[cY]
  try simp at gq
  have vt:x=y:=by cases x;cases y;simp at gq;simp[gq]
  refine .skip (.rn ?_)
  refine⟨i+1,⟨bp,?_⟩,bp,.pure (by simp[*]) (by simp)⟩
  rw[List.take_succ_eq_append_getElem qG,List.take_succ_eq_append_getElem zH,ht,lV,yh,vt]
 try simp at iy
 obtain rfl:i=a.length:=by omega
 have cY:decide (a=b)=true:=by
  rw[decide_eq_true_eq]
  rw[List.take_length,← hlen,List.take_length] at ht
  exact ht
 refine .exit (.sr ?_)
 refine .ret (au ?_)
 rw[cY]
theorem PK (c:aj)(l:List aq)(hk:bl c=0)(fc:l.length≤200):aN prog 127 [aH c,.vec (l.map encS)] fun r=>eR r (CK c l):=by
 have bo:=gR hk
 have oh:=bo.tl
 have hC:cR c=(cQ c):=rfl
 have hE:∀s:aq,encS s=.agg [.int .i64 s.k,.int .i64 s.a,.int .i64 s.i,.int .i64 s.l,.int .i64 s.w]:=fun _=>rfl
 have cG:=fun s=>EC c s hk
 have tG:=fun a i:Int=>wD a i (c.t.length:Int)
 have uv:=WI.start c l
 unfold aH at cG ⊢
 rw[hC] at cG ⊢
 have xH:eE c l=none→CK c l=.agg [.vec [],.int .i64 0,.bool false]:=fun h=>by unfold CK;rw[h]
 refine .bT func127 rfl rfl ?_
 refine .sr ?_
 refine .sr ?_
 refine .sr ?_
 refine .sr ?_
 refine .seq (.sr ?_)
 refine .block ?_
 refine .dw (fun z:Nat×List Int×Nat×Int=>([(1,.vec (l.map encS)),(2,.ptr 0 0),(4,.ptr 1 0),(5,.grow 2 z.2.1.length true),(6,.int .i64 z.2.2.2),(7,.int .i64 z.2.2.1),(8,.int .i64 z.1)],⟨3,[(2,.grow 1 (z.2.1.map (.int .i64))),(1,.box [.aI,.int .i64 0,.bool false]),(0,.box (cQ c))]⟩)) (fun z=>WI c l z.1 z.2.1 z.2.2.1 z.2.2.2) (fun z=>l.length - z.1) (0,[],0,0) uv bn ?_
 clear uv
 rintro⟨k,out,i,sum⟩ hI
 simp only at hI ⊢
 have eG:=hI.hk
 have dy:=hI.hi
 have Aw:=hI.h0
 have rp:=hI.h1
 have Dk:=hI.ho
 refine .seq (.sr ?_)
 refine .cs ?_ ?_<;>intro cI
 ·try simp at cI
  have et:=fA k
  have fO:k<l.length:=by omega
  obtain⟨s,hs⟩:∃s,l[k]?=some s:=⟨l[k],List.getElem?_eq_getElem fO⟩
  have gy:l[k]=s:=(List.getElem?_eq_some_iff.1 hs).2
  have tG:=tG s.a i
  obtain⟨wi,fg⟩:∃b,(decide ((i:Int)≤s.a)&&decide (s.a≤(c.t.length:Int)))=b:=⟨_,rfl⟩
  rw[fg] at tG
  have cG:=cG s
  rw[hE] at cG
  refine .skip (.seq (.block (.sr ?_)))
  refine .seq (.ay mC rfl ae (.rn kg _ ?_))
  refine .pc rfl rfl rfl rfl rfl call99 (tG) ?_
  refine .rn [7] [] ?_
  refine .done (.seq (.sr ?_))
  refine .cs ?_ ?_<;>intro LY
  ·try simp at LY
   have hb:=hI.bad hs (.inl (fun hh=>by rw[LY] at fg;simp[hh.1,hh.2] at fg))
   refine .sr ?_
   refine .ret (au ?_)
   rw[xH hb];exact LX rfl rfl
  try simp at LY
  have dx:(i:Int)≤s.a∧s.a≤(c.t.length:Int):=by rw[LY] at fg;simpa using fg
  obtain⟨a,ha⟩:∃a:Nat,s.a=a:=⟨s.a.toNat,by omega⟩
  have rz:s.a.toNat=a:=by omega
  have qG:i≤a:=by omega
  have eU:a≤c.t.length:=by omega
  have kE:=@WI.bad c l k out i sum hI s hs
  have fJ:=@WI.next c bo l k out i sum hI s hs
  rw[rz] at kE fJ
  have jB:(a:Int)≤(c.t.length:Int):=by omega
  have O8:(i:Int)≤(a:Int):=by omega
  rw[ha] at cG
  have aP:((c.t.drop i).take (a - i)).length=a - i:=by rw[List.length_take,List.length_drop];omega
  have q9:List.take (a - i) (List.drop i (c.t.map (PV.int .i64)))=((c.t.drop i).take (a - i)).map (PV.int .i64):=by rw[List.map_take,List.map_drop]
  obtain⟨Q,hQ⟩:∃Q,(c.t.drop i).take (a - i)=Q:=⟨_,rfl⟩
  rw[hQ] at aP q9 kE fJ
  have hlq:out.length+Q.length≤4294967296:=by omega
  have O9:out.length+Q.length≤20000:=by omega
  clear aP
  obtain⟨ni,F4⟩:∃b,(s.i != (out.length:Int)+(Q.length:Int))=b:=⟨_,rfl⟩
  rcases hd:aJ c s with _|⟨n,i',w⟩
  ·skip
   refine .skip (.sr ?_)
   refine .seq (.ay gQ rfl ae (.rn [0,1] _ ?_))
   refine .step rfl rfl (.pure rfl rfl rfl call126 (by decide) (cG) (by first|rfl|simp[*]) ?_)
   intro _ e;rw[kQ hd] at e;subst e;have wC:=kE (.inr (.inl hd))
   refine .rn [3,4] [] ?_
   refine .done (.seq (.seq (.ay fM rfl ae ?_)))
   refine .rn kg _ ?_
   refine .split (t:=48) rfl (fun jK=>?_) (fun jK=>?_)
   ·try subst jK
    try simp at jK
    refine .rn [6,7,8,9] [] ?_
    refine .done (.eA rfl (.sr ?_))
    refine .ret (au ?_)
    rw[xH wC];exact LX rfl rfl
   try subst jK
   try simp at jK
   refine .rn [6,7,8,9] [] ?_
   refine .done ?_
   refine .cs ?_ ?_<;>intro vn
   ·try simp at vn
    refine .sr ?_
    refine .ret (au ?_)
    rw[xH wC];exact LX rfl rfl
   try simp at vn
  skip
  refine .skip (.sr ?_)
  refine .seq (.ay gQ rfl ae (.rn [0,1] _ ?_))
  refine .step rfl rfl (.pure rfl rfl rfl call126 (by decide) (cG) (by first|rfl|simp[*]) ?_)
  intro _ e;rw[jC hd] at e;subst e;obtain⟨d1,d2,d3,d4,d5,d6⟩:=kN bo hd;have hws:IntKind.i64.wrap (sum+n)=sum+n:=wrap64 (by omega) (by omega);have hlw:out.length+Q.length+w.length≤4294967296:=by omega
  refine .rn [3,4] [] ?_
  refine .done (.seq (.seq (.ay fM rfl ae ?_)))
  refine .rn kg _ ?_
  refine .split (t:=48) rfl (fun jK=>?_) (fun jK=>?_)
  ·try subst jK
   try simp at jK
   have wC:=kE (.inr (.inr (fun e=>by rw[e] at F4;simp at F4)))
   refine .rn [6,7,8,9] [] ?_
   refine .done (.eA rfl (.sr ?_))
   refine .ret (au ?_)
   rw[xH wC];exact LX rfl rfl
  try subst jK
  try simp at jK
  have nX:s.i=(out.length:Int)+(Q.length:Int):=by simpa using F4
  have te:=fJ dx hd (by rw[nX];simp)
  refine .rn [6,7,8,9] [] ?_
  refine .done ?_
  refine .cs ?_ ?_<;>intro vn
  ·try simp at vn
  try simp at vn
  rcases LD w with⟨rfl,hw⟩|hw<;>simp only[hw]
  ·skip
   refine .skip (.sr ?_)
   refine .sr ?_
   refine .rn ?_
   refine .rn ?_
   refine⟨(k+1,out++Q++[],i',sum+n),te,bp,(.mk [] [(2,6)] ia ix rfl rfl rfl)⟩
  skip
  refine .skip (.sr ?_)
  refine .sr ?_
  refine .rn ?_
  refine .rn ?_
  have Pa:=Nat.add_assoc out.length Q.length w.length
  refine⟨(k+1,out++Q++w,i',sum+n),te,bp,(.mk [] [(2,6)] ia ix rfl rfl rfl)⟩
 try simp at cI
 obtain rfl:k=l.length:=by omega
 have cN:=hI.stop
 obtain⟨D,hD⟩:∃D,c.t.drop i=D:=⟨_,rfl⟩
 have hE4:List.drop i (c.t.map (PV.int .i64))=D.map (PV.int .i64):=by rw[← hD,List.map_drop]
 have zT:List.take (c.t.length - i) (D.map (PV.int .i64))=D.map (PV.int .i64):=List.take_of_length_le (by rw[← hD];simp)
 have x8:D.length≤48:=by rw[← hD,List.length_drop];omega
 have b7:out.length+D.length≤4294967296:=by omega
 rw[hD] at cN
 clear hD
 have Pb:(i:Int)≤(c.t.length:Int):=by omega
 have uQ:CK c l=.agg [ints (out++D),.int .i64 sum,.bool true]:=by unfold CK;rw[cN]
 refine .exit (.sr ?_)
 refine .ret (au ?_)
 rw[uQ];simp only[ints,List.map_append];exact oB rfl
theorem PL (c:aj)(l:List aq)(hk:bl c=0)(fc:l.length≤200):aN prog 107 [aH c,.vec (l.map encS)] fun r=>r=.int .i64 ((cJ c l).getD (-1)):=by
 have bo:=gR hk
 have eM:=bo.cl
 have hC:cR c=(cQ c):=rfl
 have qi:=aN.soft (PK c l hk fc) (xa4 c l)
 have hx:cJ c l=if 100<l.length then none else match eE c l with|some (o,n)=>if o=c.c then some n else none|none=>none:=rfl
 unfold aH at qi ⊢
 rw[hC] at qi ⊢
 unfold CK at qi
 refine .bT func107 rfl rfl ?_
 rcases hw:eE c l with _|⟨o,n⟩
 ·
  rw[hw] at hx qi
  simp only at hx qi
  have oC:cJ c l=none:=by rw[hx];split<;>rfl
  rw[oC]
  have LZ:=PJ [] c.c (by simp) (by omega)
  refine .sr ?_
  refine .seq (.sr ?_)
  refine .cs ?_ ?_<;>intro c9
  ·try simp at c9
   refine .sr ?_
   refine .ret (au ?_)
   exact zk
  try simp at c9
  refine .skip (.seq (.ay gQ rfl ae (.rn [0,1] _ ?_)))
  refine .pc rfl rfl rfl rfl rfl call127 (qi) ?_
  refine .rn [3,4] [] ?_
  refine .done (.seq (.ay kg rfl ae ?_))
  refine .rn eD _ ?_
  refine .pc rfl rfl rfl rfl rfl call37 (LZ) ?_
  refine .rn [5] [] ?_
  refine .done (.seq (.seq (.ay ik rfl ae ?_)))
  refine .rn eD _ ?_
  refine .split (t:=21) rfl (fun dm=>?_) (fun dm=>?_)
  ·try subst dm
   try simp at dm
   refine .rn [4,5,6] [] ?_
   refine .done (.eA rfl (.sr ?_))
   refine .ret (au ?_)
   exact zk
  try subst dm
  try simp at dm
 ·
  rw[hw] at hx qi
  simp only at hx qi
  have rA:=U1 bo hw
  have LZ:=PJ o c.c (by omega) (by omega)
  obtain⟨eb,sN⟩:∃b,decide (o=c.c)=b:=⟨_,rfl⟩
  rw[sN] at LZ
  refine .sr ?_
  refine .seq (.sr ?_)
  refine .cs ?_ ?_<;>intro c9
  ·try simp at c9
   rw[if_pos (show 100<l.length by omega)] at hx
   refine .sr ?_
   refine .ret (au ?_)
   first|(rw[hx];rfl)|(rw[oC];rfl)
  try simp at c9
  rw[if_neg (by omega)] at hx
  refine .skip (.seq (.ay gQ rfl ae (.rn [0,1] _ ?_)))
  refine .pc rfl rfl rfl rfl rfl call127 (qi) ?_
  refine .rn [3,4] [] ?_
  refine .done (.seq (.ay kg rfl ae ?_))
  refine .rn eD _ ?_
  refine .pc rfl rfl rfl rfl rfl call37 (LZ) ?_
  refine .rn [5] [] ?_
  refine .done (.seq (.seq (.ay ik rfl ae ?_)))
  refine .rn eD _ ?_
  refine .split (t:=21) rfl (fun dm=>?_) (fun dm=>?_)
  ·try subst dm
   try simp at dm
  try subst dm
  try simp at dm
  refine .rn [4,5,6] [] ?_
  refine .done ?_
  refine .cs ?_ ?_<;>intro pt
  ·try simp at pt
   have oC:cJ c l=none:=by rw[hx,if_neg (fun hh=>by rw[hh] at sN;simp[pt] at sN)]
   refine .sr ?_
   refine .ret (au ?_)
   first|(rw[hx];rfl)|(rw[oC];rfl)
  try simp at pt
  have oC:cJ c l=some n:=by rw[hx,if_pos (by rw[pt] at sN;simpa using sN)]
  refine .skip (.sr ?_)
  refine .ret (au ?_)
  first|(rw[hx];rfl)|(rw[oC];rfl)
end
theorem PM {x y:aq}(h:¬x.a=y.a):decide (x.lt y)=decide (x.a<y.a):=decide_eq_decide.2 (by unfold aq.lt;omega)
theorem PN {x y:aq}(g:x.a=y.a)(h:¬x.i=y.i):decide (x.lt y)=decide (x.i<y.i):=decide_eq_decide.2 (by unfold aq.lt;omega)
theorem PO {x y:aq}(g:x.a=y.a)(g2:x.i=y.i)(h:¬x.k=y.k):decide (x.lt y)=decide (x.k<y.k):=decide_eq_decide.2 (by unfold aq.lt;omega)
theorem PQ {x y:aq}(g:x.a=y.a)(g2:x.i=y.i)(g3:x.k=y.k)(h:¬x.l=y.l):decide (x.lt y)=decide (x.l<y.l):=decide_eq_decide.2 (by unfold aq.lt;omega)
theorem PR {x y:aq}(g:x.a=y.a)(g2:x.i=y.i)(g3:x.k=y.k)(g4:x.l=y.l):decide (x.lt y)=decide (x.w<y.w):=decide_eq_decide.2 (by unfold aq.lt;omega)
theorem PS {s:aq}:∀ {l:List aq} {k:Nat},k≤l.length→(∀x∈l.take k,x.lt s)→(∀x,l[k]?=some x→¬x.lt s)→eT l s=if l[k]?=some s then l else l.take k++s::l.drop k
 |[],k,hk,_,_=>by obtain rfl:k=0:=(by simpa using hk);rfl
 |a::r,0,_,_,hn=>by
  have h1:=hn a rfl
  unfold eT
  rw[if_neg h1]
  by_cases h:a=s
  ·simp[h]
  simp[h]
 |a::r,k+1,hk,ht,hn=>by
  have h1:=ht a (by simp)
  unfold eT
  rw[if_pos h1,PS (k:=k) (by simpa using hk) (fun x hx=>ht x (by simp[hx])) (fun x hx=>hn x (by simpa using hx))]
  simp only[List.getElem?_cons_succ,List.take_succ_cons,List.drop_succ_cons,List.cons_append]
  split<;>rfl
section
variable [bF]
theorem PT (x y:aq):aN prog 143 [encS x,encS y] fun r=>r=.bool (decide (x.lt y)):=by
 obtain⟨xk,xa,xi,xl,xw⟩:=x
 obtain⟨yk,ya,yi,yl,yw⟩:=y
 have hE:∀k a i l w,encS ⟨k,a,i,l,w⟩=.agg [.int .i64 k,.int .i64 a,.int .i64 i,.int .i64 l,.int .i64 w]:=fun _ _ _ _ _=>rfl
 rw[hE,hE]
 have d1:=@PM ⟨xk,xa,xi,xl,xw⟩ ⟨yk,ya,yi,yl,yw⟩
 have d2:=@PN ⟨xk,xa,xi,xl,xw⟩ ⟨yk,ya,yi,yl,yw⟩
 have d3:=@PO ⟨xk,xa,xi,xl,xw⟩ ⟨yk,ya,yi,yl,yw⟩
 have d4:=@PQ ⟨xk,xa,xi,xl,xw⟩ ⟨yk,ya,yi,yl,yw⟩
 have d5:=@PR ⟨xk,xa,xi,xl,xw⟩ ⟨yk,ya,yi,yl,yw⟩
 simp only at d1 d2 d3 d4 d5
 refine .bT func143 rfl rfl ?_
 refine .sr ?_
 refine .seq (.sr ?_)
 refine .cs ?_ ?_<;>intro c9
 ·try simp at c9
  have d1:=d1 c9
  refine .sr ?_
  refine .ret (au ?_)
  first|(rw[d5];done)|(rw[d4];done)|(rw[d3];done)|(rw[d2];done)|(rw[d1];done)
 try simp at c9
 refine .skip (.seq (.sr ?_))
 refine .cs ?_ ?_<;>intro iU
 ·try simp at iU
  have d2:=d2 c9 iU
  refine .sr ?_
  refine .ret (au ?_)
  first|(rw[d5];done)|(rw[d4];done)|(rw[d3];done)|(rw[d2];done)|(rw[d1];done)
 try simp at iU
 refine .skip (.seq (.sr ?_))
 refine .cs ?_ ?_<;>intro zS
 ·try simp at zS
  have d3:=d3 c9 iU zS
  refine .sr ?_
  refine .ret (au ?_)
  first|(rw[d5];done)|(rw[d4];done)|(rw[d3];done)|(rw[d2];done)|(rw[d1];done)
 try simp at zS
 refine .skip (.seq (.sr ?_))
 refine .cs ?_ ?_<;>intro A4
 ·try simp at A4
  have d4:=d4 c9 iU zS A4
  refine .sr ?_
  refine .ret (au ?_)
  first|(rw[d5];done)|(rw[d4];done)|(rw[d3];done)|(rw[d2];done)|(rw[d1];done)
 try simp at A4
 have d5:=d5 c9 iU zS A4
 refine .skip (.sr ?_)
 refine .ret (au ?_)
 first|(rw[d5];done)|(rw[d4];done)|(rw[d3];done)|(rw[d2];done)|(rw[d1];done)
theorem p93 (l:List aq)(s:aq)(hl:l.length≤100000):aN prog 93 [.vec (l.map encS),encS s] fun r=>r=.vec ((eT l s).map encS):=by
 have vu:=fun x=>PT x s
 have hE:encS s=.agg [.int .i64 s.k,.int .i64 s.a,.int .i64 s.i,.int .i64 s.l,.int .i64 s.w]:=rfl
 rw[hE] at vu ⊢
 refine .bT func93 rfl rfl ?_
 refine .sr ?_
 refine .sr ?_
 refine .seq (.block ?_)
 refine .dw (fun i:Nat=>([(0,.vec (l.map encS)),(3,.ptr 0 0),(5,.int .i64 i)],⟨1,[(0,.box [.int .i64 s.k,.int .i64 s.a,.int .i64 s.i,.int .i64 s.l,.int .i64 s.w])]⟩)) (fun i=>i≤l.length∧∀x∈l.take i,x.lt s) (fun i=>l.length - i) 0 (by simp) bn ?_
 rintro i ⟨hi,ht⟩
 simp only at hi ht ⊢
 refine .seq (.sr ?_)
 refine .cs ?_ ?_<;>intro hU
 ·try simp at hU
  have et:=fA i
  have dy:i<l.length:=by omega
  obtain⟨x,hx⟩:∃x,l[i]?=some x:=⟨_,List.getElem?_eq_getElem dy⟩
  have lV:l[i]=x:=(List.getElem?_eq_some_iff.1 hx).2
  have hEx:encS x=.agg [.int .i64 x.k,.int .i64 x.a,.int .i64 x.i,.int .i64 x.l,.int .i64 x.w]:=rfl
  have vu:=vu x
  rw[hEx] at vu
  obtain⟨lb,PU⟩:∃b,decide (x.lt s)=b:=⟨_,rfl⟩
  rw[PU] at vu
  refine .skip (.block (.seq ?_))
  refine .drawn (ms:=[0,0,3,7,0,31,63]) (W:=[5]) (items:=[.op 0,.op 1,.op 2,.op 3,.op 4,.op 5,.op 6]) rfl ae ae ae ?_
  iterate 5 refine .rx ?_
  refine .wp rfl rfl rfl rfl rfl call143 (vu) ?_
  refine .rx ?_
  refine .done (.seq (.sr ?_))
  refine .cs ?_ ?_<;>intro py
  ·try simp at py
   have Gi:¬x.lt s:=by rw[← decide_eq_false_iff_not,PU];simpa using py
   have hp:=PS hi ht (fun y hy=>by rw[hx] at hy;injection hy with hy;rw[← hy];exact Gi)
   rw[hx] at hp
   have Px:List.take i (l.map encS)=(l.take i).map encS:=(List.map_take).symm
   have gp:List.drop i (l.map encS)=(l.drop i).map encS:=(List.map_drop).symm
   obtain⟨T,hT⟩:∃T,l.take i=T:=⟨_,rfl⟩
   obtain⟨D,hD⟩:∃D,l.drop i=D:=⟨_,rfl⟩
   have PW:T.length=i:=by rw[← hT,List.length_take];omega
   have x8:D.length=l.length - i:=by rw[← hD,List.length_drop]
   have ju:List.take (l.length - i) (D.map encS)=D.map encS:=List.take_of_length_le (by rw[List.length_map];omega)
   have sx:T.length+(D.length+1)=i+1+(l.length - i):=by omega
   rw[hT] at Px hp
   rw[hD] at gp hp
   clear hT hD ht
   have vv:=N4 T
   have hsD:=N4 D
   have hi4:i≤4294967296:=by omega
   have hi5:i+1≤4294967296:=by omega
   have hi6:i+1+(l.length - i)≤4294967296:=by omega
   refine .exit (.seq (.seq ?_))
   refine .drawn (ms:=[0,0,2,7,15,31,31,127,255,31,1023,2047]) (W:=[]) (items:=ED) rfl ae ae ae ?_
   iterate 5 refine .rx ?_
   refine .split (t:=25) rfl (fun gq=>?_) (fun gq=>?_)
   ·try subst gq
    try simp at gq
    iterate 7 refine .rx ?_
    refine .done ?_
    refine .cs ?_ ?_<;>intro dX
    ·try simp at dX
     refine .sr ?_
     refine .ret (au ?_)
     show _=_
     have ra:x=s:=aq.ext' dX.1.1.1.1 dX.1.1.1.2 dX.1.1.2 dX.1.2 dX.2
     rw[hp,if_pos (by rw[ra])]
    try simp at dX
    refine .skip (.seq ?_)
    refine .tf (ms:=[0,0,0,6,15,0,32,127,0,0,768,2047,4095]) (W:=[0,4,7,11]) (As:=[6]) (items:=[.op 1,.op 2,.op 3,.op 5,.op 6,.op 8,.op 9,.op 10,.op 0,.ck 5,.op 4,.ck 5,.op 7,.op 11,.op 12]) rfl ae ae ae ae (by decide) ?_
    iterate 4 refine .rf ?_
    refine .al rfl rfl (by decide) (by decide) (by decide) (by decide) eX ?_
    iterate 3 refine .rf ?_
    refine .wr rfl rfl (by decide) (.dH eX (by decide) ?_)
    refine .ck rfl dO ?_
    refine .wr rfl rfl (by decide) (.EE [2] (cV:=[5]) eX eX (by decide) (⟨⟨dO,_,_,rfl,eX⟩,trivial⟩) ae ?_)
    refine .ck rfl dO ?_
    refine .wr rfl rfl (by decide) (.dH eX (by decide) ?_)
    refine .wr rfl rfl (by decide) (.dH eX (by decide) ?_)
    refine .rf ?_
    refine .done (.ret ?_)
    refine⟨_,_,iT,(by simp[sx]<;>rfl),?_⟩
    show _=_
    rw[hp,if_neg (fun hh=>by injection hh with hh;rw[hh] at dX;exact dX rfl rfl rfl rfl rfl),List.map_append,List.map_cons,hE]
   try subst gq
   try simp at gq
  try simp at py
  have Gi:x.lt s:=by rw[← decide_eq_true_eq (p:=x.lt s),PU];simpa using py
  refine .skip (.rn ?_)
  refine⟨i+1,⟨bp,?_⟩,bp,bn⟩
  intro y hy
  rw[List.take_succ_eq_append_getElem dy,List.mem_append,List.mem_singleton,lV] at hy
  rcases hy with hy|hy
  ·exact ht y hy
  rw[hy];exact Gi
 try simp at hU
 obtain rfl:i=l.length:=by omega
 have Px:List.take l.length (l.map encS)=l.map encS:=List.take_of_length_le (by simp)
 have gp:List.drop l.length (l.map encS)=[]:=List.drop_of_length_le (by simp)
 have hp:=PS (Nat.le_refl _) ht (fun y hy=>by rw[List.getElem?_eq_none (Nat.le_refl _)] at hy;cases hy)
 have hN:l[l.length]?=none:=List.getElem?_eq_none (Nat.le_refl _)
 have vv:=N4 l
 have IS:lC 5 ([]:List PV)=true:=rfl
 have hi4:l.length≤4294967296:=by omega
 have hi5:l.length+1≤4294967296:=by omega
 refine .exit (.seq (.seq ?_))
 refine .drawn (ms:=[0,0,2,7,15,31,31,127,255,31,1023,2047]) (W:=[]) (items:=ED) rfl ae ae ae ?_
 iterate 5 refine .rx ?_
 refine .split (t:=25) rfl (fun gq=>?_) (fun gq=>?_)
 ·try subst gq
  try simp at gq
 try subst gq
 try simp at gq
 iterate 6 refine .ux ?_
 refine .rx ?_
 refine .done (.fD rfl (.skip (.seq ?_)))
 refine .tf (ms:=[0,0,0,6,15,0,32,127,0,0,768,2047,4095]) (W:=[0,4,7,11]) (As:=[6]) (items:=[.op 1,.op 2,.op 3,.op 5,.op 6,.op 8,.op 9,.op 10,.op 0,.ck 5,.op 4,.ck 5,.op 7,.op 11,.op 12]) rfl ae ae ae ae (by decide) ?_
 iterate 4 refine .rf ?_
 refine .al rfl rfl (by decide) (by decide) (by decide) (by decide) eX ?_
 iterate 3 refine .rf ?_
 refine .wr rfl rfl (by decide) (.dH eX (by decide) ?_)
 refine .ck rfl dO ?_
 refine .wr rfl rfl (by decide) (.EE [2] (cV:=[5]) eX eX (by decide) (⟨⟨dO,_,_,rfl,eX⟩,trivial⟩) ae ?_)
 refine .ck rfl dO ?_
 refine .wr rfl rfl (by decide) (.dH eX (by decide) ?_)
 refine .wr rfl rfl (by decide) (.dH eX (by decide) ?_)
 refine .rf ?_
 refine .done (.ret (au ?_))
 show _=_
 rw[hp,if_neg (fun hh=>by rw[hN] at hh;cases hh),List.take_length,List.drop_length,List.map_append,List.map_cons,hE,List.map_nil]
theorem PX (s:aq):aN prog 93 [.aI,encS s] fun r=>r=.vec [encS s]:=by
 have hE:encS s=.agg [.int .i64 s.k,.int .i64 s.a,.int .i64 s.i,.int .i64 s.l,.int .i64 s.w]:=rfl
 rw[hE]
 refine .bT func93 rfl rfl ?_
 refine .sr ?_
 refine .sr ?_
 refine .seq (.block ?_)
 refine .dw (fun i:Nat=>([(0,.aI),(3,.ptr 0 0),(5,.int .i64 i)],⟨1,[(0,.box [.int .i64 s.k,.int .i64 s.a,.int .i64 s.i,.int .i64 s.l,.int .i64 s.w])]⟩)) (fun i=>i=0) (fun i=>0) 0 (by simp) bn ?_
 rintro i rfl
 simp only
 refine .seq (.sr ?_)
 refine .cs ?_ ?_<;>intro hU
 ·try simp at hU
 try simp at hU
 refine .exit (.seq (.seq ?_))
 refine .drawn (ms:=[0,0,2,7,15,31,31,127,255,31,1023,2047]) (W:=[]) (items:=ED) rfl ae ae ae ?_
 iterate 5 refine .rx ?_
 refine .split (t:=25) rfl (fun gq=>?_) (fun gq=>?_)
 ·try rw[gq]
  try simp at gq
 try rw[gq]
 try simp at gq
 iterate 6 refine .ux ?_
 refine .rx ?_
 refine .done (.fD rfl (.skip (.seq ?_)))
 refine .tf (ms:=[0,0,0,6,15,0,32,127,0,0,768,2047,4095]) (W:=[0,4,7,11]) (As:=[6]) (items:=[.op 1,.op 2,.op 3,.op 5,.op 6,.op 8,.op 9,.op 10,.op 0,.ck 5,.op 4,.ck 5,.op 7,.op 11,.op 12]) rfl ae ae ae ae (by decide) ?_
 iterate 4 refine .rf ?_
 refine .al rfl rfl (by decide) (by decide) (by decide) (by decide) eX ?_
 iterate 3 refine .rf ?_
 refine .wr rfl rfl (by decide) (.dH eX (by decide) ?_)
 refine .ck rfl dO ?_
 refine .wr rfl rfl (by decide) (.EE [2] (cV:=[5]) eX eX (by decide) (⟨⟨dO,_,_,rfl,eX⟩,trivial⟩) ae ?_)
 refine .ck rfl dO ?_
 refine .wr rfl rfl (by decide) (.dH eX (by decide) ?_)
 refine .wr rfl rfl (by decide) (.dH eX (by decide) ?_)
 refine .rf ?_
 refine .done (.ret (au ?_))
 exact zk
end
def eL (l:List aq):PV:=if l=[] then .aI else .vec (l.map encS)
theorem PY {l:List aq}(h:l≠[]):eL l=.vec (l.map encS):=if_neg h
theorem z3g (w:List aq):(eL w).cells=[eL w]:=by unfold eL;split<;>rfl
theorem Vt (w:List aq):(eL w).aG=true:=by unfold eL;split<;>simp[PV.aG]
theorem xcp (w:List aq):PV.one (eL w)=true:=by unfold eL;split<;>rfl
theorem xdz (vh:ai)(w:List aq):bI vh (eL w)=some (eL w):=Od vh (Vt w)
theorem Vu (w:List aq):(w=[]∧eL w=.aI)∨eL w=.vec (w.map encS):=by
 by_cases h:w=[]
 ·exact .inl ⟨h,by rw[h];rfl⟩
 exact .inr (PY h)
theorem Vv (l:List aq)(s:aq):eT l s≠[]:=fun h=>by
 have:=(L3 (l:=l) (s:=s) (x:=s)).2 (.inr rfl)
 rw[h] at this;cases this
theorem Vw (s:aq):∀l:List aq,(eT l s).length≤l.length+1
 |[]=>by simp[eT]
 |a::r=>by
  unfold eT
  split
  ·have:=Vw s r;simp;omega
  split<;>simp
def uz (c:aj)(i j:Nat):List aq:=(if j<c.c.length then [⟨1,i,j,0,c.c.getD j 0⟩,⟨6,i,j,0,c.c.getD j 0⟩] else [])++[⟨2,i,j,0,0⟩]
def wG (i j n:Nat):List aq:=(List.range n).flatMap fun (k:Nat)=>[⟨3,i,j,k,0⟩,⟨4,i,j,k,0⟩]
def yn (i j n:Nat):List aq:=(List.range n).map fun (k:Nat)=>⟨5,i,j,k,0⟩
theorem PZ (i j n:Nat):wG i j (n+1)=wG i j n++[⟨3,i,j,n,0⟩,⟨4,i,j,n,0⟩]:=by unfold wG;rw[List.range_succ,List.flatMap_append];rfl
theorem Vx (i j n:Nat):yn i j (n+1)=yn i j n++[⟨5,i,j,n,0⟩]:=by unfold yn;rw[List.range_succ,List.map_append];rfl
theorem P0 (c:aj)(i j:Nat):nc c i j=uz c i j++wG i j (c.t.length+1)++yn i j c.g.length:=rfl
theorem xal (c:aj)(i j:Nat):(uz c i j).length≤3:=by unfold uz;split<;>simp
theorem Vy (i j:Nat):∀n,(wG i j n).length=2*n
 |0=>rfl
 |n+1=>by rw[PZ,List.length_append,Vy i j n];simp;omega
theorem Vz (i j n:Nat):(yn i j n).length=n:=by unfold yn;rw[List.length_map,List.length_range]
def qj (c:aj)(l:List aq):List aq:=(l.filter (mX c)).foldl eT []
theorem VA (c:aj)(l:List aq)(s:aq):qj c (l++[s])=if mX c s=true then eT (qj c l) s else qj c l:=by
 unfold qj
 rw[List.filter_append,List.foldl_append]
 by_cases h:mX c s=true
 ·rw[if_pos h,List.filter_cons_of_pos h];rfl
 rw[if_neg h,List.filter_cons_of_neg h];rfl
theorem VB (c:aj)(l:List aq):(qj c l).length≤l.length:=by
 have h1:∀(r a:List aq),(r.foldl eT a).length≤a.length+r.length:=fun r=>by
  induction r with
  |nil=>exact fun a=>Nat.le_refl _
  |cons s r ih=>exact fun a=>by have:=ih (eT a s);have h2:=Vw s a;rw[List.foldl_cons,List.length_cons];omega
 have:=h1 (l.filter (mX c)) []
 have h2:=List.length_filter_le (mX c) l
 unfold qj
 simp at this
 omega
theorem VC {c:aj}{s:aq}(h:aJ c s=none):¬mX c s=true:=by unfold mX;rw[h];simp
theorem VD {c:aj}{s:aq}{n:Int}{i':Nat}{w:List Int}(h:aJ c s=some (n,i',w)):mX c s=hasB c s.i.toNat w:=by unfold mX;rw[h]
theorem VE {c:aj}{i j:Nat}{s:aq}(h:s∈nc c i j):s.i.toNat=j:=by
 rw[P0] at h
 unfold uz wG yn at h
 simp only[List.mem_append,List.mem_flatMap,List.mem_map,List.mem_cons,List.mem_range,List.not_mem_nil,or_false] at h
 rcases h with (((h|rfl)|⟨k,_,rfl|rfl⟩)|⟨k,_,rfl⟩)
 ·split at h
  ·simp only[List.mem_cons,List.not_mem_nil,or_false] at h
   rcases h with rfl|rfl<;>rfl
  cases h
 all_goals rfl
attribute [local simp ↓ high] PI z3g Vt xcp xdz
variable [bF] in
theorem P1 (c:aj)(i j:Nat)(hk:bl c=0)(hi:i≤c.t.length)(hj:j≤c.c.length):aN prog 125 [aH c,.int .i64 i,.int .i64 j] fun r=>r=eL (L4 c i j):=by
 have bo:=gR hk
 have oh:=bo.tl
 have eM:=bo.cl
 have sE:=bo.wc
 have hC:cR c=(cQ c):=rfl
 have hE:∀s:aq,encS s=.agg [.int .i64 s.k,.int .i64 s.a,.int .i64 s.i,.int .i64 s.l,.int .i64 s.w]:=fun _=>rfl
 have cG:=fun s=>EC c s hk
 have ml:=fun w hw=>PB c j w (by omega) hw (by omega)
 have rW:=PX
 have CM:=p93
 have hR:L4 c i j=qj c (nc c i j):=rfl
 have P2:=xal c i j
 have L5:=fun n=>Vy i j n
 unfold aH at cG ml ⊢
 rw[hC] at cG ml ⊢
 rw[hR]
 refine .bT func125 rfl rfl ?_
 by_cases ec:j<c.c.length
 ·
  obtain⟨x,hx⟩:∃x,c.c[j]?=some x:=⟨_,List.getElem?_eq_getElem ec⟩
  have lV:c.c[j]=x:=(List.getElem?_eq_some_iff.1 hx).2
  have hAe:uz c i j=[⟨1,i,j,0,x⟩,⟨6,i,j,0,x⟩,⟨2,i,j,0,0⟩]:=by unfold uz;rw[if_pos ec,List.getD_eq_getElem?_getD,hx];rfl
  refine .sr ?_
  refine .sr ?_
  refine .seq (.sr ?_)
  refine .cs ?_ ?_<;>intro py
  ·try simp at py
   refine .drawn (ms:=[0,0,0,0,8,0,56,120,254,0,0,0,2048,0,14336,30720,65024,131070,262143,524287]) (W:=[17,18]) (items:=HL) rfl ae ae ae ?_
   iterate 17 refine .rx ?_
   refine .wv ?_
   refine .wv ?_
   refine .rx ?_
   refine .done (.sr ?_)
   refine .seq (.sr ?_)
   refine .block ?_
   refine .dw (fun z:Nat×List aq=>([(1,.int .i64 i),(2,.int .i64 j),(3,.ptr 0 0),(7,.grow 2 z.2.length true),(8,.int .i64 z.1)],⟨3,[(2,.grow 5 (z.2.map encS)),(0,.box (cQ c))]⟩)) (fun z=>z.1≤c.t.length+1∧z.2=uz c i j++wG i j z.1) (fun z=>c.t.length+1 - z.1) (0,uz c i j) (by simp[wG]) (.mk [] [(2,4)] ia ix rfl rfl rfl) ?_
   rintro⟨n,all⟩ ⟨hn,bs⟩
   simp only at hn bs ⊢
   have eU:all.length≤103:=by rw[bs,List.length_append,L5];omega
   replace bs:=bs.symm
   refine .seq (.sr ?_)
   refine .cs ?_ ?_<;>intro jK
   ·try simp at jK
    have et:IntKind.i64.wrap ((n:Int)+1)=((n+1:Nat):Int):=by rw[wrap64 (by omega) (by omega)];omega
    have qy:all.length+2≤4294967296:=by omega
    refine .skip (.seq (.block (.rn ?_)))
    refine .rn ?_
    refine⟨(n+1,all++[⟨3,i,j,n,0⟩,⟨4,i,j,n,0⟩]),⟨by omega,?_⟩,bp,(.mk [] [(2,4)] ia ix rfl rfl rfl)⟩
    rw[← bs,PZ,List.append_assoc]
   try simp at jK
   obtain rfl:n=c.t.length+1:=by omega
   refine .exit (.seq (.sr ?_))
   refine .block ?_
   refine .dw (fun z:Nat×List aq=>([(1,.int .i64 i),(2,.int .i64 j),(3,.ptr 0 0),(7,.grow 2 z.2.length true),(9,.int .i64 z.1)],⟨3,[(2,.grow 5 (z.2.map encS)),(0,.box (cQ c))]⟩)) (fun z=>z.1≤c.g.length∧z.2=uz c i j++wG i j (c.t.length+1)++yn i j z.1) (fun z=>c.g.length - z.1) (0,all) ⟨by simp,by rw[← bs];simp[yn]⟩ bn ?_
   clear bs eU
   rintro⟨n,all⟩ ⟨hn,bs⟩
   simp only at hn bs ⊢
   have eU:all.length≤109:=by rw[bs,List.length_append,List.length_append,L5,Vz];omega
   replace bs:=bs.symm
   refine .seq (.sr ?_)
   refine .cs ?_ ?_<;>intro IT
   ·try simp at IT
    have et:IntKind.i64.wrap ((n:Int)+1)=((n+1:Nat):Int):=by rw[wrap64 (by omega) (by omega)];omega
    have qy:all.length+1≤4294967296:=by omega
    refine .skip (.seq (.block (.rn ?_)))
    refine .rn ?_
    refine⟨(n+1,all++[⟨5,i,j,n,0⟩]),⟨by omega,?_⟩,bp,(.mk [] [(2,4)] ia ix rfl rfl rfl)⟩
    rw[← bs,Vx,List.append_assoc]
   try simp at IT
   obtain rfl:n=c.g.length:=by omega
   have yo:nc c i j=all:=by rw[P0,bs]
   rw[yo]
   refine .exit (.sr ?_)
   refine .seq (.sr ?_)
   refine .block ?_
   refine .dw (fun k:Nat=>([(2,.int .i64 j),(3,.ptr 0 0),(7,.grow 2 all.length true),(10,eL (qj c (all.take k))),(11,.int .i64 k)],⟨3,[(2,.grow 5 (all.map encS)),(0,.box (cQ c))]⟩)) (fun k=>k≤all.length) (fun k=>all.length - k) 0 (by simp) bn ?_
   rintro k eG
   simp only at eG ⊢
   refine .seq (.sr ?_)
   refine .cs ?_ ?_<;>intro sJ
   ·try simp at sJ
    have et:IntKind.i64.wrap ((k:Int)+1)=((k+1:Nat):Int):=by rw[wrap64 (by omega) (by omega)];omega
    have fO:k<all.length:=by omega
    obtain⟨s,hs⟩:∃s,all[k]?=some s:=⟨_,List.getElem?_eq_getElem fO⟩
    have gy:all[k]=s:=(List.getElem?_eq_some_iff.1 hs).2
    have iu:=VA c (all.take k) s
    have zW:all.take (k+1)=all.take k++[s]:=by rw[List.take_succ_eq_append_getElem fO,gy]
    have jh:=VB c (all.take k)
    rw[← zW] at iu
    rw[List.length_take] at jh
    have nX:s.i.toNat=j:=by
     have hm:s∈nc c i j:=by rw[yo];exact List.mem_of_getElem? hs
     exact VE hm
    obtain⟨O,hO⟩:∃O,qj c (all.take k)=O:=⟨_,rfl⟩
    rw[hO] at iu jh ⊢
    have cG:=cG s
    rw[hE] at cG
    have P3:=P4 (sz:=5) (es:=all.map encS) (q:=k) (e:=encS s) (fun e he=>by obtain⟨x,_,rfl⟩:=List.mem_map.1 he;rfl) (by rw[List.getElem?_map,hs];rfl)
    obtain⟨wH,zL⟩:=P3
    rw[List.length_flatMap,List.map_map] at zL
    rw[hE] at wH
    simp only[PV.cells] at wH
    rcases hd:aJ c s with _|⟨n,i',w⟩
    ·skip
     refine .skip (.seq (.block (.seq ?_)))
     refine .tf (ms:=[0,0,0,6,14,31,0,127]) (W:=[5,7]) (As:=[6]) (items:=rX) rfl ae ae ae ae (by decide) ?_
     iterate 5 refine .rf ?_
     refine .al rfl rfl (by decide) (by decide) (by decide) (by decide) eX ?_
     refine .wr rfl rfl (by decide) (.pure rfl rfl rfl call126 (by decide) (cG) (by first|rfl|simp[*]) ?_)
     intro _ e;rw[kQ hd] at e;subst e;rw[if_neg (VC hd)] at iu
     refine .wr rfl rfl (by decide) (.dH eX (by decide) ?_)
     refine .done (.seq (.ay kg rfl ae ?_))
     refine .rn eD _ ?_
     refine .pc rfl rfl rfl rfl rfl call159 ((ml [] (by simp))) ?_
     refine .rn [5] [] ?_
     refine .done (.seq (.ay gQ rfl ae ?_))
     refine .rn [0,1,2] _ ?_
     refine .split (t:=95) rfl (fun nf=>?_) (fun nf=>?_)
     ·try subst nf
      try simp at nf
     try subst nf
     try simp at nf
     refine .rn [3,4] [] ?_
     refine .done (.fD rfl (.skip (.rn ?_)))
     refine⟨k+1,bp,bp,?_⟩
     have tK:eL (qj c (all.take (k+1)))=eL O:=by rw[iu]
     simp only[tK]
     exact bn
    skip
    refine .skip (.seq (.block (.seq ?_)))
    refine .tf (ms:=[0,0,0,6,14,31,0,127]) (W:=[5,7]) (As:=[6]) (items:=rX) rfl ae ae ae ae (by decide) ?_
    iterate 5 refine .rf ?_
    refine .al rfl rfl (by decide) (by decide) (by decide) (by decide) eX ?_
    refine .wr rfl rfl (by decide) (.pure rfl rfl rfl call126 (by decide) (cG) (by first|rfl|simp[*]) ?_)
    intro _ e;rw[jC hd] at e;subst e;rw[VD hd,nX] at iu;obtain⟨hb,D7⟩:∃b,hasB c j w=b:=⟨_,rfl⟩;have ml:=ml w (by have:=(kN bo hd).2.2.2.2.2;omega);rw[D7] at ml iu
    refine .wr rfl rfl (by decide) (.dH eX (by decide) ?_)
    refine .done (.seq (.ay kg rfl ae ?_))
    refine .rn eD _ ?_
    refine .pc rfl rfl rfl rfl rfl call159 (ml) ?_
    refine .rn [5] [] ?_
    refine .done (.seq (.ay gQ rfl ae ?_))
    refine .rn [0,1,2] _ ?_
    refine .split (t:=95) rfl (fun nf=>?_) (fun nf=>?_)
    ·try subst nf
     try simp at nf
     refine .rn [3,4] [] ?_
     refine .done ?_
     refine .cs ?_ ?_<;>intro pr
     ·try simp at pr
      rw[if_pos pr] at iu
      have rW:=rW s
      have CM:=CM O s (by omega)
      rw[hE] at CM rW
      rcases Vu O with⟨EF,IU⟩|IU<;>simp only[IU]
      ·skip
       refine .ay ik rfl ae (.rn gQ _ ?_)
       refine .pc rfl rfl rfl rfl rfl call93 (rW) ?_
       refine .rn [6] [] ?_
       refine .done (.rn ?_)
       refine⟨k+1,bp,bp,?_⟩
       have tK:eL (qj c (all.take (k+1)))=.vec [.agg [.int .i64 s.k,.int .i64 s.a,.int .i64 s.i,.int .i64 s.l,.int .i64 s.w]]:=by rw[iu,EF,← hE];rfl
       simp only[tK]
       exact bn
      skip
      refine .ay ik rfl ae (.rn gQ _ ?_)
      refine .pc rfl rfl rfl rfl rfl call93 (CM) ?_
      refine .rn [6] [] ?_
      refine .done (.rn ?_)
      refine⟨k+1,bp,bp,?_⟩
      have tK:eL (qj c (all.take (k+1)))=.vec ((eT O s).map encS):=by rw[iu,PY (Vv O s)]
      simp only[tK]
      exact bn
     try simp at pr
     rw[if_neg (by rw[pr];simp)] at iu
     have tK:eL (qj c (all.take (k+1)))=eL O:=by rw[iu]
     refine .skip (.rn ?_)
     refine⟨k+1,bp,bp,?_⟩
     simp only[tK]
     exact bn
    try subst nf
    try simp at nf
   try simp at sJ
   obtain rfl:k=all.length:=by omega
   rw[List.take_length] at *
   refine .exit (.sr ?_)
   refine .ret (au ?_)
   exact zk
  try simp at py
 ·
  have hAe:uz c i j=[⟨2,i,j,0,0⟩]:=by unfold uz;rw[if_neg ec];rfl
  refine .sr ?_
  refine .sr ?_
  refine .seq (.sr ?_)
  refine .cs ?_ ?_<;>intro py
  ·try simp at py
  try simp at py
  refine .skip (.sr ?_)
  refine .seq (.sr ?_)
  refine .block ?_
  refine .dw (fun z:Nat×List aq=>([(1,.int .i64 i),(2,.int .i64 j),(3,.ptr 0 0),(7,.grow 2 z.2.length true),(8,.int .i64 z.1)],⟨3,[(2,.grow 5 (z.2.map encS)),(0,.box (cQ c))]⟩)) (fun z=>z.1≤c.t.length+1∧z.2=uz c i j++wG i j z.1) (fun z=>c.t.length+1 - z.1) (0,uz c i j) (by simp[wG]) bn ?_
  rintro⟨n,all⟩ ⟨hn,bs⟩
  simp only at hn bs ⊢
  have eU:all.length≤103:=by rw[bs,List.length_append,L5];omega
  replace bs:=bs.symm
  refine .seq (.sr ?_)
  refine .cs ?_ ?_<;>intro jK
  ·try simp at jK
   have et:IntKind.i64.wrap ((n:Int)+1)=((n+1:Nat):Int):=by rw[wrap64 (by omega) (by omega)];omega
   have qy:all.length+2≤4294967296:=by omega
   refine .skip (.seq (.block (.rn ?_)))
   refine .rn ?_
   refine⟨(n+1,all++[⟨3,i,j,n,0⟩,⟨4,i,j,n,0⟩]),⟨by omega,?_⟩,bp,(.mk [] [(2,4)] ia ix rfl rfl rfl)⟩
   rw[← bs,PZ,List.append_assoc]
  try simp at jK
  obtain rfl:n=c.t.length+1:=by omega
  refine .exit (.seq (.sr ?_))
  refine .block ?_
  refine .dw (fun z:Nat×List aq=>([(1,.int .i64 i),(2,.int .i64 j),(3,.ptr 0 0),(7,.grow 2 z.2.length true),(9,.int .i64 z.1)],⟨3,[(2,.grow 5 (z.2.map encS)),(0,.box (cQ c))]⟩)) (fun z=>z.1≤c.g.length∧z.2=uz c i j++wG i j (c.t.length+1)++yn i j z.1) (fun z=>c.g.length - z.1) (0,all) ⟨by simp,by rw[← bs];simp[yn]⟩ bn ?_
  clear bs eU
  rintro⟨n,all⟩ ⟨hn,bs⟩
  simp only at hn bs ⊢
  have eU:all.length≤109:=by rw[bs,List.length_append,List.length_append,L5,Vz];omega
  replace bs:=bs.symm
  refine .seq (.sr ?_)
  refine .cs ?_ ?_<;>intro IT
  ·try simp at IT
   have et:IntKind.i64.wrap ((n:Int)+1)=((n+1:Nat):Int):=by rw[wrap64 (by omega) (by omega)];omega
   have qy:all.length+1≤4294967296:=by omega
   refine .skip (.seq (.block (.rn ?_)))
   refine .rn ?_
   refine⟨(n+1,all++[⟨5,i,j,n,0⟩]),⟨by omega,?_⟩,bp,(.mk [] [(2,4)] ia ix rfl rfl rfl)⟩
   rw[← bs,Vx,List.append_assoc]
  try simp at IT
  obtain rfl:n=c.g.length:=by omega
  have yo:nc c i j=all:=by rw[P0,bs]
  rw[yo]
  refine .exit (.sr ?_)
  refine .seq (.sr ?_)
  refine .block ?_
  refine .dw (fun k:Nat=>([(2,.int .i64 j),(3,.ptr 0 0),(7,.grow 2 all.length true),(10,eL (qj c (all.take k))),(11,.int .i64 k)],⟨3,[(2,.grow 5 (all.map encS)),(0,.box (cQ c))]⟩)) (fun k=>k≤all.length) (fun k=>all.length - k) 0 (by simp) bn ?_
  rintro k eG
  simp only at eG ⊢
  refine .seq (.sr ?_)
  refine .cs ?_ ?_<;>intro sJ
  ·try simp at sJ
   have et:IntKind.i64.wrap ((k:Int)+1)=((k+1:Nat):Int):=by rw[wrap64 (by omega) (by omega)];omega
   have fO:k<all.length:=by omega
   obtain⟨s,hs⟩:∃s,all[k]?=some s:=⟨_,List.getElem?_eq_getElem fO⟩
   have gy:all[k]=s:=(List.getElem?_eq_some_iff.1 hs).2
   have iu:=VA c (all.take k) s
   have zW:all.take (k+1)=all.take k++[s]:=by rw[List.take_succ_eq_append_getElem fO,gy]
   have jh:=VB c (all.take k)
   rw[← zW] at iu
   rw[List.length_take] at jh
   have nX:s.i.toNat=j:=by
    have hm:s∈nc c i j:=by rw[yo];exact List.mem_of_getElem? hs
    exact VE hm
   obtain⟨O,hO⟩:∃O,qj c (all.take k)=O:=⟨_,rfl⟩
   rw[hO] at iu jh ⊢
   have cG:=cG s
   rw[hE] at cG
   have P3:=P4 (sz:=5) (es:=all.map encS) (q:=k) (e:=encS s) (fun e he=>by obtain⟨x,_,rfl⟩:=List.mem_map.1 he;rfl) (by rw[List.getElem?_map,hs];rfl)
   obtain⟨wH,zL⟩:=P3
   rw[List.length_flatMap,List.map_map] at zL
   rw[hE] at wH
   simp only[PV.cells] at wH
   rcases hd:aJ c s with _|⟨n,i',w⟩
   ·skip
    refine .skip (.seq (.block (.seq ?_)))
    refine .tf (ms:=[0,0,0,6,14,31,0,127]) (W:=[5,7]) (As:=[6]) (items:=rX) rfl ae ae ae ae (by decide) ?_
    iterate 5 refine .rf ?_
    refine .al rfl rfl (by decide) (by decide) (by decide) (by decide) eX ?_
    refine .wr rfl rfl (by decide) (.pure rfl rfl rfl call126 (by decide) (cG) (by first|rfl|simp[*]) ?_)
    intro _ e;rw[kQ hd] at e;subst e;rw[if_neg (VC hd)] at iu
    refine .wr rfl rfl (by decide) (.dH eX (by decide) ?_)
    refine .done (.seq (.ay kg rfl ae ?_))
    refine .rn eD _ ?_
    refine .pc rfl rfl rfl rfl rfl call159 ((ml [] (by simp))) ?_
    refine .rn [5] [] ?_
    refine .done (.seq (.ay gQ rfl ae ?_))
    refine .rn [0,1,2] _ ?_
    refine .split (t:=95) rfl (fun nf=>?_) (fun nf=>?_)
    ·try subst nf
     try simp at nf
    try subst nf
    try simp at nf
    refine .rn [3,4] [] ?_
    refine .done (.fD rfl (.skip (.rn ?_)))
    refine⟨k+1,bp,bp,?_⟩
    have tK:eL (qj c (all.take (k+1)))=eL O:=by rw[iu]
    simp only[tK]
    exact bn
   skip
   refine .skip (.seq (.block (.seq ?_)))
   refine .tf (ms:=[0,0,0,6,14,31,0,127]) (W:=[5,7]) (As:=[6]) (items:=rX) rfl ae ae ae ae (by decide) ?_
   iterate 5 refine .rf ?_
   refine .al rfl rfl (by decide) (by decide) (by decide) (by decide) eX ?_
   refine .wr rfl rfl (by decide) (.pure rfl rfl rfl call126 (by decide) (cG) (by first|rfl|simp[*]) ?_)
   intro _ e;rw[jC hd] at e;subst e;rw[VD hd,nX] at iu;obtain⟨hb,D7⟩:∃b,hasB c j w=b:=⟨_,rfl⟩;have ml:=ml w (by have:=(kN bo hd).2.2.2.2.2;omega);rw[D7] at ml iu
   refine .wr rfl rfl (by decide) (.dH eX (by decide) ?_)
   refine .done (.seq (.ay kg rfl ae ?_))
   refine .rn eD _ ?_
   refine .pc rfl rfl rfl rfl rfl call159 (ml) ?_
   refine .rn [5] [] ?_
   refine .done (.seq (.ay gQ rfl ae ?_))
   refine .rn [0,1,2] _ ?_
   refine .split (t:=95) rfl (fun nf=>?_) (fun nf=>?_)
   ·try subst nf
    try simp at nf
    refine .rn [3,4] [] ?_
    refine .done ?_
    refine .cs ?_ ?_<;>intro pr
    ·try simp at pr
     rw[if_pos pr] at iu
     have rW:=rW s
     have CM:=CM O s (by omega)
     rw[hE] at CM rW
     rcases Vu O with⟨EF,IU⟩|IU<;>simp only[IU]
     ·skip
      refine .ay ik rfl ae (.rn gQ _ ?_)
      refine .pc rfl rfl rfl rfl rfl call93 (rW) ?_
      refine .rn [6] [] ?_
      refine .done (.rn ?_)
      refine⟨k+1,bp,bp,?_⟩
      have tK:eL (qj c (all.take (k+1)))=.vec [.agg [.int .i64 s.k,.int .i64 s.a,.int .i64 s.i,.int .i64 s.l,.int .i64 s.w]]:=by rw[iu,EF,← hE];rfl
      simp only[tK]
      exact bn
     skip
     refine .ay ik rfl ae (.rn gQ _ ?_)
     refine .pc rfl rfl rfl rfl rfl call93 (CM) ?_
     refine .rn [6] [] ?_
     refine .done (.rn ?_)
     refine⟨k+1,bp,bp,?_⟩
     have tK:eL (qj c (all.take (k+1)))=.vec ((eT O s).map encS):=by rw[iu,PY (Vv O s)]
     simp only[tK]
     exact bn
    try simp at pr
    rw[if_neg (by rw[pr];simp)] at iu
    have tK:eL (qj c (all.take (k+1)))=eL O:=by rw[iu]
    refine .skip (.rn ?_)
    refine⟨k+1,bp,bp,?_⟩
    simp only[tK]
    exact bn
   try subst nf
   try simp at nf
  try simp at sJ
  obtain rfl:k=all.length:=by omega
  rw[List.take_length] at *
  refine .exit (.sr ?_)
  refine .ret (au ?_)
  exact zk
end Go.Am.Sl
end
