/-
 What is used in the proof of a statement (part SlG); no condition.
-/
import Derived.Test.YthnmgbgmlhackaaGreatDoorSlZ
import Derived.Test.YthnmgbgmlhackaaGreatDoorVm2
import Derived.Test.YthnmgbgmlhackaaGreatDoorSlT
import Derived.Test.YthnmgbgmlhackaaGreatDoorSlF
set_option linter.all false
set_option maxHeartbeats 40000000
set_option maxRecDepth 100000
section
namespace Go.Am.Sl
open Go Go.Am Go.Proofs Tryz
attribute [local simp] fx ie rS dS ig nD ah.back de gJ l8 bm Nat.testBit_eq_decide_div_mod_eq cF iX ny vO qE ja qF jw cW oX oV qB jb qC pI mW rR pH qD qv qq qw qt qu qz qA od fI kl fw qG oZ pK qH qI oc rP rQ iY nz gp fY gq lV hU pA oD oE jY qi bo pG fX bU bS l9 ah.get ah.alloc ah.put ah.drop ah.empty bh dm iF jP gI cB chunk List.range List.range.loop ma rT mX bz b9 PV.aB PV.aG PV.dy PV.fW jc jd pL PV.one PV.ids PV.cO gx beq_eq sJ tW
attribute [local simp] cQ bQ jf ua yR rY sR pQ gz fG
attribute [local simp ↓ high] vm tZ
theorem Md {c:aq}{j:Nat}{w:List Int}:hasB c j w=true↔j≤c.c.length∧∀m,m<w.length→j+m<c.c.length∧c.c[j+m]?=w[m]?:=by
 unfold hasB
 rw[bR,decide_eq_true_eq,decide_eq_true_eq]
 constructor
 ·rintro⟨h1,h2⟩
  refine⟨by omega,fun m hm=>⟨by omega,?_⟩⟩
  rw[← h2,List.getElem?_take_of_lt hm,List.getElem?_drop]
 rintro⟨h1,h2⟩
 have h3:j+w.length≤c.c.length:=by
  rcases Nat.eq_zero_or_pos w.length with h|h
  ·omega
  have:=(h2 (w.length - 1) (by omega)).1;omega
 refine⟨h3,List.ext_getElem? fun m=>?_⟩
 by_cases hm:m<w.length
 ·rw[List.getElem?_take_of_lt hm,List.getElem?_drop,(h2 m hm).2]
 rw[List.getElem?_eq_none (by rw[List.length_take];omega),List.getElem?_eq_none (by omega)]
theorem zwy {l:List jI}{i:Nat}(h:i<l.length)(f t:Int):ec (l.drop i) f t=if l[i].f=f∧l[i].t=t then some l[i].c else ec (l.drop (i+1)) f t:=by
 rw[List.drop_eq_getElem_cons h];rfl
section
variable [bE]
theorem uw (n lo hi:Int):aM prog 99 [.int .i64 n,.int .i64 lo,.int .i64 hi] fun r=>r=.bool (decide (lo≤n)&&decide (n≤hi)):=by
 obtain⟨b,hb⟩:∃b,decide (lo≤n)=b:=⟨_,rfl⟩
 obtain⟨d,hd⟩:∃d,decide (n≤hi)=d:=⟨_,rfl⟩
 rw[hb,hd]
 refine .bV func99 rfl rfl ?_
 refine .sr ?_
 refine .seq (.aD qJ rfl af (.rn dU _ ?_))
 refine .split (t:=10) rfl (fun gU=>?_) (fun gU=>?_)
 ·try subst gU
  try simp at gU
  refine .rn [4,5,6,7,8] [] ?_
  refine .done (.ret (aH ?_))
  exact zk
 try subst gU
 try simp at gU
 refine .rn [4,5,6,7,8] [] ?_
 refine .done (.ret (aH ?_))
 exact zk
theorem y6 (n:Int):aM prog 161 [.int .i64 n] fun r=>r=.bool (eV n):=by
 refine .bV func161 rfl rfl ?_
 refine .sr ?_
 refine .seq (.aD [0,1,2] rfl af (.rn [0] _ ?_))
 refine .pc rfl rfl rfl rfl rfl call99 (uw _ _ _) ?_
 refine .rn [2] [] ?_
 refine .done (.ret (aH ?_))
 rfl
theorem Me (c:aq)(f t:Int)(hl:c.mx.length≤4294967295):aM prog 160 [.agg [.int .i64 c.om,.int .i64 c.le,.int .i64 c.tw,.int .i64 c.gl,.int .i64 c.ad,.vec (c.mx.map bs)],.int .i64 f,.int .i64 t] fun r=>r=.int .i64 ((ec c.mx f t).getD 0):=by
 refine .bV func160 rfl rfl ?_
 refine .sr ?_
 refine .seq (.sr ?_)
 refine .block ?_
 refine .dF (fun i:Nat=>([(1,.int .i64 f),(2,.int .i64 t),(3,.ptr 0 0),(7,.int .i64 i)],⟨1,[(0,.box [.int .i64 c.om,.int .i64 c.le,.int .i64 c.tw,.int .i64 c.gl,.int .i64 c.ad,.vec (c.mx.map bs)])]⟩)) (fun i=>i≤c.mx.length∧ec c.mx f t=ec (c.mx.drop i) f t) (fun i=>c.mx.length - i) 0 ⟨by simp,by simp⟩ bx ?_
 rintro i ⟨hi,hx⟩
 simp only at hi hx ⊢
 refine .seq (.sr ?_)
 refine .cs ?_ ?_<;>intro uk
 ·try simp at uk
  have eP:=fy i
  have cT:i<c.mx.length:=by omega
  obtain⟨x,hxg⟩:∃x,c.mx[i]?=some x:=⟨_,List.getElem?_eq_getElem cT⟩
  have ki:c.mx[i]=x:=(List.getElem?_eq_some_iff.1 hxg).2
  rw[zwy cT,ki] at hx
  have hE:bs x=.agg [.int .i64 x.f,.int .i64 x.t,.int .i64 x.c]:=rfl
  obtain⟨e0,eC⟩:∃b,(x.f==f)=b:=⟨_,rfl⟩
  obtain⟨e1,iL⟩:∃b,(x.t==t)=b:=⟨_,rfl⟩
  refine .skip (.seq (.block (.seq (.aD nJ rfl af (.rn qJ _ ?_)))))
  refine .split (t:=23) rfl (fun fO=>?_) (fun fO=>?_)
  ·try subst fO
   try simp at fO
   refine .rn [9,10,11,12,13,14,15,16,17] [] ?_
   refine .done ?_
   refine .cs ?_ ?_<;>intro eX
   ·try simp at eX
    subst eX
    have IF:x.f=f∧x.t=t:=⟨by simpa using eC,by simpa using iL⟩
    rw[if_pos IF] at hx
    refine .sr ?_
    refine .ret (aH ?_)
    rw[hx];rfl
   try simp at eX
   refine .skip (.rn ?_)
   rw[if_neg (fun hh=>by rw[eX] at iL;simp[hh.2] at iL)] at hx
   exact⟨i+1,⟨bt,hx⟩,bt,bx⟩
  try subst fO
  try simp at fO
  refine .rn [9,10,11,12,13,14,15,16,17] [] ?_
  refine .done (.iM rfl (.skip (.rn ?_)))
  rw[if_neg (fun hh=>by simp[hh.1] at eC)] at hx
  exact⟨i+1,⟨bt,hx⟩,bt,bx⟩
 try simp at uk
 obtain rfl:i=c.mx.length:=by omega
 rw[List.drop_length] at hx
 refine .exit (.sr ?_)
 refine .ret (aH ?_)
 rw[hx];rfl
theorem Mf (c:aq)(j:Nat)(w:List Int)(hj:j≤100)(hl:w.length≤100)(hc:c.c.length≤100):aM prog 159 [aK c,.int .i64 j,eW w] fun r=>r=.bool (hasB c j w):=by
 have hC:dh c=(cQ c):=rfl
 unfold aK
 rw[hC]
 refine .bV func159 rfl rfl ?_
 rcases Iz w with⟨rfl,hw⟩|hw
 ·
  rw[hw]
  refine .sr ?_
  refine .seq (.sr ?_)
  refine .block ?_
  refine .dF (fun k:Nat=>([(1,.int .i64 j),(2,.aF),(3,.ptr 0 0),(7,.int .i64 k)],⟨1,[(0,.box (cQ c))]⟩)) (fun k=>k=0) (fun k=>0) 0 rfl bx ?_
  rintro k hk
  simp only at hk ⊢
  refine .seq (.sr ?_)
  refine .cs ?_ ?_<;>intro ku
  ·try simp at ku
  try simp at ku
  refine .exit (.sr ?_)
  refine .ret (aH ?_)
  subst hk;simp[hasB]
 ·
  rw[hw]
  refine .sr ?_
  refine .seq (.sr ?_)
  refine .block ?_
  refine .dF (fun k:Nat=>([(1,.int .i64 j),(2,ints w),(3,.ptr 0 0),(7,.int .i64 k)],⟨1,[(0,.box (cQ c))]⟩)) (fun k=>k≤w.length∧∀m,m<k→j+m<c.c.length∧c.c[j+m]?=w[m]?) (fun k=>w.length - k) 0 ⟨by simp,fun m h=>absurd h (Nat.not_lt_zero m)⟩ bx ?_
  rintro k hk
  simp only at hk ⊢
  refine .seq (.sr ?_)
  refine .cs ?_ ?_<;>intro ku
  ·try simp at ku
   obtain⟨hk,hm⟩:=hk
   have eP:=fy k
   have rV:IntKind.i64.wrap ((j:Int)+(k:Int))=(j:Int)+(k:Int):=wrap64 (by omega) (by omega)
   have fD:k<w.length:=by omega
   obtain⟨e0,eC⟩:∃b,decide ((c.c.length:Int)≤(j:Int)+(k:Int))=b:=⟨_,rfl⟩
   obtain⟨wv,Mg⟩:∃v,w[k]?=some v:=⟨_,List.getElem?_eq_getElem fD⟩
   have hwe:w[k]=wv:=(List.getElem?_eq_some_iff.1 Mg).2
   refine .skip (.seq (.block (.seq ?_)))
   refine .drawn (ms:=[0,0,3,0,8,24,63,127,255,511,255,255,3327,8191,16383,255,255,98559,229631,524287,1048575]) (W:=[]) (items:=[.op 0,.op 1,.op 2,.op 3,.op 4,.op 5,.op 6,.op 7,.op 8,.op 9,.op 10,.op 11,.op 12,.op 13,.op 14,.op 15,.op 16,.op 17,.op 18,.op 19,.op 20]) rfl af af af ?_
   iterate 8 refine .rx ?_
   refine .split (t:=21) rfl (fun dG=>?_) (fun dG=>?_)
   ·try subst dG
    try simp at dG
    have hb:¬j+k<c.c.length:=by simp at eC;omega
    have hF:hasB c j w=false:=by
     rw[Bool.eq_false_iff];intro hh
     exact hb ((Md.1 hh).2 k fD).1
    iterate 12 refine .ux ?_
    refine .rx ?_
    refine .done (.eK rfl (.sr ?_))
    refine .ret (aH ?_)
    simp[hF]
   try subst dG
   try simp at dG
   have hb:j+k<c.c.length:=by simp at eC;omega
   have hq:0≤(j:Int)+(k:Int)∧(j:Int)+(k:Int)<(c.c.length:Int):=by omega
   have Mh:((j:Int)+(k:Int)).toNat=j+k:=by omega
   obtain⟨cv,iD⟩:∃v,c.c[j+k]?=some v:=⟨_,List.getElem?_eq_getElem hb⟩
   have gR:c.c[j+k]=cv:=(List.getElem?_eq_some_iff.1 iD).2
   iterate 13 refine .rx ?_
   refine .done ?_
   refine .cs ?_ ?_<;>intro na
   ·try simp at na
    have hF:hasB c j w=false:=by
     rw[Bool.eq_false_iff];intro hh
     have:=((Md.1 hh).2 k fD).2
     rw[iD,Mg] at this
     injection this with this
     exact na this
    refine .sr ?_
    refine .ret (aH ?_)
    simp[hF]
   try simp at na
   have heq:cv=wv:=na
   refine .skip (.rn ?_)
   refine⟨k+1,⟨bt,fun m gu=>?_⟩,bt,bx⟩
   rcases Nat.lt_or_ge m k with h|h
   ·exact hm m h
   obtain rfl:m=k:=by omega
   exact⟨hb,by rw[iD,Mg,heq]⟩
  try simp at ku
  obtain⟨hk,hm⟩:=hk
  obtain rfl:k=w.length:=by omega
  have hF:hasB c j w=decide (j≤c.c.length):=by
   rw[Bool.eq_iff_iff,Md,decide_eq_true_eq]
   exact⟨fun hh=>hh.1,fun hh=>⟨hh,hm⟩⟩
  refine .exit (.sr ?_)
  refine .ret (aH ?_)
  simp[hF]
end
def jk (s:ai)(w:List Int):Int:=if w=[] then s.i else IntKind.i64.wrap (s.i+w.length)
theorem RC {s:ai}{w:List Int}(h:w≠[]):jk s w=IntKind.i64.wrap (s.i+w.length):=if_neg h
def Gj (c:aq)(s:ai):PV:=match aR c s with
 |some (n,i',w)=>.agg [.int .i64 i',.int .i64 (jk s w),.int .i64 n,eW w,.bool true]
 |none=>.agg [.int .i64 0,.int .i64 0,.int .i64 0,.aF,.bool false]
theorem iA {c:aq}{s:ai}{n:Int}{i':Nat}{w:List Int}(h:aR c s=some (n,i',w)):Gj c s=.agg [.int .i64 i',.int .i64 (jk s w),.int .i64 n,eW w,.bool true]:=by unfold Gj;rw[h]
theorem jT {c:aq}{s:ai}(h:aR c s=none):Gj c s=.agg [.int .i64 0,.int .i64 0,.int .i64 0,.aF,.bool false]:=by unfold Gj;rw[h]
theorem xct {c:aq}{a i:Nat}{l w:Int}(h:a≤c.t.length):aR c ⟨1,a,i,l,w⟩=if a<c.t.length∧l=0 then (ec c.mx (c.t.getD a 0) w).map fun n=>(n,a+1,[w]) else none:=by
 unfold aR;rw[if_pos (by simp only;omega)];simp
theorem xc2 {c:aq}{a i:Nat}{l w:Int}(h:a≤c.t.length):aR c ⟨2,a,i,l,w⟩=if a<c.t.length∧l=0∧w=0 then some (c.om,a+1,[]) else none:=by
 unfold aR;rw[if_pos (by simp only;omega)];simp
theorem xcg {c:aq}{a i:Nat}{l w:Int}(h:a≤c.t.length):aR c ⟨3,a,i,l,w⟩=if 1≤a∧1≤l∧l≤(c.t.length:Int) - a∧w=0∧c.t.getD (a+l.toNat - 1) 0=c.t.getD (a - 1) 0 then some (c.le,a+l.toNat,[]) else none:=by
 unfold aR;rw[if_pos (by simp only;omega)];simp
theorem xbq {c:aq}{a i:Nat}{l w:Int}(h:a≤c.t.length):aR c ⟨4,a,i,l,w⟩=if 1≤l∧l≤(a:Int)∧w=0 then some (c.tw,a,(c.t.drop (a - l.toNat)).take l.toNat) else none:=by
 unfold aR;rw[if_pos (by simp only;omega)];simp
theorem xcb {c:aq}{a i:Nat}{l w:Int}(h:a≤c.t.length):aR c ⟨5,a,i,l,w⟩=if 0≤l∧l≤(c.g.length:Int) - 1∧w=0∧(c.g.getD l.toNat ⟨0,[]⟩).at_=a then some (c.gl,a,(c.g.getD l.toNat ⟨0,[]⟩).ws) else none:=by
 unfold aR;rw[if_pos (by simp only;omega)];simp
theorem xce {c:aq}{a i:Nat}{l w:Int}(h:a≤c.t.length):aR c ⟨6,a,i,l,w⟩=if eV w=true∧l=0 then some (c.ad,a,[w]) else none:=by
 unfold aR;rw[if_pos (by simp only;omega)];simp
theorem xbx {c:aq}{s:ai}(h1:s.k≠1)(h2:s.k≠2)(h3:s.k≠3)(h4:s.k≠4)(h5:s.k≠5)(h6:s.k≠6):aR c s=none:=by
 unfold aR;split
 ·simp[h1,h2,h3,h4,h5,h6]
 rfl
variable [bE] in
theorem Cm (c:aq)(s:ai)(hk:bP c=0):aM prog 126 [aK c,encS s] fun r=>r=Gj c s:=by
 have bq:=j7 hk
 have o4:=bq.tl
 have KU:=bq.KV
 have qL:=bq.vn
 have hC:dh c=(cQ c):=rfl
 obtain⟨sk,sa,si,sl,sw⟩:=s
 have hE:encS ⟨sk,sa,si,sl,sw⟩=.agg [.int .i64 sk,.int .i64 sa,.int .i64 si,.int .i64 sl,.int .i64 sw]:=rfl
 have y7:=fun f t=>Me c f t (by omega)
 unfold aK
 rw[hE,hC]
 refine .bV func126 rfl rfl ?_
 by_cases di:0≤sa∧sa≤(c.t.length:Int)∧0≤si
 ·
  obtain⟨a,rfl⟩:∃a:Nat,sa=a:=⟨sa.toNat,by omega⟩
  obtain⟨i,rfl⟩:∃i:Nat,si=i:=⟨si.toNat,by omega⟩
  have ef:a≤c.t.length:=by omega
  have ra:=uw (a:Int) 0 (c.t.length:Int)
  have mT:IntKind.i64.wrap ((a:Int)+1)=((a+1:Nat):Int):=by rw[wrap64 (by omega) (by omega)];omega
  have D1:=fun l w=>@xct c a i l w ef
  have D2:=fun l w=>@xc2 c a i l w ef
  have D3:=fun l w=>@xcg c a i l w ef
  have D4:=fun l w=>@xbq c a i l w ef
  have D5:=fun l w=>@xcb c a i l w ef
  have D6:=fun l w=>@xce c a i l w ef
  obtain⟨en,IG⟩:∃b,((a:Int)==(c.t.length:Int))=b:=⟨_,rfl⟩
  obtain⟨el,kK⟩:∃b,(sl != 0)=b:=⟨_,rfl⟩
  obtain⟨ew,IH⟩:∃b,(sw != 0)=b:=⟨_,rfl⟩
  obtain⟨ez,II⟩:∃b,((a:Int)==0)=b:=⟨_,rfl⟩
  have bT:el=true→¬sl=0:=fun h hh=>by rw[h] at kK;simp[hh] at kK
  have IJ:ew=true→¬sw=0:=fun h hh=>by rw[h] at IH;simp[hh] at IH
  have p8:en=true→¬a<c.t.length:=fun h hh=>by rw[h] at IG;simp at IG;omega
  have haz:ez=true→¬1≤a:=fun h hh=>by rw[h] at II;simp at II;omega
  have sH:el=false→sl=0:=fun h=>by rw[h] at kK;simpa using kK
  have y8:ew=false→sw=0:=fun h=>by rw[h] at IH;simpa using IH
  have Gk:en=false→a<c.t.length:=fun h=>by rw[h] at IG;simp at IG;omega
  have Mi:ez=false→1≤a:=fun h=>by rw[h] at II;simp at II;omega
  refine .sr ?_
  refine .sr ?_
  refine .sr ?_
  refine .sr ?_
  refine .sr ?_
  refine .seq (.aD dU rfl af (.rn [0,1] _ ?_))
  refine .pc rfl rfl rfl rfl rfl call99 (ra) ?_
  refine .rn [3] [] ?_
  refine .done (.seq (.seq (.aD jR rfl af ?_)))
  refine .rn [0,1,2] _ ?_
  refine .split (t:=28) rfl (fun p7=>?_) (fun p7=>?_)
  ·try subst p7
   try simp at p7
  try subst p7
  try simp at p7
  refine .rn [3,4,5] [] ?_
  refine .done ?_
  refine .cs ?_ ?_<;>intro ta
  ·try simp at ta
   exfalso;omega
  try simp at ta
  refine .skip (.seq (.sr ?_))
  refine .block (.sr ?_)
  refine .cs ?_ ?_<;>intro y5
  ·try simp at y5
   subst y5
   have hD:=D1 sl sw
   refine .seq (.seq (.aD lF rfl af (.rn dU _ ?_)))
   refine .split (t:=40) rfl (fun ka=>?_) (fun ka=>?_)
   ·try subst ka
    try simp at ka
    rw[if_neg (fun hh=>p8 rfl hh.1)] at hD
    refine .rn [4,5,6,7] [] ?_
    refine .done (.eK rfl (.sr ?_))
    refine .ret (aH ?_)
    first|(rw[dY];done)|(rw[dY];first|rfl|(simp;done))|(rw[jT hD];done)|(rw[iA hD];first|rfl|(simp[ints,eW,jk];done))
   try subst ka
   try simp at ka
   have mP:=Gk rfl
   obtain⟨tv,nG⟩:∃v,c.t[a]?=some v:=⟨_,List.getElem?_eq_getElem mP⟩
   have jq:c.t[a]=tv:=(List.getElem?_eq_some_iff.1 nG).2
   have Gm:c.t.getD a 0=tv:=by rw[List.getD_eq_getElem?_getD,nG];rfl
   rw[Gm] at hD
   have y7:=y7 tv sw
   obtain⟨mv,Ax⟩:∃m,(ec c.mx tv sw).getD 0=m:=⟨_,rfl⟩
   rw[Ax] at y7
   refine .rn [4,5,6,7] [] ?_
   refine .done ?_
   refine .cs ?_ ?_<;>intro o9
   ·try simp at o9
    rw[if_neg (fun hh=>bT o9 hh.2)] at hD
    refine .sr ?_
    refine .ret (aH ?_)
    first|(rw[dY];done)|(rw[dY];first|rfl|(simp;done))|(rw[jT hD];done)|(rw[iA hD];first|rfl|(simp[ints,eW,jk];done))
   try simp at o9
   rw[if_pos ⟨mP,sH o9⟩] at hD
   refine .skip (.seq ?_)
   refine .drawn (ms:=[0,1,0,4,0,28,60,0,128,511,1023]) (W:=[9]) (items:=y3) rfl af af af ?_
   iterate 9 refine .rx ?_
   refine .wp rfl rfl rfl rfl rfl call160 (y7) ?_
   refine .rx ?_
   refine .done (.seq (.sr ?_))
   refine .cs ?_ ?_<;>intro DQ
   ·try simp at DQ
    have lW:ec c.mx tv sw=none:=by
     cases hm:ec c.mx tv sw with
     |none=>rfl
     |some n=>
      obtain⟨x,hx,_,_,hxc⟩:=Mj hm
      have:=(bq.RD x hx).1
      rw[hm] at Ax
      simp at Ax
      omega
    rw[lW] at hD
    refine .sr ?_
    refine .ret (aH ?_)
    first|(rw[dY];done)|(rw[dY];first|rfl|(simp;done))|(rw[jT hD];done)|(rw[iA hD];first|rfl|(simp[ints,eW,jk];done))
   try simp at DQ
   obtain⟨n,lW⟩:∃n,ec c.mx tv sw=some n:=by
    cases hm:ec c.mx tv sw with
    |none=>rw[hm] at Ax;exact absurd Ax.symm DQ
    |some n=>exact⟨n,rfl⟩
   rw[lW] at hD Ax
   simp only[Option.getD_some] at Ax
   subst Ax
   refine .skip (.sr ?_)
   refine .ret (aH ?_)
   first|(rw[dY];done)|(rw[dY];first|rfl|(simp;done))|(rw[jT hD];done)|(rw[iA hD];first|rfl|(simp[ints,eW,jk];done))
  try simp at y5
  refine .sr ?_
  refine .cs ?_ ?_<;>intro xp
  ·try simp at xp
   subst xp
   have hD:=D2 sl sw
   refine .seq (.seq (.aD j5 rfl af (.rn dU _ ?_)))
   refine .split (t:=74) rfl (fun kR=>?_) (fun kR=>?_)
   ·try subst kR
    try simp at kR
    rw[if_neg (fun hh=>p8 rfl hh.1)] at hD
    refine .rn [4,5,6,7,8,9,10,11,12] [] ?_
    refine .done (.eK rfl (.sr ?_))
    refine .ret (aH ?_)
    first|(rw[dY];done)|(rw[dY];first|rfl|(simp;done))|(rw[jT hD];done)|(rw[iA hD];first|rfl|(simp[ints,eW,jk];done))
   try subst kR
   try simp at kR
   refine .rn [4,5,6,7,8] _ ?_
   refine .split (t:=79) rfl (fun pV=>?_) (fun pV=>?_)
   ·try subst pV
    try simp at pV
    rw[if_neg (fun hh=>bT rfl hh.2.1)] at hD
    refine .rn [9,10,11,12] [] ?_
    refine .done (.eK rfl (.sr ?_))
    refine .ret (aH ?_)
    first|(rw[dY];done)|(rw[dY];first|rfl|(simp;done))|(rw[jT hD];done)|(rw[iA hD];first|rfl|(simp[ints,eW,jk];done))
   try subst pV
   try simp at pV
   refine .rn [9,10,11,12] [] ?_
   refine .done ?_
   refine .cs ?_ ?_<;>intro IK
   ·try simp at IK
    rw[if_neg (fun hh=>IJ IK hh.2.2)] at hD
    refine .sr ?_
    refine .ret (aH ?_)
    first|(rw[dY];done)|(rw[dY];first|rfl|(simp;done))|(rw[jT hD];done)|(rw[iA hD];first|rfl|(simp[ints,eW,jk];done))
   try simp at IK
   rw[if_pos ⟨Gk rfl,sH rfl,y8 IK⟩] at hD
   refine .skip (.sr ?_)
   refine .ret (aH ?_)
   first|(rw[dY];done)|(rw[dY];first|rfl|(simp;done))|(rw[jT hD];done)|(rw[iA hD];first|rfl|(simp[ints,eW,jk];done))
  try simp at xp
  refine .sr ?_
  refine .cs ?_ ?_<;>intro IL
  ·try simp at IL
   subst IL
   have hD:=D3 sl sw
   have mV:IntKind.i64.wrap ((c.t.length:Int) - (a:Int))=(c.t.length:Int) - (a:Int):=wrap64 (by omega) (by omega)
   have pg:=uw sl 1 ((c.t.length:Int) - (a:Int))
   obtain⟨wi,eD⟩:∃b,(decide (1≤sl)&&decide (sl≤(c.t.length:Int) - (a:Int)))=b:=⟨_,rfl⟩
   rw[eD] at pg
   refine .seq (.seq (.aD iJ rfl af (.rn [0,1,2] _ ?_)))
   refine .split (t:=97) rfl (fun kp=>?_) (fun kp=>?_)
   ·try subst kp
    try simp at kp
    rw[if_neg (fun hh=>haz rfl hh.1)] at hD
    refine .rn [3,4,5,6] [] ?_
    refine .done (.eK rfl (.sr ?_))
    refine .ret (aH ?_)
    first|(rw[dY];done)|(rw[dY];first|rfl|(simp;done))|(rw[jT hD];done)|(rw[iA hD];first|rfl|(simp[ints,eW,jk];done))
   try subst kp
   try simp at kp
   refine .rn [3,4,5,6] [] ?_
   refine .done ?_
   refine .cs ?_ ?_<;>intro q9
   ·try simp at q9
    rw[if_neg (fun hh=>IJ q9 hh.2.2.2.1)] at hD
    refine .sr ?_
    refine .ret (aH ?_)
    first|(rw[dY];done)|(rw[dY];first|rfl|(simp;done))|(rw[jT hD];done)|(rw[iA hD];first|rfl|(simp[ints,eW,jk];done))
   try simp at q9
   have tf:=Mi rfl
   refine .skip (.seq (.aD iJ rfl af (.rn gy _ ?_)))
   refine .step rfl rfl (.pure rfl rfl rfl call99 (by decide) (pg) (by first|rfl|simp[*]) ?_)
   rintro _ rfl;obtain⟨nw,Bk⟩:∃b,(!wi)=b:=⟨_,rfl⟩
   refine .rn [6] [] ?_
   refine .done (.seq (.seq ?_))
   refine .drawn (ms:=[0,1,3,7,15,7,7,71,231,487,1023,2047,7,4103,7,16391,61447,126983,262143,524287]) (W:=[]) (items:=Fj) rfl af af af ?_
   iterate 3 refine .rx ?_
   refine .split (t:=111) rfl (fun vQ=>?_) (fun vQ=>?_)
   ·try subst vQ
    try simp at vQ
    have lN:wi=false:=by simpa using Bk
    rw[if_neg (fun hh=>by rw[lN] at eD;simp[hh.2.1,hh.2.2.1] at eD)] at hD
    iterate 16 refine .ux ?_
    refine .rx ?_
    refine .done (.eK rfl (.sr ?_))
    refine .ret (aH ?_)
    first|(rw[dY];done)|(rw[dY];first|rfl|(simp;done))|(rw[jT hD];done)|(rw[iA hD];first|rfl|(simp[ints,eW,jk];done))
   try subst vQ
   try simp at vQ
   have lN:wi=true:=by simpa using Bk
   have uW:1≤sl∧sl≤(c.t.length:Int) - (a:Int):=by rw[lN] at eD;simpa using eD
   obtain⟨l,rfl⟩:∃l:Nat,sl=l:=⟨sl.toNat,by omega⟩
   have KW:IntKind.i64.wrap ((a:Int)+(l:Int))=(a:Int)+(l:Int):=wrap64 (by omega) (by omega)
   obtain⟨p,hp⟩:∃p:Nat,a+l - 1=p:=⟨_,rfl⟩
   obtain⟨q,hq⟩:∃q:Nat,a - 1=q:=⟨_,rfl⟩
   have xK:IntKind.i64.wrap ((a:Int)+(l:Int) - 1)=(p:Int):=by rw[wrap64 (by omega) (by omega)];omega
   have Ho:IntKind.i64.wrap ((a:Int) - 1)=(q:Int):=by rw[wrap64 (by omega) (by omega)];omega
   have gZ:p<c.t.length:=by omega
   have hql:q<c.t.length:=by omega
   obtain⟨v1,iK⟩:∃v,c.t[p]?=some v:=⟨_,List.getElem?_eq_getElem gZ⟩
   obtain⟨v2,eI⟩:∃v,c.t[q]?=some v:=⟨_,List.getElem?_eq_getElem hql⟩
   have y9:c.t[p]=v1:=(List.getElem?_eq_some_iff.1 iK).2
   have za:c.t[q]=v2:=(List.getElem?_eq_some_iff.1 eI).2
   have e1:c.t.getD p 0=v1:=by rw[List.getD_eq_getElem?_getD,iK];rfl
   have e2:c.t.getD q 0=v2:=by rw[List.getD_eq_getElem?_getD,eI];rfl
   rw[Int.toNat_natCast,hp,hq,e1,e2] at hD
   iterate 17 refine .rx ?_
   refine .done ?_
   refine .cs ?_ ?_<;>intro zb
   ·try simp at zb
    rw[if_neg (fun hh=>zb hh.2.2.2.2)] at hD
    refine .sr ?_
    refine .ret (aH ?_)
    first|(rw[dY];done)|(rw[dY];first|rfl|(simp;done))|(rw[jT hD];done)|(rw[iA hD];first|rfl|(simp[ints,eW,jk];done))
   try simp at zb
   rw[if_pos ⟨tf,uW.1,uW.2,y8 q9,zb⟩] at hD
   refine .skip (.sr ?_)
   refine .ret (aH ?_)
   first|(rw[dY];done)|(rw[dY];first|rfl|(simp;done))|(rw[jT hD];done)|(rw[iA hD];first|rfl|(simp[ints,eW,jk];done))
  try simp at IL
  refine .sr ?_
  refine .cs ?_ ?_<;>intro zc
  ·try simp at zc
   subst zc
   have hD:=D4 sl sw
   have pg:=uw sl 1 (a:Int)
   obtain⟨wi,eD⟩:∃b,(decide (1≤sl)&&decide (sl≤(a:Int)))=b:=⟨_,rfl⟩
   rw[eD] at pg
   refine .seq (.aD gy rfl af (.rn [0,1,2] _ ?_))
   refine .pc rfl rfl rfl rfl rfl call99 (pg) ?_
   refine .rn [4] [] ?_
   refine .done (.seq (.seq (.aD iJ rfl af ?_)))
   refine .rn [0,1,2] _ ?_
   refine .split (t:=148) rfl (fun rb=>?_) (fun rb=>?_)
   ·try subst rb
    try simp at rb
    have lN:wi=false:=by simpa using rb
    rw[if_neg (fun hh=>by rw[lN] at eD;simp[hh.1,hh.2.1] at eD)] at hD
    refine .rn [3,4,5,6] [] ?_
    refine .done (.eK rfl (.sr ?_))
    refine .ret (aH ?_)
    first|(rw[dY];done)|(rw[dY];first|rfl|(simp;done))|(rw[jT hD];done)|(rw[iA hD];first|rfl|(simp[ints,eW,jk];done))
   try subst rb
   try simp at rb
   have lN:wi=true:=by simpa using rb
   have uW:1≤sl∧sl≤(a:Int):=by rw[lN] at eD;simpa using eD
   obtain⟨l,rfl⟩:∃l:Nat,sl=l:=⟨sl.toNat,by omega⟩
   obtain⟨p,hp⟩:∃p:Nat,a - l=p:=⟨_,rfl⟩
   have KW:IntKind.i64.wrap ((a:Int) - (l:Int))=(p:Int):=by rw[wrap64 (by omega) (by omega)];omega
   have hpa:a - p=l:=by omega
   have gZ:p≤a:=by omega
   rw[Int.toNat_natCast,hp] at hD
   obtain⟨W,hW⟩:∃W,(c.t.drop p).take l=W:=⟨_,rfl⟩
   have BQ:W.length=l:=by rw[← hW,List.length_take,List.length_drop];omega
   have HT:List.take l (List.drop p (c.t.map (PV.int .i64)))=W.map (PV.int .i64):=by rw[← hW,List.map_take,List.map_drop]
   have qM:W≠[]:=fun h=>by rw[h] at BQ;simp at BQ;omega
   have Ay:eW W=ints W:=Fc qM
   have Mk:jk ⟨4,a,i,l,sw⟩ W=IntKind.i64.wrap ((i:Int)+(l:Int)):=by rw[RC qM,BQ]
   rw[hW] at hD
   clear hW
   refine .rn [3,4,5,6] [] ?_
   refine .done ?_
   refine .cs ?_ ?_<;>intro zd
   ·try simp at zd
    rw[if_neg (fun hh=>IJ zd hh.2.2)] at hD
    refine .sr ?_
    refine .ret (aH ?_)
    first|(rw[dY];done)|(rw[dY];first|rfl|(simp;done))|(rw[jT hD];done)|(rw[iA hD];first|rfl|(simp[ints,eW,jk];done))
   try simp at zd
   rw[if_pos ⟨uW.1,uW.2,y8 zd⟩] at hD
   have dY:=iA hD
   rw[Ay,Mk] at dY
   refine .skip (.seq ?_)
   refine .drawn (ms:=[0,0,0,4,14,31,0,64,192,0,512,0,0,4096,14336,0,65024,131071,262143]) (W:=[18]) (items:=[.op 0,.op 1,.op 2,.op 3,.op 4,.op 5,.op 6,.op 7,.op 8,.op 9,.op 10,.op 11,.op 12,.op 13,.op 14,.op 15,.op 16,.op 17,.op 18]) rfl af af af ?_
   iterate 18 refine .rx ?_
   refine .wv ?_
   refine .done (.ret (aH ?_))
   first|(rw[dY];done)|(rw[dY];first|rfl|(simp;done))|(rw[jT hD];done)|(rw[iA hD];first|rfl|(simp[ints,eW,jk];done))
  try simp at zc
  refine .sr ?_
  refine .cs ?_ ?_<;>intro ze
  ·try simp at ze
   subst ze
   have hD:=D5 sl sw
   have mV:IntKind.i64.wrap ((c.g.length:Int) - 1)=(c.g.length:Int) - 1:=wrap64 (by omega) (by omega)
   have pg:=uw sl 0 ((c.g.length:Int) - 1)
   obtain⟨wi,eD⟩:∃b,(decide (0≤sl)&&decide (sl≤(c.g.length:Int) - 1))=b:=⟨_,rfl⟩
   rw[eD] at pg
   refine .seq (.aD lF rfl af (.rn jR _ ?_))
   refine .pc rfl rfl rfl rfl rfl call99 (pg) ?_
   refine .rn [7] [] ?_
   refine .done (.seq (.seq (.aD nJ rfl af ?_)))
   refine .rn [0,1,2] _ ?_
   refine .split (t:=183) rfl (fun re=>?_) (fun re=>?_)
   ·try subst re
    try simp at re
    have lN:wi=false:=by simpa using re
    rw[if_neg (fun hh=>by rw[lN] at eD;simp[hh.1,hh.2.1] at eD)] at hD
    refine .rn [3,4,5,6,7,8,9,10,11,12,13,14,15,16,17] [] ?_
    refine .done (.eK rfl (.sr ?_))
    refine .ret (aH ?_)
    first|(rw[dY];done)|(rw[dY];first|rfl|(simp;done))|(rw[jT hD];done)|(rw[iA hD];first|rfl|(simp[ints,eW,jk];done))
   try subst re
   try simp at re
   have lN:wi=true:=by simpa using re
   have uW:0≤sl∧sl≤(c.g.length:Int) - 1:=by rw[lN] at eD;simpa using eD
   obtain⟨l,rfl⟩:∃l:Nat,sl=l:=⟨sl.toNat,by omega⟩
   have fa:l<c.g.length:=by omega
   obtain⟨y,hy⟩:∃y,c.g[l]?=some y:=⟨_,List.getElem?_eq_getElem fa⟩
   have zf:c.g[l]=y:=(List.getElem?_eq_some_iff.1 hy).2
   have hyd:c.g.getD l ⟨0,[]⟩=y:=by rw[List.getD_eq_getElem?_getD,hy];rfl
   have RE:=bq.Ic y (List.mem_of_getElem? hy)
   have hG:cb y=.agg [.int .i64 y.at_,ints y.ws]:=rfl
   rw[Int.toNat_natCast,hyd] at hD
   have hyl:=RE.2.2.1
   have Az:=RE.2.1
   have qM:y.ws≠[]:=fun h=>by rw[h] at Az;simp at Az
   have Ay:eW y.ws=ints y.ws:=Fc qM
   have Mk:jk ⟨5,a,i,l,sw⟩ y.ws=IntKind.i64.wrap ((i:Int)+(y.ws.length:Int)):=RC qM
   refine .rn [3,4,5,6,7] _ ?_
   refine .split (t:=188) rfl (fun vR=>?_) (fun vR=>?_)
   ·try subst vR
    try simp at vR
    rw[if_neg (fun hh=>IJ rfl hh.2.2.1)] at hD
    refine .rn [8,9,10,11,12,13,14,15,16,17] [] ?_
    refine .done (.eK rfl (.sr ?_))
    refine .ret (aH ?_)
    first|(rw[dY];done)|(rw[dY];first|rfl|(simp;done))|(rw[jT hD];done)|(rw[iA hD];first|rfl|(simp[ints,eW,jk];done))
   try subst vR
   try simp at vR
   refine .rn [8,9,10,11,12,13,14,15,16,17] [] ?_
   refine .done ?_
   refine .cs ?_ ?_<;>intro zg
   ·try simp at zg
    rw[if_neg (fun hh=>zg hh.2.2.2)] at hD
    refine .sr ?_
    refine .ret (aH ?_)
    first|(rw[dY];done)|(rw[dY];first|rfl|(simp;done))|(rw[jT hD];done)|(rw[iA hD];first|rfl|(simp[ints,eW,jk];done))
   try simp at zg
   rw[if_pos ⟨uW.1,uW.2,y8 rfl,zg⟩] at hD
   have dY:=iA hD
   rw[Ay,Mk] at dY
   refine .skip (.seq ?_)
   refine .drawn (ms:=[0,0,0,4,0,16,60,124,252,508,1022,2047,0,4096,12288,0,32768,0,131072,491520,1015808,2064384,4194303,8388607]) (W:=[23]) (items:=PZ) rfl af af af ?_
   iterate 23 refine .rx ?_
   refine .wv ?_
   refine .done (.ret (aH ?_))
   first|(rw[dY];done)|(rw[dY];first|rfl|(simp;done))|(rw[jT hD];done)|(rw[iA hD];first|rfl|(simp[ints,eW,jk];done))
  try simp at ze
  refine .sr ?_
  refine .cs ?_ ?_<;>intro zh
  ·try simp at zh
   subst zh
   have hD:=D6 sl sw
   have vS:=y6 sw
   obtain⟨wb,xK⟩:∃b,eV sw=b:=⟨_,rfl⟩
   rw[xK] at vS
   refine .seq (.aD dU rfl af (.rn [0,1] _ ?_))
   refine .pc rfl rfl rfl rfl rfl call161 (vS) ?_
   refine .rn [3] [] ?_
   refine .done (.seq (.seq (.aD iJ rfl af ?_)))
   refine .rn [0,1,2] _ ?_
   refine .split (t:=230) rfl (fun kg=>?_) (fun kg=>?_)
   ·try subst kg
    try simp at kg
    rw[if_neg (fun hh=>by rw[hh.1] at xK;simp[← xK] at kg)] at hD
    refine .rn [3,4,5,6] [] ?_
    refine .done (.eK rfl (.sr ?_))
    refine .ret (aH ?_)
    first|(rw[dY];done)|(rw[dY];first|rfl|(simp;done))|(rw[jT hD];done)|(rw[iA hD];first|rfl|(simp[ints,eW,jk];done))
   try subst kg
   try simp at kg
   refine .rn [3,4,5,6] [] ?_
   refine .done ?_
   refine .cs ?_ ?_<;>intro mF
   ·try simp at mF
    rw[if_neg (fun hh=>bT mF hh.2)] at hD
    refine .sr ?_
    refine .ret (aH ?_)
    first|(rw[dY];done)|(rw[dY];first|rfl|(simp;done))|(rw[jT hD];done)|(rw[iA hD];first|rfl|(simp[ints,eW,jk];done))
   try simp at mF
   rw[if_pos ⟨xK.trans (by simpa using kg),sH mF⟩] at hD
   refine .skip (.sr ?_)
   refine .ret (aH ?_)
   first|(rw[dY];done)|(rw[dY];first|rfl|(simp;done))|(rw[jT hD];done)|(rw[iA hD];first|rfl|(simp[ints,eW,jk];done))
  try simp at zh
  have hD:aR c ⟨sk,a,i,sl,sw⟩=none:=xbx (s:=⟨sk,a,i,sl,sw⟩) y5 xp IL zc ze zh
  refine .skip (.sr ?_)
  refine .ret (aH ?_)
  first|(rw[dY];done)|(rw[dY];first|rfl|(simp;done))|(rw[jT hD];done)|(rw[iA hD];first|rfl|(simp[ints,eW,jk];done))
 ·
  have hN:=jT (PT (c:=c) (s:=⟨sk,sa,si,sl,sw⟩) di)
  have ra:=uw sa 0 (c.t.length:Int)
  rw[hN]
  obtain⟨wi,eD⟩:∃b,(decide (0≤sa)&&decide (sa≤(c.t.length:Int)))=b:=⟨_,rfl⟩
  obtain⟨nw,Bk⟩:∃b,(!wi)=b:=⟨_,rfl⟩
  rw[eD] at ra
  refine .sr ?_
  refine .sr ?_
  refine .sr ?_
  refine .sr ?_
  refine .sr ?_
  refine .seq (.aD dU rfl af (.rn [0,1] _ ?_))
  refine .pc rfl rfl rfl rfl rfl call99 (ra) ?_
  refine .rn [3] [] ?_
  refine .done (.seq (.seq (.aD jR rfl af ?_)))
  refine .rn [0,1,2] _ ?_
  refine .split (t:=28) rfl (fun p7=>?_) (fun p7=>?_)
  ·try subst p7
   try simp at p7
   refine .rn [3,4,5] [] ?_
   refine .done (.eK rfl (.sr ?_))
   refine .ret (aH ?_)
   exact zk
  try subst p7
  try simp at p7
  refine .rn [3,4,5] [] ?_
  refine .done ?_
  refine .cs ?_ ?_<;>intro ta
  ·try simp at ta
   refine .sr ?_
   refine .ret (aH ?_)
   exact zk
  try simp at ta
  exfalso;have mT:wi=true:=by simpa using Bk
  rw[mT] at eD;simp at eD;exact di ⟨eD.1,eD.2,by omega⟩
theorem Ml (w:List Int):PV.one (eW w)=true:=by unfold eW;split<;>rfl
attribute [local simp ↓ high] Ml
def AA (c:aq)(l:List ai):PV:=match iy c l with
 |some (o,n)=>.agg [ints o,.int .i64 n,.bool true]
 |none=>.agg [.vec [],.int .i64 0,.bool false]
theorem IM {a b:PV}(ha:a.aB=true)(hb:b.aB=true):et (.agg [.aF,a,b]) (.agg [.vec [],a,b]):=.ky (.cons .dJ (.cons (.same _ ha) (.cons (.same _ hb) .nil)))
theorem z5b (c:aq)(l:List ai):(AA c l).aB=true:=by
 unfold AA
 split<;>simp[PV.aB,PV.aG]
section
variable [bE]
theorem Mm (a b:List Int)(ha:a.length<4611686018427387904)(hb:b.length<4611686018427387904):aM prog 37 [ints a,ints b] fun r=>r=.bool (decide (a=b)):=by
 refine .bV func37 rfl rfl ?_
 refine .sr ?_
 refine .seq (.sr ?_)
 refine .cs ?_ ?_<;>intro gU
 ·try simp at gU
  have cC:decide (a=b)=false:=by
   rw[decide_eq_false_iff_not];intro h;rw[h] at gU;simp at gU
  refine .sr ?_
  refine .ret (aH ?_)
  rw[cC]
 try simp at gU
 have hlen:b.length=a.length:=by omega
 refine .skip (.seq (.sr ?_))
 refine .block ?_
 refine .dF (fun i:Nat=>([(0,ints a),(1,ints b),(5,.int .i64 i)],ah.empty)) (fun i=>i≤a.length∧a.take i=b.take i) (fun i=>a.length - i) 0 ⟨by simp,by simp⟩ (.pure (by simp[*]) (by simp)) ?_
 rintro i ⟨hi,ht⟩
 simp only at hi ht ⊢
 refine .seq (.sr ?_)
 refine .cs ?_ ?_<;>intro oe
 ·try simp at oe
  have eP:=fy i
  have qP:i<a.length:=by omega
  have BR:i<b.length:=by omega
  obtain⟨x,hx⟩:∃x,a[i]?=some x:=⟨_,List.getElem?_eq_getElem qP⟩
  obtain⟨y,hy⟩:∃y,b[i]?=some y:=⟨_,List.getElem?_eq_getElem BR⟩
  have ki:a[i]=x:=(List.getElem?_eq_some_iff.1 hx).2
  have zf:b[i]=y:=(List.getElem?_eq_some_iff.1 hy).2
  refine .skip (.seq (.block (.seq ?_)))
  refine .drawn (ms:=[0,0,3,7,0,0,48,112,255]) (W:=[]) (items:=Dt) rfl af af af ?_
  iterate 9 refine .rx ?_
  refine .done ?_
  refine .cs ?_ ?_<;>intro fN
  ·try simp at fN
   have zi:¬x=y:=fN
   have cC:decide (a=b)=false:=by
    rw[decide_eq_false_iff_not];intro h
    rw[h,hy] at hx;injection hx with hx;exact zi hx.symm
   refine .sr ?_
   refine .ret (aH ?_)
   rw[cC]
  try simp at fN
  have zi:x=y:=fN
  refine .skip (.rn ?_)
  refine⟨i+1,⟨bt,?_⟩,bt,.pure (by simp[*]) (by simp)⟩
  rw[List.take_succ_eq_append_getElem qP,List.take_succ_eq_append_getElem BR,ht,ki,zf,zi]
 try simp at oe
 obtain rfl:i=a.length:=by omega
 have cC:decide (a=b)=true:=by
  rw[decide_eq_true_eq]
  rw[List.take_length,← hlen,List.take_length] at ht
  exact ht
 refine .exit (.sr ?_)
 refine .ret (aH ?_)
 rw[cC]
theorem p34 (a b:List ai)(ha:a.length<4611686018427387904)(hb:b.length<4611686018427387904):aM prog 34 [.vec (a.map encS),.vec (b.map encS)] fun r=>r=.bool (decide (a=b)):=by
 refine .bV func34 rfl rfl ?_
 refine .sr ?_
 refine .seq (.sr ?_)
 refine .cs ?_ ?_<;>intro gU
 ·try simp at gU
  have cC:decide (a=b)=false:=by
   rw[decide_eq_false_iff_not];intro h;rw[h] at gU;simp at gU
  refine .sr ?_
  refine .ret (aH ?_)
  rw[cC]
 try simp at gU
 have hlen:b.length=a.length:=by omega
 refine .skip (.seq (.sr ?_))
 refine .block ?_
 refine .dF (fun i:Nat=>([(0,.vec (a.map encS)),(1,.vec (b.map encS)),(5,.int .i64 i)],ah.empty)) (fun i=>i≤a.length∧a.take i=b.take i) (fun i=>a.length - i) 0 ⟨by simp,by simp⟩ (.pure (by simp[*]) (by simp)) ?_
 rintro i ⟨hi,ht⟩
 simp only at hi ht ⊢
 refine .seq (.sr ?_)
 refine .cs ?_ ?_<;>intro oe
 ·try simp at oe
  have eP:=fy i
  have qP:i<a.length:=by omega
  have BR:i<b.length:=by omega
  obtain⟨x,hx⟩:∃x,a[i]?=some x:=⟨_,List.getElem?_eq_getElem qP⟩
  obtain⟨y,hy⟩:∃y,b[i]?=some y:=⟨_,List.getElem?_eq_getElem BR⟩
  have ki:a[i]=x:=(List.getElem?_eq_some_iff.1 hx).2
  have zf:b[i]=y:=(List.getElem?_eq_some_iff.1 hy).2
  have hE:∀s:ai,encS s=.agg [.int .i64 s.k,.int .i64 s.a,.int .i64 s.i,.int .i64 s.l,.int .i64 s.w]:=fun _=>rfl
  refine .skip (.seq (.block (.seq ?_)))
  refine .drawn (ms:=[0,0,3,7,0,0,48,112,255]) (W:=[]) (items:=Dt) rfl af af af ?_
  iterate 9 refine .rx ?_
  refine .done ?_
  refine .cs ?_ ?_<;>intro fN
  ·try simp at fN
   have zi:¬x=y:=fun e=>by subst e;simp at fN
   have cC:decide (a=b)=false:=by
    rw[decide_eq_false_iff_not];intro h
    rw[h,hy] at hx;injection hx with hx;exact zi hx.symm
   refine .sr ?_
   refine .ret (aH ?_)
   rw[cC]
  try simp at fN
  have zi:x=y:=by cases x;cases y;simp at fN;simp[fN]
  refine .skip (.rn ?_)
  refine⟨i+1,⟨bt,?_⟩,bt,.pure (by simp[*]) (by simp)⟩
  rw[List.take_succ_eq_append_getElem qP,List.take_succ_eq_append_getElem BR,ht,ki,zf,zi]
 try simp at oe
 obtain rfl:i=a.length:=by omega
 have cC:decide (a=b)=true:=by
  rw[decide_eq_true_eq]
  rw[List.take_length,← hlen,List.take_length] at ht
  exact ht
 refine .exit (.sr ?_)
 refine .ret (aH ?_)
 rw[cC]
theorem Mn (c:aq)(l:List ai)(hk:bP c=0)(fa:l.length≤200):aM prog 127 [aK c,.vec (l.map encS)] fun r=>et r (AA c l):=by
 have bq:=j7 hk
 have o4:=bq.tl
 have hC:dh c=(cQ c):=rfl
 have hE:∀s:ai,encS s=.agg [.int .i64 s.k,.int .i64 s.a,.int .i64 s.i,.int .i64 s.l,.int .i64 s.w]:=fun _=>rfl
 have cz:=fun s=>Cm c s hk
 have ra:=fun a i:Int=>uw a i (c.t.length:Int)
 have xC:=WI.start c l
 unfold aK at cz ⊢
 rw[hC] at cz ⊢
 have vv:iy c l=none→AA c l=.agg [.vec [],.int .i64 0,.bool false]:=fun h=>by unfold AA;rw[h]
 refine .bV func127 rfl rfl ?_
 refine .sr ?_
 refine .sr ?_
 refine .sr ?_
 refine .sr ?_
 refine .seq (.sr ?_)
 refine .block ?_
 refine .dF (fun z:Nat×List Int×Nat×Int=>([(1,.vec (l.map encS)),(2,.ptr 0 0),(4,.ptr 1 0),(5,.grow 2 z.2.1.length true),(6,.int .i64 z.2.2.2),(7,.int .i64 z.2.2.1),(8,.int .i64 z.1)],⟨3,[(2,.grow 1 (z.2.1.map (.int .i64))),(1,.box [.aF,.int .i64 0,.bool false]),(0,.box (cQ c))]⟩)) (fun z=>WI c l z.1 z.2.1 z.2.2.1 z.2.2.2) (fun z=>l.length - z.1) (0,[],0,0) xC bx ?_
 clear xC
 rintro⟨k,out,i,sum⟩ hI
 simp only at hI ⊢
 have fD:=hI.hk
 have cT:=hI.hi
 have x9:=hI.h0
 have rK:=hI.h1
 have A4:=hI.ho
 refine .seq (.sr ?_)
 refine .cs ?_ ?_<;>intro cq
 ·try simp at cq
  have eP:=fy k
  have fA:k<l.length:=by omega
  obtain⟨s,hs⟩:∃s,l[k]?=some s:=⟨l[k],List.getElem?_eq_getElem fA⟩
  have ft:l[k]=s:=(List.getElem?_eq_some_iff.1 hs).2
  have ra:=ra s.a i
  obtain⟨wi,eD⟩:∃b,(decide ((i:Int)≤s.a)&&decide (s.a≤(c.t.length:Int)))=b:=⟨_,rfl⟩
  rw[eD] at ra
  have cz:=cz s
  rw[hE] at cz
  refine .skip (.seq (.block (.sr ?_)))
  refine .seq (.aD lF rfl af (.rn jR _ ?_))
  refine .pc rfl rfl rfl rfl rfl call99 (ra) ?_
  refine .rn [7] [] ?_
  refine .done (.seq (.sr ?_))
  refine .cs ?_ ?_<;>intro IN
  ·try simp at IN
   have hb:=hI.bad hs (.inl (fun hh=>by rw[IN] at eD;simp[hh.1,hh.2] at eD))
   refine .sr ?_
   refine .ret (aH ?_)
   rw[vv hb];exact IM rfl rfl
  try simp at IN
  have di:(i:Int)≤s.a∧s.a≤(c.t.length:Int):=by rw[IN] at eD;simpa using eD
  obtain⟨a,ha⟩:∃a:Nat,s.a=a:=⟨s.a.toNat,by omega⟩
  have oR:s.a.toNat=a:=by omega
  have qP:i≤a:=by omega
  have ef:a≤c.t.length:=by omega
  have fL:=@WI.bad c l k out i sum hI s hs
  have eU:=@WI.next c bq l k out i sum hI s hs
  rw[oR] at fL eU
  have iz:(a:Int)≤(c.t.length:Int):=by omega
  have LM:(i:Int)≤(a:Int):=by omega
  rw[ha] at cz
  have aU:((c.t.drop i).take (a - i)).length=a - i:=by rw[List.length_take,List.length_drop];omega
  have oH:List.take (a - i) (List.drop i (c.t.map (PV.int .i64)))=((c.t.drop i).take (a - i)).map (PV.int .i64):=by rw[List.map_take,List.map_drop]
  obtain⟨Q,hQ⟩:∃Q,(c.t.drop i).take (a - i)=Q:=⟨_,rfl⟩
  rw[hQ] at aU oH fL eU
  have Zo:out.length+Q.length≤4294967296:=by omega
  have LN:out.length+Q.length≤20000:=by omega
  clear aU
  obtain⟨ni,DD⟩:∃b,(s.i != (out.length:Int)+(Q.length:Int))=b:=⟨_,rfl⟩
  rcases hd:aR c s with _|⟨n,i',w⟩
  ·skip
   refine .skip (.sr ?_)
   refine .seq (.aD gy rfl af (.rn [0,1] _ ?_))
   refine .step rfl rfl (.pure rfl rfl rfl call126 (by decide) (cz) (by first|rfl|simp[*]) ?_)
   intro _ e;rw[jT hd] at e;subst e;have uv:=fL (.inr (.inl hd))
   refine .rn [3,4] [] ?_
   refine .done (.seq (.seq (.aD ij rfl af ?_)))
   refine .rn jR _ ?_
   refine .split (t:=48) rfl (fun iO=>?_) (fun iO=>?_)
   ·try subst iO
    try simp at iO
    refine .rn [6,7,8,9] [] ?_
    refine .done (.eK rfl (.sr ?_))
    refine .ret (aH ?_)
    rw[vv uv];exact IM rfl rfl
   try subst iO
   try simp at iO
   refine .rn [6,7,8,9] [] ?_
   refine .done ?_
   refine .cs ?_ ?_<;>intro Aq
   ·try simp at Aq
    refine .sr ?_
    refine .ret (aH ?_)
    rw[vv uv];exact IM rfl rfl
   try simp at Aq
  skip
  refine .skip (.sr ?_)
  refine .seq (.aD gy rfl af (.rn [0,1] _ ?_))
  refine .step rfl rfl (.pure rfl rfl rfl call126 (by decide) (cz) (by first|rfl|simp[*]) ?_)
  intro _ e;rw[iA hd] at e;subst e;obtain⟨d1,d2,d3,d4,d5,d6⟩:=mf bq hd;have Zp:IntKind.i64.wrap (sum+n)=sum+n:=wrap64 (by omega) (by omega);have Zq:out.length+Q.length+w.length≤4294967296:=by omega
  refine .rn [3,4] [] ?_
  refine .done (.seq (.seq (.aD ij rfl af ?_)))
  refine .rn jR _ ?_
  refine .split (t:=48) rfl (fun iO=>?_) (fun iO=>?_)
  ·try subst iO
   try simp at iO
   have uv:=fL (.inr (.inr (fun e=>by rw[e] at DD;simp at DD)))
   refine .rn [6,7,8,9] [] ?_
   refine .done (.eK rfl (.sr ?_))
   refine .ret (aH ?_)
   rw[vv uv];exact IM rfl rfl
  try subst iO
  try simp at iO
  have l6:s.i=(out.length:Int)+(Q.length:Int):=by simpa using DD
  have qM:=eU di hd (by rw[l6];simp)
  refine .rn [6,7,8,9] [] ?_
  refine .done ?_
  refine .cs ?_ ?_<;>intro Aq
  ·try simp at Aq
  try simp at Aq
  rcases Iz w with⟨rfl,hw⟩|hw<;>simp only[hw]
  ·skip
   refine .skip (.sr ?_)
   refine .sr ?_
   refine .rn ?_
   refine .rn ?_
   refine⟨(k+1,out++Q++[],i',sum+n),qM,bt,(.mk [] [(2,6)] gK il rfl rfl rfl)⟩
  skip
  refine .skip (.sr ?_)
  refine .sr ?_
  refine .rn ?_
  refine .rn ?_
  have LO:=Nat.add_assoc out.length Q.length w.length
  refine⟨(k+1,out++Q++w,i',sum+n),qM,bt,(.mk [] [(2,6)] gK il rfl rfl rfl)⟩
 try simp at cq
 obtain rfl:k=l.length:=by omega
 have dw:=hI.stop
 obtain⟨D,hD⟩:∃D,c.t.drop i=D:=⟨_,rfl⟩
 have Zr:List.drop i (c.t.map (PV.int .i64))=D.map (PV.int .i64):=by rw[← hD,List.map_drop]
 have Zs:List.take (c.t.length - i) (D.map (PV.int .i64))=D.map (PV.int .i64):=List.take_of_length_le (by rw[← hD];simp)
 have vK:D.length≤48:=by rw[← hD,List.length_drop];omega
 have bT:out.length+D.length≤4294967296:=by omega
 rw[hD] at dw
 clear hD
 have LP:(i:Int)≤(c.t.length:Int):=by omega
 have sE:AA c l=.agg [ints (out++D),.int .i64 sum,.bool true]:=by unfold AA;rw[dw]
 refine .exit (.sr ?_)
 refine .ret (aH ?_)
 rw[sE];simp only[ints,List.map_append];exact q7 rfl
theorem Mo (c:aq)(l:List ai)(hk:bP c=0)(fa:l.length≤200):aM prog 107 [aK c,.vec (l.map encS)] fun r=>r=.int .i64 ((eO c l).getD (-1)):=by
 have bq:=j7 hk
 have ep:=bq.cl
 have hC:dh c=(cQ c):=rfl
 have nN:=aM.soft (Mn c l hk fa) (z5b c l)
 have hx:eO c l=if 100<l.length then none else match iy c l with|some (o,n)=>if o=c.c then some n else none|none=>none:=rfl
 unfold aK at nN ⊢
 rw[hC] at nN ⊢
 unfold AA at nN
 refine .bV func107 rfl rfl ?_
 rcases hw:iy c l with _|⟨o,n⟩
 ·
  rw[hw] at hx nN
  simp only at hx nN
  have mE:eO c l=none:=by rw[hx];split<;>rfl
  rw[mE]
  have IP:=Mm [] c.c (by simp) (by omega)
  refine .sr ?_
  refine .seq (.sr ?_)
  refine .cs ?_ ?_<;>intro c9
  ·try simp at c9
   refine .sr ?_
   refine .ret (aH ?_)
   exact zk
  try simp at c9
  refine .skip (.seq (.aD gy rfl af (.rn [0,1] _ ?_)))
  refine .pc rfl rfl rfl rfl rfl call127 (nN) ?_
  refine .rn [3,4] [] ?_
  refine .done (.seq (.aD jR rfl af ?_))
  refine .rn dU _ ?_
  refine .pc rfl rfl rfl rfl rfl call37 (IP) ?_
  refine .rn [5] [] ?_
  refine .done (.seq (.seq (.aD iJ rfl af ?_)))
  refine .rn dU _ ?_
  refine .split (t:=21) rfl (fun dG=>?_) (fun dG=>?_)
  ·try subst dG
   try simp at dG
   refine .rn [4,5,6] [] ?_
   refine .done (.eK rfl (.sr ?_))
   refine .ret (aH ?_)
   exact zk
  try subst dG
  try simp at dG
 ·
  rw[hw] at hx nN
  simp only at hx nN
  have oS:=Q7 bq hw
  have IP:=Mm o c.c (by omega) (by omega)
  obtain⟨eb,kX⟩:∃b,decide (o=c.c)=b:=⟨_,rfl⟩
  rw[kX] at IP
  refine .sr ?_
  refine .seq (.sr ?_)
  refine .cs ?_ ?_<;>intro c9
  ·try simp at c9
   rw[if_pos (show 100<l.length by omega)] at hx
   refine .sr ?_
   refine .ret (aH ?_)
   first|(rw[hx];rfl)|(rw[mE];rfl)
  try simp at c9
  rw[if_neg (by omega)] at hx
  refine .skip (.seq (.aD gy rfl af (.rn [0,1] _ ?_)))
  refine .pc rfl rfl rfl rfl rfl call127 (nN) ?_
  refine .rn [3,4] [] ?_
  refine .done (.seq (.aD jR rfl af ?_))
  refine .rn dU _ ?_
  refine .pc rfl rfl rfl rfl rfl call37 (IP) ?_
  refine .rn [5] [] ?_
  refine .done (.seq (.seq (.aD iJ rfl af ?_)))
  refine .rn dU _ ?_
  refine .split (t:=21) rfl (fun dG=>?_) (fun dG=>?_)
  ·try subst dG
   try simp at dG
  try subst dG
  try simp at dG
  refine .rn [4,5,6] [] ?_
  refine .done ?_
  refine .cs ?_ ?_<;>intro lD
  ·try simp at lD
   have mE:eO c l=none:=by rw[hx,if_neg (fun hh=>by rw[hh] at kX;simp[lD] at kX)]
   refine .sr ?_
   refine .ret (aH ?_)
   first|(rw[hx];rfl)|(rw[mE];rfl)
  try simp at lD
  have mE:eO c l=some n:=by rw[hx,if_pos (by rw[lD] at kX;simpa using kX)]
  refine .skip (.sr ?_)
  refine .ret (aH ?_)
  first|(rw[hx];rfl)|(rw[mE];rfl)
end
theorem Mp {x y:ai}(h:¬x.a=y.a):decide (x.lt y)=decide (x.a<y.a):=decide_eq_decide.2 (by unfold ai.lt;omega)
theorem Mq {x y:ai}(g:x.a=y.a)(h:¬x.i=y.i):decide (x.lt y)=decide (x.i<y.i):=decide_eq_decide.2 (by unfold ai.lt;omega)
theorem Mr {x y:ai}(g:x.a=y.a)(g2:x.i=y.i)(h:¬x.k=y.k):decide (x.lt y)=decide (x.k<y.k):=decide_eq_decide.2 (by unfold ai.lt;omega)
theorem Ms {x y:ai}(g:x.a=y.a)(g2:x.i=y.i)(g3:x.k=y.k)(h:¬x.l=y.l):decide (x.lt y)=decide (x.l<y.l):=decide_eq_decide.2 (by unfold ai.lt;omega)
theorem Mt {x y:ai}(g:x.a=y.a)(g2:x.i=y.i)(g3:x.k=y.k)(g4:x.l=y.l):decide (x.lt y)=decide (x.w<y.w):=decide_eq_decide.2 (by unfold ai.lt;omega)
theorem Mv {s:ai}:∀ {l:List ai} {k:Nat},k≤l.length→(∀x∈l.take k,x.lt s)→(∀x,l[k]?=some x→¬x.lt s)→ee l s=if l[k]?=some s then l else l.take k++s::l.drop k
 |[],k,hk,_,_=>by obtain rfl:k=0:=(by simpa using hk);rfl
 |a::r,0,_,_,hn=>by
  have h1:=hn a rfl
  unfold ee
  rw[if_neg h1]
  by_cases h:a=s
  ·simp[h]
  simp[h]
 |a::r,k+1,hk,ht,hn=>by
  have h1:=ht a (by simp)
  unfold ee
  rw[if_pos h1,Mv (k:=k) (by simpa using hk) (fun x hx=>ht x (by simp[hx])) (fun x hx=>hn x (by simpa using hx))]
  simp only[List.getElem?_cons_succ,List.take_succ_cons,List.drop_succ_cons,List.cons_append]
  split<;>rfl
section
variable [bE]
theorem Mw (x y:ai):aM prog 143 [encS x,encS y] fun r=>r=.bool (decide (x.lt y)):=by
 obtain⟨xk,xa,xi,xl,xw⟩:=x
 obtain⟨yk,ya,yi,yl,yw⟩:=y
 have hE:∀k a i l w,encS ⟨k,a,i,l,w⟩=.agg [.int .i64 k,.int .i64 a,.int .i64 i,.int .i64 l,.int .i64 w]:=fun _ _ _ _ _=>rfl
 rw[hE,hE]
 have d1:=@Mp ⟨xk,xa,xi,xl,xw⟩ ⟨yk,ya,yi,yl,yw⟩
 have d2:=@Mq ⟨xk,xa,xi,xl,xw⟩ ⟨yk,ya,yi,yl,yw⟩
 have d3:=@Mr ⟨xk,xa,xi,xl,xw⟩ ⟨yk,ya,yi,yl,yw⟩
 have d4:=@Ms ⟨xk,xa,xi,xl,xw⟩ ⟨yk,ya,yi,yl,yw⟩
 have d5:=@Mt ⟨xk,xa,xi,xl,xw⟩ ⟨yk,ya,yi,yl,yw⟩
 simp only at d1 d2 d3 d4 d5
 refine .bV func143 rfl rfl ?_
 refine .sr ?_
 refine .seq (.sr ?_)
 refine .cs ?_ ?_<;>intro c9
 ·try simp at c9
  have d1:=d1 c9
  refine .sr ?_
  refine .ret (aH ?_)
  first|(rw[d5];done)|(rw[d4];done)|(rw[d3];done)|(rw[d2];done)|(rw[d1];done)
 try simp at c9
 refine .skip (.seq (.sr ?_))
 refine .cs ?_ ?_<;>intro jJ
 ·try simp at jJ
  have d2:=d2 c9 jJ
  refine .sr ?_
  refine .ret (aH ?_)
  first|(rw[d5];done)|(rw[d4];done)|(rw[d3];done)|(rw[d2];done)|(rw[d1];done)
 try simp at jJ
 refine .skip (.seq (.sr ?_))
 refine .cs ?_ ?_<;>intro xH
 ·try simp at xH
  have d3:=d3 c9 jJ xH
  refine .sr ?_
  refine .ret (aH ?_)
  first|(rw[d5];done)|(rw[d4];done)|(rw[d3];done)|(rw[d2];done)|(rw[d1];done)
 try simp at xH
 refine .skip (.seq (.sr ?_))
 refine .cs ?_ ?_<;>intro yK
 ·try simp at yK
  have d4:=d4 c9 jJ xH yK
  refine .sr ?_
  refine .ret (aH ?_)
  first|(rw[d5];done)|(rw[d4];done)|(rw[d3];done)|(rw[d2];done)|(rw[d1];done)
 try simp at yK
 have d5:=d5 c9 jJ xH yK
 refine .skip (.sr ?_)
 refine .ret (aH ?_)
 first|(rw[d5];done)|(rw[d4];done)|(rw[d3];done)|(rw[d2];done)|(rw[d1];done)
theorem p93 (l:List ai)(s:ai)(hl:l.length≤100000):aM prog 93 [.vec (l.map encS),encS s] fun r=>r=.vec ((ee l s).map encS):=by
 have tg:=fun x=>Mw x s
 have hE:encS s=.agg [.int .i64 s.k,.int .i64 s.a,.int .i64 s.i,.int .i64 s.l,.int .i64 s.w]:=rfl
 rw[hE] at tg ⊢
 refine .bV func93 rfl rfl ?_
 refine .sr ?_
 refine .sr ?_
 refine .seq (.block ?_)
 refine .dF (fun i:Nat=>([(0,.vec (l.map encS)),(3,.ptr 0 0),(5,.int .i64 i)],⟨1,[(0,.box [.int .i64 s.k,.int .i64 s.a,.int .i64 s.i,.int .i64 s.l,.int .i64 s.w])]⟩)) (fun i=>i≤l.length∧∀x∈l.take i,x.lt s) (fun i=>l.length - i) 0 (by simp) bx ?_
 rintro i ⟨hi,ht⟩
 simp only at hi ht ⊢
 refine .seq (.sr ?_)
 refine .cs ?_ ?_<;>intro gU
 ·try simp at gU
  have eP:=fy i
  have cT:i<l.length:=by omega
  obtain⟨x,hx⟩:∃x,l[i]?=some x:=⟨_,List.getElem?_eq_getElem cT⟩
  have ki:l[i]=x:=(List.getElem?_eq_some_iff.1 hx).2
  have hEx:encS x=.agg [.int .i64 x.k,.int .i64 x.a,.int .i64 x.i,.int .i64 x.l,.int .i64 x.w]:=rfl
  have tg:=tg x
  rw[hEx] at tg
  obtain⟨lb,Mx⟩:∃b,decide (x.lt s)=b:=⟨_,rfl⟩
  rw[Mx] at tg
  refine .skip (.block (.seq ?_))
  refine .drawn (ms:=[0,0,3,7,0,31,63]) (W:=[5]) (items:=[.op 0,.op 1,.op 2,.op 3,.op 4,.op 5,.op 6]) rfl af af af ?_
  iterate 5 refine .rx ?_
  refine .wp rfl rfl rfl rfl rfl call143 (tg) ?_
  refine .rx ?_
  refine .done (.seq (.sr ?_))
  refine .cs ?_ ?_<;>intro pS
  ·try simp at pS
   have My:¬x.lt s:=by rw[← decide_eq_false_iff_not,Mx];simpa using pS
   have hp:=Mv hi ht (fun y hy=>by rw[hx] at hy;injection hy with hy;rw[← hy];exact My)
   rw[hx] at hp
   have Mb:List.take i (l.map encS)=(l.take i).map encS:=(List.map_take).symm
   have fJ:List.drop i (l.map encS)=(l.drop i).map encS:=(List.map_drop).symm
   obtain⟨T,hT⟩:∃T,l.take i=T:=⟨_,rfl⟩
   obtain⟨D,hD⟩:∃D,l.drop i=D:=⟨_,rfl⟩
   have Mz:T.length=i:=by rw[← hT,List.length_take];omega
   have vK:D.length=l.length - i:=by rw[← hD,List.length_drop]
   have iq:List.take (l.length - i) (D.map encS)=D.map encS:=List.take_of_length_le (by rw[List.length_map];omega)
   have pD:T.length+(D.length+1)=i+1+(l.length - i):=by omega
   rw[hT] at Mb hp
   rw[hD] at fJ hp
   clear hT hD ht
   have th:=KJ T
   have hsD:=KJ D
   have hi4:i≤4294967296:=by omega
   have hi5:i+1≤4294967296:=by omega
   have hi6:i+1+(l.length - i)≤4294967296:=by omega
   refine .exit (.seq (.seq ?_))
   refine .drawn (ms:=[0,0,2,7,15,31,31,127,255,31,1023,2047]) (W:=[]) (items:=Cn) rfl af af af ?_
   iterate 5 refine .rx ?_
   refine .split (t:=25) rfl (fun fN=>?_) (fun fN=>?_)
   ·try subst fN
    try simp at fN
    iterate 7 refine .rx ?_
    refine .done ?_
    refine .cs ?_ ?_<;>intro eX
    ·try simp at eX
     refine .sr ?_
     refine .ret (aH ?_)
     show _=_
     have nX:x=s:=ai.ext' eX.1.1.1.1 eX.1.1.1.2 eX.1.1.2 eX.1.2 eX.2
     rw[hp,if_pos (by rw[nX])]
    try simp at eX
    refine .skip (.seq ?_)
    refine .rX (ms:=[0,0,0,6,15,0,32,127,0,0,768,2047,4095]) (W:=[0,4,7,11]) (As:=[6]) (items:=[.op 1,.op 2,.op 3,.op 5,.op 6,.op 8,.op 9,.op 10,.op 0,.ck 5,.op 4,.ck 5,.op 7,.op 11,.op 12]) rfl af af af af (by decide) ?_
    iterate 4 refine .rf ?_
    refine .al rfl rfl (by decide) (by decide) (by decide) (by decide) fh ?_
    iterate 3 refine .rf ?_
    refine .wr rfl rfl (by decide) (.dS fh (by decide) ?_)
    refine .ck rfl eM ?_
    refine .wr rfl rfl (by decide) (.Co [2] (dV:=[5]) fh fh (by decide) (⟨⟨eM,_,_,rfl,fh⟩,trivial⟩) af ?_)
    refine .ck rfl eM ?_
    refine .wr rfl rfl (by decide) (.dS fh (by decide) ?_)
    refine .wr rfl rfl (by decide) (.dS fh (by decide) ?_)
    refine .rf ?_
    refine .done (.ret ?_)
    refine⟨_,_,gj,(by simp[pD]<;>rfl),?_⟩
    show _=_
    rw[hp,if_neg (fun hh=>by injection hh with hh;rw[hh] at eX;exact eX rfl rfl rfl rfl rfl),List.map_append,List.map_cons,hE]
   try subst fN
   try simp at fN
  try simp at pS
  have My:x.lt s:=by rw[← decide_eq_true_eq (p:=x.lt s),Mx];simpa using pS
  refine .skip (.rn ?_)
  refine⟨i+1,⟨bt,?_⟩,bt,bx⟩
  intro y hy
  rw[List.take_succ_eq_append_getElem cT,List.mem_append,List.mem_singleton,ki] at hy
  rcases hy with hy|hy
  ·exact ht y hy
  rw[hy];exact My
 try simp at gU
 obtain rfl:i=l.length:=by omega
 have Mb:List.take l.length (l.map encS)=l.map encS:=List.take_of_length_le (by simp)
 have fJ:List.drop l.length (l.map encS)=[]:=List.drop_of_length_le (by simp)
 have hp:=Mv (Nat.le_refl _) ht (fun y hy=>by rw[List.getElem?_eq_none (Nat.le_refl _)] at hy;cases hy)
 have hN:l[l.length]?=none:=List.getElem?_eq_none (Nat.le_refl _)
 have th:=KJ l
 have hsE:kj 5 ([]:List PV)=true:=rfl
 have hi4:l.length≤4294967296:=by omega
 have hi5:l.length+1≤4294967296:=by omega
 refine .exit (.seq (.seq ?_))
 refine .drawn (ms:=[0,0,2,7,15,31,31,127,255,31,1023,2047]) (W:=[]) (items:=Cn) rfl af af af ?_
 iterate 5 refine .rx ?_
 refine .split (t:=25) rfl (fun fN=>?_) (fun fN=>?_)
 ·try subst fN
  try simp at fN
 try subst fN
 try simp at fN
 iterate 6 refine .ux ?_
 refine .rx ?_
 refine .done (.iM rfl (.skip (.seq ?_)))
 refine .rX (ms:=[0,0,0,6,15,0,32,127,0,0,768,2047,4095]) (W:=[0,4,7,11]) (As:=[6]) (items:=[.op 1,.op 2,.op 3,.op 5,.op 6,.op 8,.op 9,.op 10,.op 0,.ck 5,.op 4,.ck 5,.op 7,.op 11,.op 12]) rfl af af af af (by decide) ?_
 iterate 4 refine .rf ?_
 refine .al rfl rfl (by decide) (by decide) (by decide) (by decide) fh ?_
 iterate 3 refine .rf ?_
 refine .wr rfl rfl (by decide) (.dS fh (by decide) ?_)
 refine .ck rfl eM ?_
 refine .wr rfl rfl (by decide) (.Co [2] (dV:=[5]) fh fh (by decide) (⟨⟨eM,_,_,rfl,fh⟩,trivial⟩) af ?_)
 refine .ck rfl eM ?_
 refine .wr rfl rfl (by decide) (.dS fh (by decide) ?_)
 refine .wr rfl rfl (by decide) (.dS fh (by decide) ?_)
 refine .rf ?_
 refine .done (.ret (aH ?_))
 show _=_
 rw[hp,if_neg (fun hh=>by rw[hN] at hh;cases hh),List.take_length,List.drop_length,List.map_append,List.map_cons,hE,List.map_nil]
theorem MA (s:ai):aM prog 93 [.aF,encS s] fun r=>r=.vec [encS s]:=by
 have hE:encS s=.agg [.int .i64 s.k,.int .i64 s.a,.int .i64 s.i,.int .i64 s.l,.int .i64 s.w]:=rfl
 rw[hE]
 refine .bV func93 rfl rfl ?_
 refine .sr ?_
 refine .sr ?_
 refine .seq (.block ?_)
 refine .dF (fun i:Nat=>([(0,.aF),(3,.ptr 0 0),(5,.int .i64 i)],⟨1,[(0,.box [.int .i64 s.k,.int .i64 s.a,.int .i64 s.i,.int .i64 s.l,.int .i64 s.w])]⟩)) (fun i=>i=0) (fun i=>0) 0 (by simp) bx ?_
 rintro i rfl
 simp only
 refine .seq (.sr ?_)
 refine .cs ?_ ?_<;>intro gU
 ·try simp at gU
 try simp at gU
 refine .exit (.seq (.seq ?_))
 refine .drawn (ms:=[0,0,2,7,15,31,31,127,255,31,1023,2047]) (W:=[]) (items:=Cn) rfl af af af ?_
 iterate 5 refine .rx ?_
 refine .split (t:=25) rfl (fun fN=>?_) (fun fN=>?_)
 ·try rw[fN]
  try simp at fN
 try rw[fN]
 try simp at fN
 iterate 6 refine .ux ?_
 refine .rx ?_
 refine .done (.iM rfl (.skip (.seq ?_)))
 refine .rX (ms:=[0,0,0,6,15,0,32,127,0,0,768,2047,4095]) (W:=[0,4,7,11]) (As:=[6]) (items:=[.op 1,.op 2,.op 3,.op 5,.op 6,.op 8,.op 9,.op 10,.op 0,.ck 5,.op 4,.ck 5,.op 7,.op 11,.op 12]) rfl af af af af (by decide) ?_
 iterate 4 refine .rf ?_
 refine .al rfl rfl (by decide) (by decide) (by decide) (by decide) fh ?_
 iterate 3 refine .rf ?_
 refine .wr rfl rfl (by decide) (.dS fh (by decide) ?_)
 refine .ck rfl eM ?_
 refine .wr rfl rfl (by decide) (.Co [2] (dV:=[5]) fh fh (by decide) (⟨⟨eM,_,_,rfl,fh⟩,trivial⟩) af ?_)
 refine .ck rfl eM ?_
 refine .wr rfl rfl (by decide) (.dS fh (by decide) ?_)
 refine .wr rfl rfl (by decide) (.dS fh (by decide) ?_)
 refine .rf ?_
 refine .done (.ret (aH ?_))
 exact zk
end
def eL (l:List ai):PV:=if l=[] then .aF else .vec (l.map encS)
theorem MB {l:List ai}(h:l≠[]):eL l=.vec (l.map encS):=if_neg h
theorem z1l (w:List ai):(eL w).cells=[eL w]:=by unfold eL;split<;>rfl
theorem RF (w:List ai):(eL w).aB=true:=by unfold eL;split<;>simp[PV.aB]
theorem z8y (w:List ai):PV.one (eL w)=true:=by unfold eL;split<;>rfl
theorem z8q (vh:ah)(w:List ai):bz vh (eL w)=some (eL w):=KS vh (RF w)
theorem RG (w:List ai):(w=[]∧eL w=.aF)∨eL w=.vec (w.map encS):=by
 by_cases h:w=[]
 ·exact .inl ⟨h,by rw[h];rfl⟩
 exact .inr (MB h)
theorem RH (l:List ai)(s:ai):ee l s≠[]:=fun h=>by
 have:=(IQ (l:=l) (s:=s) (x:=s)).2 (.inr rfl)
 rw[h] at this;cases this
theorem RI (s:ai):∀l:List ai,(ee l s).length≤l.length+1
 |[]=>by simp[ee]
 |a::r=>by
  unfold ee
  split
  ·have:=RI s r;simp;omega
  split<;>simp
def r8 (c:aq)(i j:Nat):List ai:=(if j<c.c.length then [⟨1,i,j,0,c.c.getD j 0⟩,⟨6,i,j,0,c.c.getD j 0⟩] else [])++[⟨2,i,j,0,0⟩]
def uy (i j n:Nat):List ai:=(List.range n).flatMap fun (k:Nat)=>[⟨3,i,j,k,0⟩,⟨4,i,j,k,0⟩]
def vT (i j n:Nat):List ai:=(List.range n).map fun (k:Nat)=>⟨5,i,j,k,0⟩
theorem MC (i j n:Nat):uy i j (n+1)=uy i j n++[⟨3,i,j,n,0⟩,⟨4,i,j,n,0⟩]:=by unfold uy;rw[List.range_succ,List.flatMap_append];rfl
theorem RJ (i j n:Nat):vT i j (n+1)=vT i j n++[⟨5,i,j,n,0⟩]:=by unfold vT;rw[List.range_succ,List.map_append];rfl
theorem MD (c:aq)(i j:Nat):lO c i j=r8 c i j++uy i j (c.t.length+1)++vT i j c.g.length:=rfl
theorem z2t (c:aq)(i j:Nat):(r8 c i j).length≤3:=by unfold r8;split<;>simp
theorem RK (i j:Nat):∀n,(uy i j n).length=2*n
 |0=>rfl
 |n+1=>by rw[MC,List.length_append,RK i j n];simp;omega
theorem RL (i j n:Nat):(vT i j n).length=n:=by unfold vT;rw[List.length_map,List.length_range]
def nO (c:aq)(l:List ai):List ai:=(l.filter (lJ c)).foldl ee []
theorem RM (c:aq)(l:List ai)(s:ai):nO c (l++[s])=if lJ c s=true then ee (nO c l) s else nO c l:=by
 unfold nO
 rw[List.filter_append,List.foldl_append]
 by_cases h:lJ c s=true
 ·rw[if_pos h,List.filter_cons_of_pos h];rfl
 rw[if_neg h,List.filter_cons_of_neg h];rfl
theorem RN (c:aq)(l:List ai):(nO c l).length≤l.length:=by
 have h1:∀(r a:List ai),(r.foldl ee a).length≤a.length+r.length:=fun r=>by
  induction r with
  |nil=>exact fun a=>Nat.le_refl _
  |cons s r ih=>exact fun a=>by have:=ih (ee a s);have h2:=RI s a;rw[List.foldl_cons,List.length_cons];omega
 have:=h1 (l.filter (lJ c)) []
 have h2:=List.length_filter_le (lJ c) l
 unfold nO
 simp at this
 omega
theorem RO {c:aq}{s:ai}(h:aR c s=none):¬lJ c s=true:=by unfold lJ;rw[h];simp
theorem RP {c:aq}{s:ai}{n:Int}{i':Nat}{w:List Int}(h:aR c s=some (n,i',w)):lJ c s=hasB c s.i.toNat w:=by unfold lJ;rw[h]
theorem RQ {c:aq}{i j:Nat}{s:ai}(h:s∈lO c i j):s.i.toNat=j:=by
 rw[MD] at h
 unfold r8 uy vT at h
 simp only[List.mem_append,List.mem_flatMap,List.mem_map,List.mem_cons,List.mem_range,List.not_mem_nil,or_false] at h
 rcases h with (((h|rfl)|⟨k,_,rfl|rfl⟩)|⟨k,_,rfl⟩)
 ·split at h
  ·simp only[List.mem_cons,List.not_mem_nil,or_false] at h
   rcases h with rfl|rfl<;>rfl
  cases h
 all_goals rfl
attribute [local simp ↓ high] Ml z1l RF z8y z8q
variable [bE] in
theorem ME (c:aq)(i j:Nat)(hk:bP c=0)(hi:i≤c.t.length)(hj:j≤c.c.length):aM prog 125 [aK c,.int .i64 i,.int .i64 j] fun r=>r=eL (IS c i j):=by
 have bq:=j7 hk
 have o4:=bq.tl
 have ep:=bq.cl
 have qL:=bq.vn
 have hC:dh c=(cQ c):=rfl
 have hE:∀s:ai,encS s=.agg [.int .i64 s.k,.int .i64 s.a,.int .i64 s.i,.int .i64 s.l,.int .i64 s.w]:=fun _=>rfl
 have cz:=fun s=>Cm c s hk
 have kL:=fun w hw=>Mf c j w (by omega) hw (by omega)
 have ph:=MA
 have AB:=p93
 have hR:IS c i j=nO c (lO c i j):=rfl
 have hA3:=z2t c i j
 have IT:=fun n=>RK i j n
 unfold aK at cz kL ⊢
 rw[hC] at cz kL ⊢
 rw[hR]
 refine .bV func125 rfl rfl ?_
 by_cases dE:j<c.c.length
 ·
  obtain⟨x,hx⟩:∃x,c.c[j]?=some x:=⟨_,List.getElem?_eq_getElem dE⟩
  have ki:c.c[j]=x:=(List.getElem?_eq_some_iff.1 hx).2
  have hAe:r8 c i j=[⟨1,i,j,0,x⟩,⟨6,i,j,0,x⟩,⟨2,i,j,0,0⟩]:=by unfold r8;rw[if_pos dE,List.getD_eq_getElem?_getD,hx];rfl
  refine .sr ?_
  refine .sr ?_
  refine .seq (.sr ?_)
  refine .cs ?_ ?_<;>intro pS
  ·try simp at pS
   refine .drawn (ms:=[0,0,0,0,8,0,56,120,254,0,0,0,2048,0,14336,30720,65024,131070,262143,524287]) (W:=[17,18]) (items:=Fj) rfl af af af ?_
   iterate 17 refine .rx ?_
   refine .wv ?_
   refine .wv ?_
   refine .rx ?_
   refine .done (.sr ?_)
   refine .seq (.sr ?_)
   refine .block ?_
   refine .dF (fun z:Nat×List ai=>([(1,.int .i64 i),(2,.int .i64 j),(3,.ptr 0 0),(7,.grow 2 z.2.length true),(8,.int .i64 z.1)],⟨3,[(2,.grow 5 (z.2.map encS)),(0,.box (cQ c))]⟩)) (fun z=>z.1≤c.t.length+1∧z.2=r8 c i j++uy i j z.1) (fun z=>c.t.length+1 - z.1) (0,r8 c i j) (by simp[uy]) (.mk [] [(2,4)] gK il rfl rfl rfl) ?_
   rintro⟨n,all⟩ ⟨hn,bg⟩
   simp only at hn bg ⊢
   have ef:all.length≤103:=by rw[bg,List.length_append,IT];omega
   replace bg:=bg.symm
   refine .seq (.sr ?_)
   refine .cs ?_ ?_<;>intro iO
   ·try simp at iO
    have eP:IntKind.i64.wrap ((n:Int)+1)=((n+1:Nat):Int):=by rw[wrap64 (by omega) (by omega)];omega
    have pB:all.length+2≤4294967296:=by omega
    refine .skip (.seq (.block (.rn ?_)))
    refine .rn ?_
    refine⟨(n+1,all++[⟨3,i,j,n,0⟩,⟨4,i,j,n,0⟩]),⟨by omega,?_⟩,bt,(.mk [] [(2,4)] gK il rfl rfl rfl)⟩
    rw[← bg,MC,List.append_assoc]
   try simp at iO
   obtain rfl:n=c.t.length+1:=by omega
   refine .exit (.seq (.sr ?_))
   refine .block ?_
   refine .dF (fun z:Nat×List ai=>([(1,.int .i64 i),(2,.int .i64 j),(3,.ptr 0 0),(7,.grow 2 z.2.length true),(9,.int .i64 z.1)],⟨3,[(2,.grow 5 (z.2.map encS)),(0,.box (cQ c))]⟩)) (fun z=>z.1≤c.g.length∧z.2=r8 c i j++uy i j (c.t.length+1)++vT i j z.1) (fun z=>c.g.length - z.1) (0,all) ⟨by simp,by rw[← bg];simp[vT]⟩ bx ?_
   clear bg ef
   rintro⟨n,all⟩ ⟨hn,bg⟩
   simp only at hn bg ⊢
   have ef:all.length≤109:=by rw[bg,List.length_append,List.length_append,IT,RL];omega
   replace bg:=bg.symm
   refine .seq (.sr ?_)
   refine .cs ?_ ?_<;>intro Gn
   ·try simp at Gn
    have eP:IntKind.i64.wrap ((n:Int)+1)=((n+1:Nat):Int):=by rw[wrap64 (by omega) (by omega)];omega
    have pB:all.length+1≤4294967296:=by omega
    refine .skip (.seq (.block (.rn ?_)))
    refine .rn ?_
    refine⟨(n+1,all++[⟨5,i,j,n,0⟩]),⟨by omega,?_⟩,bt,(.mk [] [(2,4)] gK il rfl rfl rfl)⟩
    rw[← bg,RJ,List.append_assoc]
   try simp at Gn
   obtain rfl:n=c.g.length:=by omega
   have vU:lO c i j=all:=by rw[MD,bg]
   rw[vU]
   refine .exit (.sr ?_)
   refine .seq (.sr ?_)
   refine .block ?_
   refine .dF (fun k:Nat=>([(2,.int .i64 j),(3,.ptr 0 0),(7,.grow 2 all.length true),(10,eL (nO c (all.take k))),(11,.int .i64 k)],⟨3,[(2,.grow 5 (all.map encS)),(0,.box (cQ c))]⟩)) (fun k=>k≤all.length) (fun k=>all.length - k) 0 (by simp) bx ?_
   rintro k fD
   simp only at fD ⊢
   refine .seq (.sr ?_)
   refine .cs ?_ ?_<;>intro pV
   ·try simp at pV
    have eP:IntKind.i64.wrap ((k:Int)+1)=((k+1:Nat):Int):=by rw[wrap64 (by omega) (by omega)];omega
    have fA:k<all.length:=by omega
    obtain⟨s,hs⟩:∃s,all[k]?=some s:=⟨_,List.getElem?_eq_getElem fA⟩
    have ft:all[k]=s:=(List.getElem?_eq_some_iff.1 hs).2
    have gn:=RM c (all.take k) s
    have xJ:all.take (k+1)=all.take k++[s]:=by rw[List.take_succ_eq_append_getElem fA,ft]
    have gZ:=RN c (all.take k)
    rw[← xJ] at gn
    rw[List.length_take] at gZ
    have l6:s.i.toNat=j:=by
     have hm:s∈lO c i j:=by rw[vU];exact List.mem_of_getElem? hs
     exact RQ hm
    obtain⟨O,hO⟩:∃O,nO c (all.take k)=O:=⟨_,rfl⟩
    rw[hO] at gn gZ ⊢
    have cz:=cz s
    rw[hE] at cz
    have MF:=MG (sz:=5) (es:=all.map encS) (q:=k) (e:=encS s) (fun e he=>by obtain⟨x,_,rfl⟩:=List.mem_map.1 he;rfl) (by rw[List.getElem?_map,hs];rfl)
    obtain⟨uz,xy⟩:=MF
    rw[List.length_flatMap,List.map_map] at xy
    rw[hE] at uz
    simp only[PV.cells] at uz
    rcases hd:aR c s with _|⟨n,i',w⟩
    ·skip
     refine .skip (.seq (.block (.seq ?_)))
     refine .rX (ms:=[0,0,0,6,14,31,0,127]) (W:=[5,7]) (As:=[6]) (items:=pj) rfl af af af af (by decide) ?_
     iterate 5 refine .rf ?_
     refine .al rfl rfl (by decide) (by decide) (by decide) (by decide) fh ?_
     refine .wr rfl rfl (by decide) (.pure rfl rfl rfl call126 (by decide) (cz) (by first|rfl|simp[*]) ?_)
     intro _ e;rw[jT hd] at e;subst e;rw[if_neg (RO hd)] at gn
     refine .wr rfl rfl (by decide) (.dS fh (by decide) ?_)
     refine .done (.seq (.aD jR rfl af ?_))
     refine .rn dU _ ?_
     refine .pc rfl rfl rfl rfl rfl call159 ((kL [] (by simp))) ?_
     refine .rn [5] [] ?_
     refine .done (.seq (.aD gy rfl af ?_))
     refine .rn [0,1,2] _ ?_
     refine .split (t:=95) rfl (fun lP=>?_) (fun lP=>?_)
     ·try subst lP
      try simp at lP
     try subst lP
     try simp at lP
     refine .rn [3,4] [] ?_
     refine .done (.iM rfl (.skip (.rn ?_)))
     refine⟨k+1,bt,bt,?_⟩
     have rh:eL (nO c (all.take (k+1)))=eL O:=by rw[gn]
     simp only[rh]
     exact bx
    skip
    refine .skip (.seq (.block (.seq ?_)))
    refine .rX (ms:=[0,0,0,6,14,31,0,127]) (W:=[5,7]) (As:=[6]) (items:=pj) rfl af af af af (by decide) ?_
    iterate 5 refine .rf ?_
    refine .al rfl rfl (by decide) (by decide) (by decide) (by decide) fh ?_
    refine .wr rfl rfl (by decide) (.pure rfl rfl rfl call126 (by decide) (cz) (by first|rfl|simp[*]) ?_)
    intro _ e;rw[iA hd] at e;subst e;rw[RP hd,l6] at gn;obtain⟨hb,BS⟩:∃b,hasB c j w=b:=⟨_,rfl⟩;have kL:=kL w (by have:=(mf bq hd).2.2.2.2.2;omega);rw[BS] at kL gn
    refine .wr rfl rfl (by decide) (.dS fh (by decide) ?_)
    refine .done (.seq (.aD jR rfl af ?_))
    refine .rn dU _ ?_
    refine .pc rfl rfl rfl rfl rfl call159 (kL) ?_
    refine .rn [5] [] ?_
    refine .done (.seq (.aD gy rfl af ?_))
    refine .rn [0,1,2] _ ?_
    refine .split (t:=95) rfl (fun lP=>?_) (fun lP=>?_)
    ·try subst lP
     try simp at lP
     refine .rn [3,4] [] ?_
     refine .done ?_
     refine .cs ?_ ?_<;>intro kp
     ·try simp at kp
      rw[if_pos kp] at gn
      have ph:=ph s
      have AB:=AB O s (by omega)
      rw[hE] at AB ph
      rcases RG O with⟨MH,Gp⟩|Gp<;>simp only[Gp]
      ·skip
       refine .aD iJ rfl af (.rn gy _ ?_)
       refine .pc rfl rfl rfl rfl rfl call93 (ph) ?_
       refine .rn [6] [] ?_
       refine .done (.rn ?_)
       refine⟨k+1,bt,bt,?_⟩
       have rh:eL (nO c (all.take (k+1)))=.vec [.agg [.int .i64 s.k,.int .i64 s.a,.int .i64 s.i,.int .i64 s.l,.int .i64 s.w]]:=by rw[gn,MH,← hE];rfl
       simp only[rh]
       exact bx
      skip
      refine .aD iJ rfl af (.rn gy _ ?_)
      refine .pc rfl rfl rfl rfl rfl call93 (AB) ?_
      refine .rn [6] [] ?_
      refine .done (.rn ?_)
      refine⟨k+1,bt,bt,?_⟩
      have rh:eL (nO c (all.take (k+1)))=.vec ((ee O s).map encS):=by rw[gn,MB (RH O s)]
      simp only[rh]
      exact bx
     try simp at kp
     rw[if_neg (by rw[kp];simp)] at gn
     have rh:eL (nO c (all.take (k+1)))=eL O:=by rw[gn]
     refine .skip (.rn ?_)
     refine⟨k+1,bt,bt,?_⟩
     simp only[rh]
     exact bx
    try subst lP
    try simp at lP
   try simp at pV
   obtain rfl:k=all.length:=by omega
   rw[List.take_length] at *
   refine .exit (.sr ?_)
   refine .ret (aH ?_)
   exact zk
  try simp at pS
 ·
  have hAe:r8 c i j=[⟨2,i,j,0,0⟩]:=by unfold r8;rw[if_neg dE];rfl
  refine .sr ?_
  refine .sr ?_
  refine .seq (.sr ?_)
  refine .cs ?_ ?_<;>intro pS
  ·try simp at pS
  try simp at pS
  refine .skip (.sr ?_)
  refine .seq (.sr ?_)
  refine .block ?_
  refine .dF (fun z:Nat×List ai=>([(1,.int .i64 i),(2,.int .i64 j),(3,.ptr 0 0),(7,.grow 2 z.2.length true),(8,.int .i64 z.1)],⟨3,[(2,.grow 5 (z.2.map encS)),(0,.box (cQ c))]⟩)) (fun z=>z.1≤c.t.length+1∧z.2=r8 c i j++uy i j z.1) (fun z=>c.t.length+1 - z.1) (0,r8 c i j) (by simp[uy]) bx ?_
  rintro⟨n,all⟩ ⟨hn,bg⟩
  simp only at hn bg ⊢
  have ef:all.length≤103:=by rw[bg,List.length_append,IT];omega
  replace bg:=bg.symm
  refine .seq (.sr ?_)
  refine .cs ?_ ?_<;>intro iO
  ·try simp at iO
   have eP:IntKind.i64.wrap ((n:Int)+1)=((n+1:Nat):Int):=by rw[wrap64 (by omega) (by omega)];omega
   have pB:all.length+2≤4294967296:=by omega
   refine .skip (.seq (.block (.rn ?_)))
   refine .rn ?_
   refine⟨(n+1,all++[⟨3,i,j,n,0⟩,⟨4,i,j,n,0⟩]),⟨by omega,?_⟩,bt,(.mk [] [(2,4)] gK il rfl rfl rfl)⟩
   rw[← bg,MC,List.append_assoc]
  try simp at iO
  obtain rfl:n=c.t.length+1:=by omega
  refine .exit (.seq (.sr ?_))
  refine .block ?_
  refine .dF (fun z:Nat×List ai=>([(1,.int .i64 i),(2,.int .i64 j),(3,.ptr 0 0),(7,.grow 2 z.2.length true),(9,.int .i64 z.1)],⟨3,[(2,.grow 5 (z.2.map encS)),(0,.box (cQ c))]⟩)) (fun z=>z.1≤c.g.length∧z.2=r8 c i j++uy i j (c.t.length+1)++vT i j z.1) (fun z=>c.g.length - z.1) (0,all) ⟨by simp,by rw[← bg];simp[vT]⟩ bx ?_
  clear bg ef
  rintro⟨n,all⟩ ⟨hn,bg⟩
  simp only at hn bg ⊢
  have ef:all.length≤109:=by rw[bg,List.length_append,List.length_append,IT,RL];omega
  replace bg:=bg.symm
  refine .seq (.sr ?_)
  refine .cs ?_ ?_<;>intro Gn
  ·try simp at Gn
   have eP:IntKind.i64.wrap ((n:Int)+1)=((n+1:Nat):Int):=by rw[wrap64 (by omega) (by omega)];omega
   have pB:all.length+1≤4294967296:=by omega
   refine .skip (.seq (.block (.rn ?_)))
   refine .rn ?_
   refine⟨(n+1,all++[⟨5,i,j,n,0⟩]),⟨by omega,?_⟩,bt,(.mk [] [(2,4)] gK il rfl rfl rfl)⟩
   rw[← bg,RJ,List.append_assoc]
  try simp at Gn
  obtain rfl:n=c.g.length:=by omega
  have vU:lO c i j=all:=by rw[MD,bg]
  rw[vU]
  refine .exit (.sr ?_)
  refine .seq (.sr ?_)
  refine .block ?_
  refine .dF (fun k:Nat=>([(2,.int .i64 j),(3,.ptr 0 0),(7,.grow 2 all.length true),(10,eL (nO c (all.take k))),(11,.int .i64 k)],⟨3,[(2,.grow 5 (all.map encS)),(0,.box (cQ c))]⟩)) (fun k=>k≤all.length) (fun k=>all.length - k) 0 (by simp) bx ?_
  rintro k fD
  simp only at fD ⊢
  refine .seq (.sr ?_)
  refine .cs ?_ ?_<;>intro pV
  ·try simp at pV
   have eP:IntKind.i64.wrap ((k:Int)+1)=((k+1:Nat):Int):=by rw[wrap64 (by omega) (by omega)];omega
   have fA:k<all.length:=by omega
   obtain⟨s,hs⟩:∃s,all[k]?=some s:=⟨_,List.getElem?_eq_getElem fA⟩
   have ft:all[k]=s:=(List.getElem?_eq_some_iff.1 hs).2
   have gn:=RM c (all.take k) s
   have xJ:all.take (k+1)=all.take k++[s]:=by rw[List.take_succ_eq_append_getElem fA,ft]
   have gZ:=RN c (all.take k)
   rw[← xJ] at gn
   rw[List.length_take] at gZ
   have l6:s.i.toNat=j:=by
    have hm:s∈lO c i j:=by rw[vU];exact List.mem_of_getElem? hs
    exact RQ hm
   obtain⟨O,hO⟩:∃O,nO c (all.take k)=O:=⟨_,rfl⟩
   rw[hO] at gn gZ ⊢
   have cz:=cz s
   rw[hE] at cz
   have MF:=MG (sz:=5) (es:=all.map encS) (q:=k) (e:=encS s) (fun e he=>by obtain⟨x,_,rfl⟩:=List.mem_map.1 he;rfl) (by rw[List.getElem?_map,hs];rfl)
   obtain⟨uz,xy⟩:=MF
   rw[List.length_flatMap,List.map_map] at xy
   rw[hE] at uz
   simp only[PV.cells] at uz
   rcases hd:aR c s with _|⟨n,i',w⟩
   ·skip
    refine .skip (.seq (.block (.seq ?_)))
    refine .rX (ms:=[0,0,0,6,14,31,0,127]) (W:=[5,7]) (As:=[6]) (items:=pj) rfl af af af af (by decide) ?_
    iterate 5 refine .rf ?_
    refine .al rfl rfl (by decide) (by decide) (by decide) (by decide) fh ?_
    refine .wr rfl rfl (by decide) (.pure rfl rfl rfl call126 (by decide) (cz) (by first|rfl|simp[*]) ?_)
    intro _ e;rw[jT hd] at e;subst e;rw[if_neg (RO hd)] at gn
    refine .wr rfl rfl (by decide) (.dS fh (by decide) ?_)
    refine .done (.seq (.aD jR rfl af ?_))
    refine .rn dU _ ?_
    refine .pc rfl rfl rfl rfl rfl call159 ((kL [] (by simp))) ?_
    refine .rn [5] [] ?_
    refine .done (.seq (.aD gy rfl af ?_))
    refine .rn [0,1,2] _ ?_
    refine .split (t:=95) rfl (fun lP=>?_) (fun lP=>?_)
    ·try subst lP
     try simp at lP
    try subst lP
    try simp at lP
    refine .rn [3,4] [] ?_
    refine .done (.iM rfl (.skip (.rn ?_)))
    refine⟨k+1,bt,bt,?_⟩
    have rh:eL (nO c (all.take (k+1)))=eL O:=by rw[gn]
    simp only[rh]
    exact bx
   skip
   refine .skip (.seq (.block (.seq ?_)))
   refine .rX (ms:=[0,0,0,6,14,31,0,127]) (W:=[5,7]) (As:=[6]) (items:=pj) rfl af af af af (by decide) ?_
   iterate 5 refine .rf ?_
   refine .al rfl rfl (by decide) (by decide) (by decide) (by decide) fh ?_
   refine .wr rfl rfl (by decide) (.pure rfl rfl rfl call126 (by decide) (cz) (by first|rfl|simp[*]) ?_)
   intro _ e;rw[iA hd] at e;subst e;rw[RP hd,l6] at gn;obtain⟨hb,BS⟩:∃b,hasB c j w=b:=⟨_,rfl⟩;have kL:=kL w (by have:=(mf bq hd).2.2.2.2.2;omega);rw[BS] at kL gn
   refine .wr rfl rfl (by decide) (.dS fh (by decide) ?_)
   refine .done (.seq (.aD jR rfl af ?_))
   refine .rn dU _ ?_
   refine .pc rfl rfl rfl rfl rfl call159 (kL) ?_
   refine .rn [5] [] ?_
   refine .done (.seq (.aD gy rfl af ?_))
   refine .rn [0,1,2] _ ?_
   refine .split (t:=95) rfl (fun lP=>?_) (fun lP=>?_)
   ·try subst lP
    try simp at lP
    refine .rn [3,4] [] ?_
    refine .done ?_
    refine .cs ?_ ?_<;>intro kp
    ·try simp at kp
     rw[if_pos kp] at gn
     have ph:=ph s
     have AB:=AB O s (by omega)
     rw[hE] at AB ph
     rcases RG O with⟨MH,Gp⟩|Gp<;>simp only[Gp]
     ·skip
      refine .aD iJ rfl af (.rn gy _ ?_)
      refine .pc rfl rfl rfl rfl rfl call93 (ph) ?_
      refine .rn [6] [] ?_
      refine .done (.rn ?_)
      refine⟨k+1,bt,bt,?_⟩
      have rh:eL (nO c (all.take (k+1)))=.vec [.agg [.int .i64 s.k,.int .i64 s.a,.int .i64 s.i,.int .i64 s.l,.int .i64 s.w]]:=by rw[gn,MH,← hE];rfl
      simp only[rh]
      exact bx
     skip
     refine .aD iJ rfl af (.rn gy _ ?_)
     refine .pc rfl rfl rfl rfl rfl call93 (AB) ?_
     refine .rn [6] [] ?_
     refine .done (.rn ?_)
     refine⟨k+1,bt,bt,?_⟩
     have rh:eL (nO c (all.take (k+1)))=.vec ((ee O s).map encS):=by rw[gn,MB (RH O s)]
     simp only[rh]
     exact bx
    try simp at kp
    rw[if_neg (by rw[kp];simp)] at gn
    have rh:eL (nO c (all.take (k+1)))=eL O:=by rw[gn]
    refine .skip (.rn ?_)
    refine⟨k+1,bt,bt,?_⟩
    simp only[rh]
    exact bx
   try subst lP
   try simp at lP
  try simp at pV
  obtain rfl:k=all.length:=by omega
  rw[List.take_length] at *
  refine .exit (.sr ?_)
  refine .ret (aH ?_)
  exact zk
end Go.Am.Sl
end
