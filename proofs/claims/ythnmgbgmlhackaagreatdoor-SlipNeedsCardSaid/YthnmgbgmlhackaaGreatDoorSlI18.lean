/-
 What is used in the proof of a statement (part SlI18); no condition.
-/
import Derived.Test.YthnmgbgmlhackaaGreatDoorSlH
import Derived.Test.YthnmgbgmlhackaaGreatDoorSlI0
import Derived.Test.YthnmgbgmlhackaaGreatDoorSlI1
import Derived.Test.YthnmgbgmlhackaaGreatDoorSlI2
import Derived.Test.YthnmgbgmlhackaaGreatDoorSlI3
import Derived.Test.YthnmgbgmlhackaaGreatDoorSlI4
import Derived.Test.YthnmgbgmlhackaaGreatDoorSlI5
import Derived.Test.YthnmgbgmlhackaaGreatDoorSlI6
import Derived.Test.YthnmgbgmlhackaaGreatDoorSlI7
import Derived.Test.YthnmgbgmlhackaaGreatDoorSlI13
set_option linter.all false
set_option maxHeartbeats 40000000
set_option maxRecDepth 100000
section
namespace Go.Am.Sl
open Go Go.Am Go.Proofs Tryz
attribute [local simp] de fQ lz dz dN jD af.back b6 dG iO bm Nat.testBit_eq_decide_div_mod_eq ct gf jB vO kN dX kO gE cJ jR jQ kK dY kL j9 jq ly j8 kM kF kC kG kD kE kH kI jM di ig dd kP jS ka kQ kR jL ls lu dW jC dy dx dA iL dK jY jO jP gX kz a7 j7 dw bA bC ja af.get af.alloc af.put af.drop af.empty bq cg gd gR fe cp chunk List.range List.range.loop iP lA jr bI bG PV.aD PV.az PV.b8 PV.dv eu dZ kc PV.one PV.ids PV.bT fJ beq_eq lQ l9
attribute [local simp] cQ bQ cw jU oL lD jE jN jc ef dD
attribute [local simp ↓ high] mG ma
attribute [local simp] cQ bQ cw jU lD jE jN jc ef dD
def qN (l a b:List ak):Bool:=(a.all fun s=>decide (s∈l))&&l.all fun s=>decide (s∈b)
section
variable [bE]
theorem N4 (l:List ak)(s:ak)(hl:l.length<4611686018427387904):aI prog 39 [.vec (l.map encS),encS s] fun r=>r=.bool (decide (s∈l)):=by
 have hE:∀s:ak,encS s=.agg [.int .i64 s.k,.int .i64 s.a,.int .i64 s.i,.int .i64 s.l,.int .i64 s.w]:=fun _=>rfl
 rw[hE s]
 refine .bJ func39 rfl rfl ?_
 refine .sr ?_
 refine .seq (.sr ?_)
 refine .block ?_
 refine .cZ (fun i:Nat=>([(0,.vec (l.map encS)),(3,.ptr 0 0),(5,.int .i64 i)],⟨1,[(0,.box [.int .i64 s.k,.int .i64 s.a,.int .i64 s.i,.int .i64 s.l,.int .i64 s.w])]⟩)) (fun i=>i≤l.length∧s∉l.take i) (fun i=>l.length - i) 0 (by simp) aX ?_
 rintro i ⟨hi,ht⟩
 simp only at hi ht ⊢
 refine .seq (.sr ?_)
 refine .cs ?_ ?_<;>intro c9
 ·try simp at c9
  have cR:=iQ i
  have cE:i<l.length:=by omega
  obtain⟨x,hx⟩:∃x,l[i]?=some x:=⟨_,List.getElem?_eq_getElem cE⟩
  have ic:l[i]=x:=(List.getElem?_eq_some_iff.1 hx).2
  refine .skip (.seq (.block (.seq ?_)))
  refine .drawn (ms:=[0,0,3,7,0,31]) (W:=[]) (items:=[.op 0,.op 1,.op 2,.op 3,.op 4,.op 5]) rfl ae ae ae ?_
  iterate 6 refine .rx ?_
  refine .done ?_
  refine .cs ?_ ?_<;>intro iB
  ·try simp at iB
   have oP:x=s:=by cases x;cases s;simp at iB;simp[iB]
   have db:decide (s∈l)=true:=by rw[decide_eq_true_eq,← oP,← ic];exact List.getElem_mem cE
   refine .sr ?_
   refine .ret (ax ?_)
   rw[db]
  try simp at iB
  have oP:¬x=s:=fun e=>by subst e;simp at iB
  refine .skip (.rn ?_)
  refine⟨i+1,⟨ba,?_⟩,ba,aX⟩
  rw[List.take_succ_eq_append_getElem cE,ic]
  simp[ht];exact fun e=>oP e.symm
 try simp at c9
 obtain rfl:i=l.length:=by omega
 have db:decide (s∈l)=false:=by rw[decide_eq_false_iff_not];rwa [List.take_length] at ht
 refine .exit (.sr ?_)
 refine .ret (ax ?_)
 rw[db]
theorem YH (l a b:List ak)(hl:l.length<4611686018427387904)(ha:a.length<4611686018427387904)(hb:b.length<4611686018427387904):aI prog 41 [.vec (l.map encS),.vec (a.map encS),.vec (b.map encS)] fun r=>r=.bool (qN l a b):=by
 have hE:∀s:ak,encS s=.agg [.int .i64 s.k,.int .i64 s.a,.int .i64 s.i,.int .i64 s.l,.int .i64 s.w]:=fun _=>rfl
 have hF:qN l a b=((a.all fun s=>decide (s∈l))&&l.all fun s=>decide (s∈b)):=rfl
 refine .bJ func41 rfl rfl ?_
 refine .sr ?_
 refine .seq (.sr ?_)
 refine .block ?_
 refine .cZ (fun i:Nat=>([(0,.vec (l.map encS)),(1,.vec (a.map encS)),(2,.vec (b.map encS)),(7,.int .i64 i)],af.empty)) (fun i=>i≤a.length∧(a.take i).all (fun s=>decide (s∈l))=true) (fun i=>a.length - i) 0 (by simp) (.pure (by simp[*]) (by simp)) ?_
 rintro i ⟨hi,ht⟩
 simp only at hi ht ⊢
 refine .seq (.sr ?_)
 refine .cs ?_ ?_<;>intro iy
 ·try simp at iy
  have cR:=iQ i
  have cE:i<a.length:=by omega
  obtain⟨x,hx⟩:∃x,a[i]?=some x:=⟨_,List.getElem?_eq_getElem cE⟩
  have ic:a[i]=x:=(List.getElem?_eq_some_iff.1 hx).2
  have Gr:=N4 l x hl
  rw[hE x] at Gr
  have ep:=@Cx _ (fun s=>decide (s∈l)) a i cE ht
  have km:=@Cy _ (fun s=>decide (s∈l)) a i cE
  rw[ic] at ep km
  obtain⟨wb,sA⟩:∃b,decide (x∈l)=b:=⟨_,rfl⟩
  rw[sA] at Gr ep km
  refine .skip (.seq (.block (.seq (.ar gT rfl ae (.rn fR _ ?_)))))
  refine .pc rfl rfl rfl rfl rfl call39 (Gr) ?_
  refine .rn [6] [] ?_
  refine .done (.sr ?_)
  refine .cs ?_ ?_<;>intro mb
  ·try simp at mb
   have hb:=km (by simpa using mb)
   have cT:qN l a b=false:=by rw[hF,hb];rfl
   refine .sr ?_
   refine .ret (ax ?_)
   rw[cT]
  try simp at mb
  have ha:=ep (by simpa using mb)
  refine .skip (.rn ?_)
  exact⟨i+1,⟨ba,ha⟩,ba,.pure (by simp[*]) (by simp)⟩
 try simp at iy
 obtain rfl:i=a.length:=by omega
 rw[List.take_length] at ht
 rw[ht,Bool.true_and] at hF
 refine .exit (.seq (.sr ?_))
 refine .block ?_
 refine .cZ (fun i:Nat=>([(0,.vec (l.map encS)),(2,.vec (b.map encS)),(9,.int .i64 i)],af.empty)) (fun i=>i≤l.length∧(l.take i).all (fun s=>decide (s∈b))=true) (fun i=>l.length - i) 0 (by simp) (.pure (by simp[*]) (by simp)) ?_
 clear ht hi
 rintro i ⟨hi,ht⟩
 simp only at hi ht ⊢
 refine .seq (.sr ?_)
 refine .cs ?_ ?_<;>intro iI
 ·try simp at iI
  have cR:=iQ i
  have cE:i<l.length:=by omega
  obtain⟨x,hx⟩:∃x,l[i]?=some x:=⟨_,List.getElem?_eq_getElem cE⟩
  have ic:l[i]=x:=(List.getElem?_eq_some_iff.1 hx).2
  have Gr:=N4 b x hb
  rw[hE x] at Gr
  have ep:=@Cx _ (fun s=>decide (s∈b)) l i cE ht
  have km:=@Cy _ (fun s=>decide (s∈b)) l i cE
  rw[ic] at ep km
  obtain⟨wb,sA⟩:∃y,decide (x∈b)=y:=⟨_,rfl⟩
  rw[sA] at Gr ep km
  refine .skip (.seq (.block (.seq (.ar gT rfl ae (.rn fR _ ?_)))))
  refine .pc rfl rfl rfl rfl rfl call39 (Gr) ?_
  refine .rn [6] [] ?_
  refine .done (.sr ?_)
  refine .cs ?_ ?_<;>intro nt
  ·try simp at nt
   have cr:=km (by simpa using nt)
   have cT:qN l a b=false:=by rw[hF,cr]
   refine .sr ?_
   refine .ret (ax ?_)
   rw[cT]
  try simp at nt
  have rH:=ep (by simpa using nt)
  refine .skip (.rn ?_)
  exact⟨i+1,⟨ba,rH⟩,ba,.pure (by simp[*]) (by simp)⟩
 try simp at iI
 obtain rfl:i=l.length:=by omega
 rw[List.take_length] at ht
 have cT:qN l a b=true:=by rw[hF,ht]
 refine .exit (.sr ?_)
 refine .ret (ax ?_)
 rw[cT]
end
end Go.Am.Sl
end
section
namespace Go.Am.Sl
theorem N5 {l:List ay}{s:ak}:s∈fU l↔∃x∈l,x.s=some s:=by unfold fU;rw[List.mem_filterMap]
theorem K7 {c:aj}{q:ay→Bool}{s:ak}:s∈gU c q↔∃x∈dS c,x.s=some s∧q x=true:=by
 rw[WQ,N5]
 simp only[List.mem_filter,and_assoc]
 constructor
 ·rintro⟨x,h1,h2,h3⟩;exact⟨x,h1,h3,h2⟩
 rintro⟨x,h1,h2,h3⟩;exact⟨x,h1,h3,h2⟩
theorem xnn {c:aj}(hr:Rt c){s:ak}{v:Int}(h:qk c s=some v):0≤v:=by
 unfold qk at h
 split at h
 ·rename_i n i' w hd
  split at h
  ·rename_i hb
   injection h with h
   have:=Wz hr (Sr hr hd hb)
   unfold eR at this
   simp only at this
   omega
  cases h
 cases h
theorem YI {c:aj}(hr:Rt c){s:ak}:s∈gU c (fun _=>true)↔qk c s=some 0:=by
 rw[K7]
 constructor
 ·rintro⟨x,hx,hs,_⟩
  obtain⟨h1,h2⟩:=List.mem_filter.1 hx
  obtain⟨n,i',w,hd,hb,e⟩:=Yh hr h1 hs
  unfold qk
  rw[hd]
  simp only[hb,if_true]
  unfold iH at h2
  rw[decide_eq_true_eq,e] at h2
  simp only at h2
  congr 1;omega
 intro h
 unfold qk at h
 split at h
 ·rename_i n i' w hd
  split at h
  ·rename_i hb
   injection h with h
   refine⟨_,List.mem_filter.2 ⟨Sr hr hd hb,?_⟩,rfl,rfl⟩
   unfold iH
   rw[decide_eq_true_eq]
   simp only;omega
  cases h
 cases h
theorem YJ {c:aj}(hr:Rt c){w:List ay}(hw:Way (graph c) 0 0 c.t.length c.c.length (eR c) w){s:ak}(h:FM c s=true):s∈fU w:=by
 refine Decidable.byContradiction fun hn=>?_
 have h1:Way ((graph c).filter fun x=>!kV s x) 0 0 c.t.length c.c.length (eR c) w:=hw.mono fun x hx=>List.mem_filter.2 ⟨hw.kr x hx,by
  unfold kV
  cases hh:decide (x.s=some s) with
  |false=>rfl
  |true=>exact absurd (N5.2 ⟨x,hx,of_decide_eq_true hh⟩) hn⟩
 have hs:=(Sub.graph c).filter fun x=>!kV s x
 have h2:=YK hr hs h1
 have h3:=(NY hr hs).2 ⟨_,w,h1⟩
 obtain⟨h4,h5⟩:=Yi hr s
 have h6:=h4.1 h3
 rw[h5 h6] at h2
 unfold FM at h
 rw[Bool.or_eq_true,Bool.not_eq_true',decide_eq_false_iff_not,decide_eq_true_eq] at h
 unfold eR at h2
 omega
theorem z7r {c:aj}(hr:Rt c){w:List ay}(hw:Way (graph c) 0 0 c.t.length c.c.length (eR c) w){s:ak}(h:s∈fU w):s∈gU c (fun _=>true):=by
 obtain⟨x,hx,hs⟩:=N5.1 h
 exact K7.2 ⟨x,List.mem_filter.2 ⟨hw.kr x hx,J7 hr hw x hx⟩,hs,rfl⟩
theorem YL {c:aj}(hr:Rt c){s:ak}:s∈gU c (ql c)↔FM c s=true:=by
 rw[K7]
 constructor
 ·rintro⟨x,hx,hs,h⟩;unfold ql at h;rw[hs] at h;exact h
 intro h
 obtain⟨x,hx,hs⟩:=N5.1 (YJ hr (zc hr) h)
 exact⟨x,List.mem_filter.2 ⟨(zc hr).kr x hx,J7 hr (zc hr) x hx⟩,hs,by unfold ql;rw[hs];exact h⟩
theorem zzn {c:aj}(hr:Rt c){s:ak}(h:s∈gU c (ql c)):s∈gU c (fun _=>true):=by
 obtain⟨x,hx,hs,_⟩:=K7.1 h
 exact K7.2 ⟨x,hx,hs,rfl⟩
theorem xk8 {c:aj}(hr:Rt c)(s:ak):aS c c.t.length c.c.length≤ny c s:=YM hr _
theorem z1m {c:aj}(hr:Rt c){l:List ak}(h:bP c l=some (eR c)):(∀s∈gU c (ql c),s∈l)∧∀s∈l,s∈gU c (fun _=>true):=by
 obtain⟨w,hw,rfl⟩:=(WK hr).1 h
 exact⟨fun s hs=>YJ hr hw ((YL hr).1 hs),fun s hs=>z7r hr hw hs⟩
open Go Go.Am Go.Proofs Tryz
attribute [local simp] de fQ lz dz dN jD af.back b6 dG iO bm Nat.testBit_eq_decide_div_mod_eq ct gf jB vO kN dX kO gE cJ jR jQ kK dY kL j9 jq ly j8 kM kF kC kG kD kE kH kI jM di ig dd kP jS ka kQ kR jL ls lu dW jC dy dx dA iL dK jY jO jP gX kz a7 j7 dw bA bC ja af.get af.alloc af.put af.drop af.empty bq cg gd gR fe cp chunk List.range List.range.loop iP lA jr bI bG PV.aD PV.az PV.b8 PV.dv eu dZ kc PV.one PV.ids PV.bT fJ beq_eq lQ l9
attribute [local simp] cQ bQ cw ef dD
attribute [local simp ↓ high] mG ma
theorem xeo {x:Int}(h1:0≤x)(h2:x<256):IntKind.u8.wrap x=x:=by
 simp[IntKind.wrap,IntKind.bits,IntKind.signed];omega
theorem xdb {c:aj}(hr:Rt c)(x:ak):∃m h:Int,(qk c x).getD 0=m∧(if qk c x=none then (5:Int) else 0)=h∧(h=0∨h=5)∧0≤m∧(x∈gU c (fun _=>true)↔h=0∧m=0):=by
 refine⟨_,_,rfl,rfl,?_⟩
 cases hm:qk c x with
 |none=>
  refine⟨.inr (if_pos rfl),Int.le_refl _,?_⟩
  rw[YI hr,hm]
  simp
 |some v=>
  have:=xnn hr hm
  refine⟨.inl (if_neg (by simp)),this,?_⟩
  rw[YI hr,hm]
  simp
theorem xc1 {c:aj}(hr:Rt c)(x:ak):∃w i:Int,(if ny c x<1099511627776 then ny c x - aS c c.t.length c.c.length else 0)=w∧(if ny c x<1099511627776 then (0:Int) else 5)=i∧(i=0∨i=5)∧0≤w∧(x∈gU c (ql c)↔i=5∨0<w):=by
 refine⟨_,_,rfl,rfl,?_⟩
 have h1:=xk8 hr x
 rw[YL hr]
 unfold FM
 by_cases h:ny c x<1099511627776
 ·rw[if_pos h,if_pos h]
  refine⟨.inl rfl,by omega,?_⟩
  simp[h]
 rw[if_neg h,if_neg h]
 refine⟨.inr rfl,Int.le_refl _,?_⟩
 simp[h]
theorem YN {c:aj}(hr:Rt c){l:List ak}(h:bP c l=some (eR c)):qN l (gU c (ql c)) (gU c (fun _=>true))=true:=by
 obtain⟨h1,h2⟩:=z1m hr h
 unfold qN
 rw[bW,List.all_eq_true,List.all_eq_true]
 exact⟨fun s hs=>decide_eq_true (h1 s hs),fun s hs=>decide_eq_true (h2 s hs)⟩
variable [bE] in
theorem p6 (hN:Names)(c:aj)(l:List ak)(s:ak)(n:Nat)(hB:BC c)(hl:l.length<4611686018427387904)(hn:n<256):aI prog 6 [aA c,.vec (l.map encS),encS s,.int .u8 n] fun r=>r=.bool true:=by
 obtain⟨u,hu⟩:∃u:Int,(n:Int)=u:=⟨_,rfl⟩
 have SH:0≤u∧u<256:=by omega
 rw[hu]
 clear hu hn
 have iX:=Gg hN
 have qL:=NU c
 have zY:=KX l
 have gp:=HT c hB
 have uv:=QR c hB
 have rY:=QS c hB
 have xo:=fun x=>Qq c x hB
 have xp:=fun x=>Qv c x hB
 have mZ:=fun da=>Nr c l hB da
 have hC:cu c=(cQ c):=rfl
 obtain⟨e,he⟩:∃e,aN c=e:=⟨_,rfl⟩
 have bR:=he
 rw[he] at gp uv rY mZ
 rw[KP,show (if e=0 then (qK c).map ints else [])=(if e=0 then qK c else []).map ints by split<;>rfl] at gp
 have gp:=aI.soft gp (by simp[PV.aD,PV.az])
 have uv:=aI.soft uv (by simp[PV.aD,PV.az])
 have rY:=aI.soft rY (by simp[PV.aD,PV.az])
 obtain⟨A,hA⟩:∃A,(if e=0 then lH c else [])=A:=⟨_,rfl⟩
 obtain⟨L,hL⟩:∃A,(if e=0 then eR c else 0)=A:=⟨_,rfl⟩
 obtain⟨TB,uq⟩:∃A,(if e=0 then qK c else [])=A:=⟨_,rfl⟩
 rw[hA,hL,uq] at gp
 obtain⟨g1,qf⟩:∃b,decide ((7:Int)<(c.t.length:Int))=b:=⟨_,rfl⟩
 obtain⟨g2,nH⟩:∃b,decide ((7:Int)<(c.c.length:Int))=b:=⟨_,rfl⟩
 obtain⟨nsb,mK⟩:∃b,pR c = !b:=⟨!pR c,by simp⟩
 rw[mK] at qL
 obtain⟨s1,mT⟩:∃b,decide (l.length≤120)=b:=⟨_,rfl⟩
 rw[mT] at zY
 unfold aA at qL gp uv rY xo xp mZ ⊢
 unfold encS at xo xp ⊢
 rw[hC] at qL gp uv rY xo xp mZ ⊢
 clear uq mK
 refine .bJ func6 rfl rfl ?_
 refine .sr ?_
 refine .join (fun _:Unit=>([(1,.vec (l.map encS)),(3,.int .u8 u),(4,.ptr 0 0),(6,.ptr 1 0)],⟨2,[(1,.box [.int .i64 s.k,.int .i64 s.a,.int .i64 s.i,.int .i64 s.l,.int .i64 s.w]),(0,.box (cQ c))]⟩)) (fun _=>l.length≤120) ?_ ?_
 ·skip
  refine .seq (.ar Jh rfl ae (.rn fR _ ?_))
  refine .split (t:=30) rfl (fun uj=>?_) (fun uj=>?_)
  ·try subst uj
   try simp at uj
   refine .rn [5,6,7,8,9,10,11,12,13,14,15,16,17,18,19] [] ?_
   refine .done (.dR rfl (.seq ?_))
   refine .ar [0,1] rfl ae ?_
   refine .pc rfl rfl rfl rfl rfl call20 (iX) ?_
   refine .rn [1] [] ?_
   refine .done (.ret (ax ?_))
   exact zk
  try subst uj
  try simp at uj
  refine .rn [5,6,7,8,9,10] _ ?_
  refine .split (t:=36) rfl (fun gJ=>?_) (fun gJ=>?_)
  ·try subst gJ
   try simp at gJ
   refine .rn [11,12,13,14,15,16,17,18,19] [] ?_
   refine .done (.dR rfl (.seq ?_))
   refine .ar [0,1] rfl ae ?_
   refine .pc rfl rfl rfl rfl rfl call20 (iX) ?_
   refine .rn [1] [] ?_
   refine .done (.ret (ax ?_))
   exact zk
  try subst gJ
  try simp at gJ
  refine .rn [11] _ ?_
  refine .pc rfl rfl rfl rfl rfl call19 (qL) ?_
  refine .rn [13,14,15] _ ?_
  refine .split (t:=41) rfl (fun zu=>?_) (fun zu=>?_)
  ·try subst zu
   try simp at zu
   refine .rn [16,17,18,19] [] ?_
   refine .done (.dR rfl (.seq ?_))
   refine .ar [0,1] rfl ae ?_
   refine .pc rfl rfl rfl rfl rfl call20 (iX) ?_
   refine .rn [1] [] ?_
   refine .done (.ret (ax ?_))
   exact zk
  try subst zu
  try simp at zu
  refine .rn [16] _ ?_
  refine .pc rfl rfl rfl rfl rfl call38 (zY) ?_
  refine .rn [18,19] [] ?_
  refine .done ?_
  refine .cs ?_ ?_<;>intro D0
  ·try simp at D0
   refine .seq (.ar [0,1] rfl ae ?_)
   refine .pc rfl rfl rfl rfl rfl call20 (iX) ?_
   refine .rn [1] [] ?_
   refine .done (.ret (ax ?_))
   exact zk
  try simp at D0
  refine .skip ?_
  exact⟨(),of_decide_eq_true (mT.trans D0),aX⟩
 skip
 rintro _ da
 simp only
 have mZ:=mZ (by omega)
 clear qL zY mT
 refine .seq (.ar js rfl ae (.rn [0] _ ?_))
 refine .pc rfl rfl rfl rfl rfl call21 (gp) ?_
 refine .rn [2,3,4,5,6,7] [] ?_
 refine .done (.seq (.sr ?_))
 refine .cs ?_ ?_<;>intro ui
 ·try simp at ui
  refine .seq (.ar [0,1] rfl ae ?_)
  refine .pc rfl rfl rfl rfl rfl call20 (iX) ?_
  refine .rn [1] [] ?_
  refine .done (.ret (ax ?_))
  exact zk
 try simp at ui
 subst ui
 have aP:=fC bR
 rw[if_pos rfl] at hA hL
 have Kv:A.length≤96:=by rw[← hA];exact NV aP
 have yaN:A.length≤4294967296:=by omega
 have yaO:A.length+l.length≤4294967296:=by omega
 simp only[if_true] at uv rY mZ
 have N6:qN A (gU c (ql c)) (gU c (fun _=>true))=true:=by rw[← hA];exact YN aP (J8 aP)
 have mV:bP c l=some L→qN l (gU c (ql c)) (gU c (fun _=>true))=true:=fun h=>YN aP (by rw[h,hL])
 have xj:=xdb aP
 have oS:=xc1 aP
 have gZ:=fun x=>@zzn c aP x
 have DK:(gU c (ql c)).length<4611686018427387904:=Nat.lt_of_le_of_lt (Nat.le_trans (NT c _) ((Be c).len aP)) (by decide)
 have N7:(gU c (fun _=>true)).length<4611686018427387904:=Nat.lt_of_le_of_lt (Nat.le_trans (NT c _) ((Be c).len aP)) (by decide)
 obtain⟨SU,SK⟩:∃S,gU c (ql c)=S:=⟨_,rfl⟩
 obtain⟨PO,SL⟩:∃S,gU c (fun _=>true)=S:=⟨_,rfl⟩
 rw[SK] at uv N6 mV DK
 rw[SL] at rY N6 mV N7
 rw[SK] at oS gZ
 rw[SL] at xj gZ
 clear SK SL
 obtain⟨g0,uf⟩:∃b,decide (0<(A.length:Int)+(l.length:Int))=b:=⟨_,rfl⟩
 refine .skip (.sr ?_)
 refine .sr ?_
 refine .join (fun x:ak=>([(1,.vec (l.map encS)),(4,.ptr 0 0),(9,.ptr 1 0),(12,.ptr 2 0)],⟨3,[(2,.box [.int .i64 x.k,.int .i64 x.a,.int .i64 x.i,.int .i64 x.l,.int .i64 x.w]),(1,.box [.vec (A.map encS),.int .i64 L,.vec (TB.map ints)]),(0,.box (cQ c))]⟩)) (fun _=>True) ?_ ?_
 ·skip
  refine .seq (.ar js rfl ae (.rn dQ _ ?_))
  refine .split (t:=65) rfl (fun xS=>?_) (fun xS=>?_)
  ·try subst xS
   try simp at xS
   refine .rn [4,5,6,7] [] ?_
   refine .done ?_
   refine .cs ?_ ?_<;>intro wK
   ·try simp at wK
    have DN:=of_decide_eq_true uf
    have db:¬((A.length:Int)+(l.length:Int)=0):=by omega
    have hq:0≤u.tdiv 4∧u.tdiv 4<64:=by
     rw[Int.tdiv_eq_ediv_of_nonneg SH.1];omega
    have hw8:IntKind.u8.wrap (u.tdiv 4)=u.tdiv 4:=xeo hq.1 (by omega)
    have yaP:IntKind.i64.wrap (u.tdiv 4)=u.tdiv 4:=wrap64 (by omega) (by omega)
    obtain⟨k,hk,qe⟩:∃k:Nat,(u.tdiv 4).tmod ((A.length:Int)+(l.length:Int))=k∧k<A.length+l.length:=by
     have h1:=Int.tmod_nonneg ((A.length:Int)+(l.length:Int)) hq.1
     have h2:=Int.tmod_lt_of_pos (u.tdiv 4) (show 0<(A.length:Int)+(l.length:Int) by omega)
     exact⟨((u.tdiv 4).tmod ((A.length:Int)+(l.length:Int))).toNat,by omega,by omega⟩
    obtain⟨x,hx⟩:∃x,(A++l)[k]?=some x:=⟨_,List.getElem?_eq_getElem (by rw[List.length_append];exact qe)⟩
    have Bf:(List.map encS A++List.map encS l)[k]?=some (encS x):=by rw[← List.map_append,List.getElem?_map,hx];rfl
    have hE:encS x=.agg [.int .i64 x.k,.int .i64 x.a,.int .i64 x.i,.int .i64 x.l,.int .i64 x.w]:=rfl
    rw[hE] at Bf
    have ic:=(List.getElem?_eq_some_iff.1 Bf).2
    have qc:(k:Int)<(A.length:Int)+(l.length:Int):=by omega
    clear hx hq
    refine .rec (aF:=[(1,.vec (l.map encS)),(3,.int .u8 u),(4,.ptr 0 0),(9,.ptr 1 0),(11,.vec (A.map encS++l.map encS)),(12,.ptr 2 0)]) (aZ:=⟨3,[(2,.box [.int .i64 s.k,.int .i64 s.a,.int .i64 s.i,.int .i64 s.l,.int .i64 s.w]),(1,.box [.vec (A.map encS),.int .i64 L,.vec (TB.map ints)]),(0,.box (cQ c))]⟩) (.mk [5] [(1,2),(2,6)] gH gY rfl rfl rfl) ?_
    refine .rn ?_
    exact⟨x,trivial,aX⟩
   try simp at wK
   refine .skip ?_
   exact⟨s,trivial,(.mk [] [(1,2),(2,6)] gH gY rfl rfl rfl)⟩
  try subst xS
  try simp at xS
  refine .rn [4,5,6,7] [] ?_
  refine .done (.gI rfl (.skip ?_))
  exact⟨s,trivial,(.mk [] [(1,2),(2,6)] gH gY rfl rfl rfl)⟩
 skip
 rintro x _
 simp only
 obtain⟨m,h,b7,gW,hh,nR,YO⟩:=xj x
 obtain⟨w,i,lr,cR,hi,xB,YP⟩:=oS x
 have xo:=xo x
 have xp:=xp x
 rw[if_pos bR,if_pos bR,b7,gW] at xo
 rw[if_pos bR,if_pos bR,lr,cR] at xp
 have gZ:=gZ x
 have Gs:=N4 SU x DK
 have CM:=N4 PO x N7
 have K8:=YH l SU PO hl DK N7
 have CN:=YH A SU PO (by omega) DK N7
 rw[N6] at CN
 unfold encS at Gs CM
 obtain⟨b1,eM⟩:∃b,(h != 0)=b:=⟨_,rfl⟩
 obtain⟨b3,nq⟩:∃b,(i != 0)=b:=⟨_,rfl⟩
 obtain⟨bm,YQ⟩:∃b,(m==0)=b:=⟨_,rfl⟩
 obtain⟨bw,hbw⟩:∃b,decide (0<w)=b:=⟨_,rfl⟩
 obtain⟨mg,lL⟩:∃b,decide (0<m)=b:=⟨_,rfl⟩
 have K9:(h==0) = !b1:=by rcases hh with rfl|rfl<;>rw[← eM]<;>rfl
 have SM:(h != 5) = !b1:=by rcases hh with rfl|rfl<;>rw[← eM]<;>rfl
 have SN:(i==5)=b3:=by rcases hi with rfl|rfl<;>rw[← nq]<;>rfl
 have yaQ:(i != 5) = !b3:=by rcases hi with rfl|rfl<;>rw[← nq]<;>rfl
 have hm5:decide (m<0)=false:=decide_eq_false (by omega)
 have qA:decide (w<0)=false:=decide_eq_false (by omega)
 have Hr:decide (x∈SU)=(b3||bw):=by
  rw[Bool.eq_iff_iff,decide_eq_true_eq,YP,Bool.or_eq_true,← SN,← hbw,beq_iff_eq,decide_eq_true_eq]
 have SO:decide (x∈PO)=(!b1&&bm):=by
  rw[Bool.eq_iff_iff,decide_eq_true_eq,YO,bW,← K9,← YQ,beq_iff_eq,beq_iff_eq]
 have z8:(b3||bw)=true→(!b1&&bm)=true:=fun EL=>by
  rw[← Hr,decide_eq_true_eq] at EL
  rw[← SO,decide_eq_true_eq]
  exact gZ EL
 have La:bm=true→mg=false:=fun EL=>by
  rw[← YQ,beq_iff_eq] at EL
  rw[← lL,EL];rfl
 rw[Hr] at Gs
 rw[SO] at CM
 clear xj oS b7 gW lr cR YO YP gZ Hr SO hh hi nR xB N6
 refine .seq (.ar gT rfl ae (.rn [0] _ ?_))
 refine .pc rfl rfl rfl rfl rfl call26 (uv) ?_
 refine .rn [2,3,4,5,6] [] ?_
 refine .done (.seq (.ar gT rfl ae ?_))
 refine .rn [0] _ ?_
 refine .pc rfl rfl rfl rfl rfl call28 (rY) ?_
 refine .rn [2,3,4,5,6] [] ?_
 refine .done (.seq (.ar js rfl ae ?_))
 refine .rn [0,1] _ ?_
 refine .pc rfl rfl rfl rfl rfl call30 (xo) ?_
 refine .rn [3,4,5,6,7] [] ?_
 refine .done (.seq (.ar js rfl ae ?_))
 refine .rn [0,1] _ ?_
 refine .pc rfl rfl rfl rfl rfl call32 (xp) ?_
 refine .rn [3,4,5,6,7] [] ?_
 refine .done ?_
 refine .join (fun _:Unit=>([(1,.vec (l.map encS)),(4,.ptr 0 0),(9,.ptr 1 0),(12,.ptr 2 0),(13,.vec (SU.map encS)),(15,.vec (PO.map encS)),(17,.int .i64 m),(18,.int .i64 h),(19,.int .i64 w),(20,.int .i64 i)],⟨3,[(2,.box [.int .i64 x.k,.int .i64 x.a,.int .i64 x.i,.int .i64 x.l,.int .i64 x.w]),(1,.box [.vec (A.map encS),.int .i64 L,.vec (TB.map ints)]),(0,.box (cQ c))]⟩)) (fun _=>True) ?_ ?_
 ·skip
  refine .seq (.ar [0,1,2,3,4,5,6,7,8,9,10,11,12,13,14,15,16,17,18,19,20,21,22,23,24,25,26,27,28,29] rfl ae (.rn [0,1,2] _ ?_))
  refine .split (t:=103) rfl (fun Aa=>?_) (fun Aa=>?_)
  ·try subst Aa
   try simp at Aa
  try subst Aa
  try simp at Aa
  refine .rn [3,4,5,6] _ ?_
  refine .split (t:=107) rfl (fun Ab=>?_) (fun Ab=>?_)
  ·try subst Ab
   try simp at Ab
  try subst Ab
  try simp at Ab
  refine .rn [7,8,9] _ ?_
  refine .split (t:=110) rfl (fun pO=>?_) (fun pO=>?_)
  ·try subst pO
   try simp at pO
   refine .rn [10,11,12,13,14] _ ?_
   refine .split (t:=115) rfl (fun Ac=>?_) (fun Ac=>?_)
   ·try subst Ac
    try simp at Ac
   try subst Ac
   try simp at Ac
   refine .rn [15,16,17] _ ?_
   refine .split (t:=118) rfl (fun kp=>?_) (fun kp=>?_)
   ·try subst kp
    try simp at kp
    refine .rn [18,19,20,21,22] _ ?_
    refine .split (t:=123) rfl (fun nc=>?_) (fun nc=>?_)
    ·try subst nc
     try simp at nc
    try subst nc
    try simp at nc
    refine .rn [23,24,25,26] _ ?_
    refine .split (t:=127) rfl (fun fW=>?_) (fun fW=>?_)
    ·try subst fW
     try simp at fW
    try subst fW
    try simp at fW
    refine .rn [27,28,29] [] ?_
    refine .done ?_
    refine .cs ?_ ?_<;>intro mi
    ·try simp at mi
    try simp at mi
    refine .skip ?_
    exact⟨(),trivial,aX⟩
   try subst kp
   try simp at kp
   refine .rn [18,19,20,21,22,23,24,25,26] _ ?_
   refine .split (t:=127) rfl (fun fW=>?_) (fun fW=>?_)
   ·try subst fW
    try simp at fW
   try subst fW
   try simp at fW
   refine .rn [27,28,29] [] ?_
   refine .done ?_
   refine .cs ?_ ?_<;>intro mi
   ·try simp at mi
   try simp at mi
   refine .skip ?_
   exact⟨(),trivial,aX⟩
  try subst pO
  try simp at pO
  refine .rn [10,11,12,13,14,15,16,17] _ ?_
  refine .split (t:=118) rfl (fun kp=>?_) (fun kp=>?_)
  ·try subst kp
   try simp at kp
   refine .rn [18,19,20,21,22] _ ?_
   refine .split (t:=123) rfl (fun nc=>?_) (fun nc=>?_)
   ·try subst nc
    try simp at nc
   try subst nc
   try simp at nc
   refine .rn [23,24,25,26] _ ?_
   refine .split (t:=127) rfl (fun fW=>?_) (fun fW=>?_)
   ·try subst fW
    try simp at fW
   try subst fW
   try simp at fW
   refine .rn [27,28,29] [] ?_
   refine .done ?_
   refine .cs ?_ ?_<;>intro mi
   ·try simp at mi
   try simp at mi
   refine .skip ?_
   exact⟨(),trivial,aX⟩
  try subst kp
  try simp at kp
  refine .rn [18,19,20,21,22,23,24,25,26] _ ?_
  refine .split (t:=127) rfl (fun fW=>?_) (fun fW=>?_)
  ·try subst fW
   try simp at fW
  try subst fW
  try simp at fW
  refine .rn [27,28,29] [] ?_
  refine .done ?_
  refine .cs ?_ ?_<;>intro mi
  ·try simp at mi
  try simp at mi
  refine .skip ?_
  exact⟨(),trivial,aX⟩
 skip
 rintro _ _
 simp only
 obtain⟨nb,rfl⟩:∃nb,b1 = !nb:=⟨!b1,by simp⟩
 rw[Bool.not_not] at K9 SM CM z8
 refine .seq (.ar dQ rfl ae (.rn [0,1] _ ?_))
 refine .pc rfl rfl rfl rfl rfl call39 (Gs) ?_
 refine .rn [3] [] ?_
 refine .done (.seq (.ar dQ rfl ae ?_))
 refine .rn [0,1] _ ?_
 refine .pc rfl rfl rfl rfl rfl call39 (CM) ?_
 refine .rn [3] [] ?_
 refine .done ?_
 refine .join (fun _:Unit=>([(1,.vec (l.map encS)),(4,.ptr 0 0),(9,.ptr 1 0),(13,.vec (SU.map encS)),(15,.vec (PO.map encS))],⟨2,[(1,.box [.vec (A.map encS),.int .i64 L,.vec (TB.map ints)]),(0,.box (cQ c))]⟩)) (fun _=>True) ?_ ?_
 ·skip
  refine .seq (.ar [0,1,2,3,4,5,6,7,8,9,10,11,12,13,14,15,16,17,18,19,20,21,22,23,24,25,26,27,28,29,30,31,32,33,34,35,36,37,38,39,40] rfl ae (.rn dQ _ ?_))
  refine .split (t:=140) rfl (fun qI=>?_) (fun qI=>?_)
  ·try subst qI
   try simp at qI
   refine .rn [4,5,6,7,8] _ ?_
   refine .split (t:=145) rfl (fun kq=>?_) (fun kq=>?_)
   ·try subst kq
    try simp at kq
   try subst kq
   try simp at kq
   refine .rn [9,10,11,12] _ ?_
   refine .split (t:=149) rfl (fun jx=>?_) (fun jx=>?_)
   ·try subst jx
    try simp at jx
    obtain rfl:bm=true:=by simpa using z8 (by simp)
    obtain rfl:=La rfl
    refine .rn [13,14,15,16,17,18] _ ?_
    refine .split (t:=155) rfl (fun gV=>?_) (fun gV=>?_)
    ·try subst gV
     try simp at gV
    try subst gV
    try simp at gV
    refine .rn [19,20] _ ?_
    refine .split (t:=157) rfl (fun ku=>?_) (fun ku=>?_)
    ·try subst ku
     try simp at ku
     refine .rn [21,22,23,24,25] _ ?_
     refine .split (t:=162) rfl (fun pT=>?_) (fun pT=>?_)
     ·try subst pT
      try simp at pT
     try subst pT
     try simp at pT
     refine .rn [26,27,28] _ ?_
     refine .split (t:=165) rfl (fun fa=>?_) (fun fa=>?_)
     ·try subst fa
      try simp at fa
     try subst fa
     try simp at fa
     refine .rn [29,30,31,32,33,34,35,36] _ ?_
     refine .split (t:=173) rfl (fun dP=>?_) (fun dP=>?_)
     ·try subst dP
      try simp at dP
     try subst dP
     try simp at dP
     refine .rn [37,38,39,40] [] ?_
     refine .done (.gI rfl (.skip ?_))
     exact⟨(),trivial,aX⟩
    try subst ku
    try simp at ku
   try subst jx
   try simp at jx
   refine .rn [13,14,15,16,17,18] _ ?_
   refine .split (t:=155) rfl (fun gV=>?_) (fun gV=>?_)
   ·try subst gV
    try simp at gV
   try subst gV
   try simp at gV
   refine .rn [19,20] _ ?_
   refine .split (t:=157) rfl (fun ku=>?_) (fun ku=>?_)
   ·try subst ku
    try simp at ku
    obtain rfl:bm=true:=by simpa using z8 (by simp)
    obtain rfl:=La rfl
    refine .rn [21,22,23,24,25] _ ?_
    refine .split (t:=162) rfl (fun pT=>?_) (fun pT=>?_)
    ·try subst pT
     try simp at pT
    try subst pT
    try simp at pT
    refine .rn [26,27,28] _ ?_
    refine .split (t:=165) rfl (fun fa=>?_) (fun fa=>?_)
    ·try subst fa
     try simp at fa
    try subst fa
    try simp at fa
    refine .rn [29,30,31,32,33,34,35,36] _ ?_
    refine .split (t:=173) rfl (fun dP=>?_) (fun dP=>?_)
    ·try subst dP
     try simp at dP
    try subst dP
    try simp at dP
    refine .rn [37,38,39,40] [] ?_
    refine .done (.gI rfl (.skip ?_))
    exact⟨(),trivial,aX⟩
   try subst ku
   try simp at ku
   refine .rn [21,22,23,24,25,26,27,28] _ ?_
   refine .split (t:=165) rfl (fun fa=>?_) (fun fa=>?_)
   ·try subst fa
    try simp at fa
    refine .rn [29,30,31,32,33] _ ?_
    refine .split (t:=170) rfl (fun pU=>?_) (fun pU=>?_)
    ·try subst pU
     try simp at pU
    try subst pU
    try simp at pU
    refine .rn [34,35,36] _ ?_
    refine .split (t:=173) rfl (fun dP=>?_) (fun dP=>?_)
    ·try subst dP
     try simp at dP
    try subst dP
    try simp at dP
    refine .rn [37,38,39,40] [] ?_
    refine .done (.gI rfl (.skip ?_))
    exact⟨(),trivial,aX⟩
   try subst fa
   try simp at fa
   refine .rn [29,30,31,32,33,34,35,36] _ ?_
   refine .split (t:=173) rfl (fun dP=>?_) (fun dP=>?_)
   ·try subst dP
    try simp at dP
   try subst dP
   try simp at dP
   refine .rn [37,38,39,40] [] ?_
   refine .done (.gI rfl (.skip ?_))
   exact⟨(),trivial,aX⟩
  try subst qI
  try simp at qI
  refine .rn [4,5,6,7,8] _ ?_
  refine .split (t:=145) rfl (fun kq=>?_) (fun kq=>?_)
  ·try subst kq
   try simp at kq
  try subst kq
  try simp at kq
  refine .rn [9,10,11,12] _ ?_
  refine .split (t:=149) rfl (fun jx=>?_) (fun jx=>?_)
  ·try subst jx
   try simp at jx
   exact absurd (z8 (by simp)) (by simp)
  try subst jx
  try simp at jx
  refine .rn [13,14,15,16,17,18] _ ?_
  refine .split (t:=155) rfl (fun gV=>?_) (fun gV=>?_)
  ·try subst gV
   try simp at gV
  try subst gV
  try simp at gV
  refine .rn [19,20] _ ?_
  refine .split (t:=157) rfl (fun ku=>?_) (fun ku=>?_)
  ·try subst ku
   try simp at ku
   exact absurd (z8 (by simp)) (by simp)
  try subst ku
  try simp at ku
  refine .rn [21,22,23,24,25,26,27,28] _ ?_
  refine .split (t:=165) rfl (fun fa=>?_) (fun fa=>?_)
  ·try subst fa
   try simp at fa
   refine .rn [29,30,31,32,33] _ ?_
   refine .split (t:=170) rfl (fun pU=>?_) (fun pU=>?_)
   ·try subst pU
    try simp at pU
   try subst pU
   try simp at pU
   refine .rn [34,35,36] _ ?_
   refine .split (t:=173) rfl (fun dP=>?_) (fun dP=>?_)
   ·try subst dP
    try simp at dP
    refine .rn [37,38,39,40] [] ?_
    refine .done ?_
    refine .cs ?_ ?_<;>intro pQ
    ·try simp at pQ
    try simp at pQ
    refine .skip ?_
    exact⟨(),trivial,aX⟩
   try subst dP
   try simp at dP
  try subst fa
  try simp at fa
  refine .rn [29,30,31,32,33,34,35,36] _ ?_
  refine .split (t:=173) rfl (fun dP=>?_) (fun dP=>?_)
  ·try subst dP
   try simp at dP
   refine .rn [37,38,39,40] [] ?_
   refine .done ?_
   refine .cs ?_ ?_<;>intro pQ
   ·try simp at pQ
   try simp at pQ
   refine .skip ?_
   exact⟨(),trivial,aX⟩
  try subst dP
  try simp at dP
 skip
 rintro _ _
 simp only
 obtain⟨X,hX⟩:∃X,bP c l=X:=⟨_,rfl⟩
 rw[hX] at mV
 simp only[bR,if_true,hX] at mZ
 obtain⟨v,hv⟩:∃v,X.getD 0=v:=⟨_,rfl⟩
 obtain⟨nx,dp⟩:∃b,X.isSome = !b:=⟨!X.isSome,by simp⟩
 rw[hv,dp] at mZ
 obtain⟨bl,I9⟩:∃b,(v != L)=b:=⟨_,rfl⟩
 obtain⟨f1,uQ⟩:∃b,qN l SU PO=b:=⟨_,rfl⟩
 have HU:nx=false→bl=false→f1=true:=fun h1 h2=>by
  rw[← uQ]
  refine mV ?_
  rw[h1] at dp
  rw[h2] at I9
  cases X with
  |none=>cases dp
  |some y=>
   rw[Option.getD_some] at hv
   rw[hv]
   simpa using I9
 rw[uQ] at K8
 clear hX mV hv dp uQ
 refine .seq (.ar gh rfl ae (.rn [0,1] _ ?_))
 refine .pc rfl rfl rfl rfl rfl call40 (mZ) ?_
 refine .rn [3,4,5,6,7,8,9] [] ?_
 refine .done (.seq (.ar [0,1,2,3,4,5,6,7,8,9,10,11,12,13,14,15,16,17,18,19,20,21,22,23,24,25,26,27,28] rfl ae ?_))
 refine .pc rfl rfl rfl rfl rfl call20 (iX) ?_
 refine .rn [1] _ ?_
 refine .split (t:=186) rfl (fun Ad=>?_) (fun Ad=>?_)
 ·try subst Ad
  try simp at Ad
  refine .rn [2,3,4,5] _ ?_
  refine .split (t:=190) rfl (fun Ae=>?_) (fun Ae=>?_)
  ·try subst Ae
   try simp at Ae
   refine .rn [6,7,8] _ ?_
   refine .split (t:=193) rfl (fun Af=>?_) (fun Af=>?_)
   ·try subst Af
    try simp at Af
    refine .rn [9,10,11,12,13,14,15,16,17,18,19,20,21,22,23,24,25] _ ?_
    refine .pc rfl rfl rfl rfl rfl call41 (CN) ?_
    refine .rn [27,28] [] ?_
    refine .done (.ret (ax ?_))
    exact zk
   try subst Af
   try simp at Af
   refine .rn [9,10,11,12,13,14] _ ?_
   refine .split (t:=199) rfl (fun Ag=>?_) (fun Ag=>?_)
   ·try subst Ag
    try simp at Ag
    refine .rn [15,16,17,18,19,20,21,22,23,24,25] _ ?_
    refine .pc rfl rfl rfl rfl rfl call41 (CN) ?_
    refine .rn [27,28] [] ?_
    refine .done (.ret (ax ?_))
    exact zk
   try subst Ag
   try simp at Ag
   obtain rfl:=HU rfl rfl
   refine .rn [15,16,17] _ ?_
   refine .pc rfl rfl rfl rfl rfl call41 (K8) ?_
   refine .rn [19,20,21] _ ?_
   refine .split (t:=206) rfl (fun Ah=>?_) (fun Ah=>?_)
   ·try subst Ah
    try simp at Ah
    refine .rn [22,23,24,25] _ ?_
    refine .pc rfl rfl rfl rfl rfl call41 (CN) ?_
    refine .rn [27,28] [] ?_
    refine .done (.ret (ax ?_))
    exact zk
   try subst Ah
   try simp at Ah
  try subst Ae
  try simp at Ae
 try subst Ad
 try simp at Ad
end Go.Am.Sl
end
