/-
 What is used in the proof of a statement (part SlD); no condition.
-/
import Derived.Shelf.RegionOpenPlain
import Derived.WalkKit
import Derived.Deep.RegionLaw
import Derived.Lib.Walk
import Derived.Lib.SliceRun
import Derived.Test.YthnmgbgmlhackaaGreatDoorSlZ
import Derived.Test.YthnmgbgmlhackaaGreatDoorVm2
import Derived.Test.YthnmgbgmlhackaaGreatDoorSlT
import Derived.Test.YthnmgbgmlhackaaGreatDoorSlA
import Derived.Test.YthnmgbgmlhackaaGreatDoorSlC
import Derived.Test.YthnmgbgmlhackaaGreatDoorSlB
set_option linter.all false
set_option maxHeartbeats 40000000
set_option maxRecDepth 100000
section
namespace Go.Am.Sl
open Go Go.Am Go.Proofs Tryz
attribute [local simp] de fQ lz dz dN jD af.back b6 dG iO bm Nat.testBit_eq_decide_div_mod_eq ct gf jB vO kN dX kO gE cJ jR jQ kK dY kL j9 jq ly j8 kM kF kC kG kD kE kH kI jM di ig dd kP jS ka kQ kR jL ls lu dW jC dy dx dA iL dK jY jO jP gX kz a7 j7 dw bA bC ja af.get af.alloc af.put af.drop af.empty bq cg gd gR fe cp chunk List.range List.range.loop iP lA jr bI bG PV.aD PV.az PV.b8 PV.dv eu dZ kc PV.one PV.ids PV.bT fJ beq_eq lQ l9
attribute [local simp] cQ bQ cw ef dD
section
variable [bE]
theorem JS (a:Int):aI prog 179 [.int .i64 a] fun r=>r=.bool false:=by
 refine .bJ func179 rfl rfl ?_
 refine .sr ?_
 refine .sr ?_
 refine .ret (ax ?_)
 exact zk
theorem za (a b:Int):aI prog 157 [.int .i64 a,.int .i64 b] fun r=>r=.int .i64 (lG a b):=by
 have hc:lG a b=if a<b then -1 else if b<a then 1 else 0:=rfl
 refine .bJ func157 rfl rfl ?_
 refine .sr ?_
 refine .seq (.ar [0,1,2] rfl ae (.rn [0] _ ?_))
 refine .pc rfl rfl rfl rfl rfl call179 (JS _) ?_
 refine .rn [2] [] ?_
 refine .done (.seq (.ar [0,1,2] rfl ae ?_))
 refine .rn [0] _ ?_
 refine .pc rfl rfl rfl rfl rfl call179 (JS _) ?_
 refine .rn [2] [] ?_
 refine .done (.seq (.sr ?_))
 refine .cs ?_ ?_<;>intro iC
 ·try simp at iC
 try simp at iC
 refine .skip (.seq (.sr ?_))
 refine .cs ?_ ?_<;>intro gz
 ·try simp at gz
 try simp at gz
 refine .skip (.seq (.sr ?_))
 refine .cs ?_ ?_<;>intro mE
 ·try simp at mE
  rw[if_pos mE] at hc
  refine .sr ?_
  refine .ret (ax ?_)
  exact zk
 try simp at mE
 rw[if_neg (by omega)] at hc
 refine .skip (.seq (.sr ?_))
 refine .cs ?_ ?_<;>intro gG
 ·try simp at gG
  rw[if_pos gG] at hc
  refine .sr ?_
  refine .ret (ax ?_)
  exact zk
 try simp at gG
 rw[if_neg (by omega)] at hc
 refine .skip (.sr ?_)
 refine .ret (ax ?_)
 exact zk
theorem QA (l:List Int)(hl:l.length<4294967296):aI prog 156 [ints l] fun r=>r=.int .i64 (wU l):=by
 refine .bJ func156 rfl rfl ?_
 refine .sr ?_
 refine .sr ?_
 refine .seq (.sr ?_)
 refine .block ?_
 refine .cZ (fun i:Nat=>([(3,.int .i64 0),(6,ints l),(7,.int .i64 l.length),(8,.int .i64 i)],af.empty)) (fun i=>i≤l.length∧∀x∈l.take i,x=0) (fun i=>l.length - i) 0 (by simp) (.pure (by simp[*]) (by simp)) ?_
 rintro i ⟨hi,hz⟩
 simp only at hi hz ⊢
 refine .sr ?_
 refine .seq ?_
 refine .cs ?_ ?_<;>intro c9
 ·try simp at c9
  have cR:=iQ i
  have sj:i<l.length:=by omega
  refine .skip (.seq (.block (.sr ?_)))
  refine .sr ?_
  refine .cs ?_ ?_<;>intro iy
  ·try simp at iy
   have oy:=z6g sj hz iy
   refine .sr ?_
   refine .ret (ax ?_)
   rw[oy]
  try simp at iy
  have lY:∀x∈l.take (i+1),x=0:=fun x hx=>by
   rw[List.take_succ_eq_append_getElem sj,List.mem_append,List.mem_singleton] at hx
   rcases hx with h|h
   ·exact hz x h
   rw[h];exact iy
  refine .skip (.rn ?_)
  refine⟨i+1,⟨ba,lY⟩,ba,.pure (by simp[*]) (by simp)⟩
 try simp at c9
 have:i=l.length:=by omega
 have oy:=z5m (l:=l) (fun x hx=>hz x (by rw[this,List.take_length];exact hx))
 refine .exit (.sr ?_)
 refine .ret (ax ?_)
 rw[oy]
theorem QB (a b:ak):aI prog 118 [encS a,encS b] fun r=>r=.int .i64 (qD a b):=by
 unfold encS qD
 have JT:=QA [lG a.a b.a,lG a.i b.i,lG a.k b.k,lG a.l b.l,lG a.w b.w] (by simp)
 simp only[ints,List.map] at JT
 refine .bJ func118 rfl rfl ?_
 refine .sr ?_
 refine .seq ?_
 refine .drawn (ms:=[0,1,0,4,15,0,32,0,128,511,0,1024,0,4096,16383,0,32768,0,131072,524287,0,1048576,0,4194304,16777215,33554431,67108863,134217727]) (W:=[4,9,14,19,24,25,26]) (items:=[.op 0,.op 1,.op 2,.op 3,.op 5,.op 6,.op 7,.op 8,.op 10,.op 11,.op 12,.op 13,.op 15,.op 16,.op 17,.op 18,.op 20,.op 21,.op 22,.op 23,.op 4,.ck 23,.ck 21,.ck 18,.ck 16,.ck 13,.ck 11,.ck 8,.ck 6,.op 9,.ck 23,.ck 21,.ck 18,.ck 16,.ck 13,.ck 11,.op 14,.ck 23,.ck 21,.ck 18,.ck 16,.op 19,.ck 23,.ck 21,.op 24,.op 25,.op 26,.op 27]) rfl ae ae ae ?_
 iterate 20 refine .rx ?_
 refine .wp rfl rfl rfl rfl rfl call157 (za _ _) ?_
 refine .ck rfl eQ ?_
 refine .ck rfl eQ ?_
 refine .ck rfl eQ ?_
 refine .ck rfl eQ ?_
 refine .ck rfl eQ ?_
 refine .ck rfl eQ ?_
 refine .ck rfl eQ ?_
 refine .ck rfl eQ ?_
 refine .wp rfl rfl rfl rfl rfl call157 (za _ _) ?_
 refine .ck rfl eQ ?_
 refine .ck rfl eQ ?_
 refine .ck rfl eQ ?_
 refine .ck rfl eQ ?_
 refine .ck rfl eQ ?_
 refine .ck rfl eQ ?_
 refine .wp rfl rfl rfl rfl rfl call157 (za _ _) ?_
 refine .ck rfl eQ ?_
 refine .ck rfl eQ ?_
 refine .ck rfl eQ ?_
 refine .ck rfl eQ ?_
 refine .wp rfl rfl rfl rfl rfl call157 (za _ _) ?_
 refine .ck rfl eQ ?_
 refine .ck rfl eQ ?_
 refine .wp rfl rfl rfl rfl rfl call157 (za _ _) ?_
 refine .wv ?_
 refine .wr rfl rfl (by decide) (.M5 rfl rfl rfl call156 (by decide) (by first|(simp<;>rfl)|(simp[*]<;>rfl)|(simp[*];done)) (JT) ?_)
 rintro _ rfl
 refine .rx ?_
 refine .done (.ret (ax ?_))
 exact zk
end
end Go.Am.Sl
end
section
namespace Go.Am.Sl
open Go Go.Am Go.Proofs Tryz Go.Shelf Go.Sort
def z6c:Ren where
  f := fun x => match x with
    |6=>117
    |15=>155
    |14=>154
    |28=>177
    |29=>178
    |20=>169
    |21=>170
    |22=>171
    |23=>172
    |24=>173
    |25=>174
    |26=>175
    |27=>176
    |46=>183
    |47=>184
    |48=>185
    |49=>186
    |50=>187
    |57=>191
    |n=>n
  t := fun x => match x with
    |22=>31
    |24=>48
    |25=>192
    |3=>3
    |39=>228
    |0=>0
    |53=>256
    |55=>258
    |4=>4
    |46=>250
    |45=>249
    |50=>147
    |5=>5
    |9=>9
    |66=>260
    |70=>174
    |76=>269
    |77=>270
    |n=>n
  g:=fun n=>n
theorem QC:SlLaysF0.n6 prog z6c where
  mixed:=rfl
  f6:=⟨ "slices.SortFunc[[]pecia/api.Slip,pecia/api.Slip]", by decide,func117⟩
  f14:=⟨ "slices.pdqsortCmpFunc[pecia/api.Slip]", by decide,func154⟩
  f15:=func155
  f20:=⟨ "slices.insertionSortCmpFunc[pecia/api.Slip]", by decide,func169⟩
  f21:=⟨ "slices.heapSortCmpFunc[pecia/api.Slip]", by decide,func170⟩
  f22:=⟨ "slices.breakPatternsCmpFunc[pecia/api.Slip]", by decide,func171⟩
  f23:=⟨ "slices.choosePivotCmpFunc[pecia/api.Slip]", by decide,func172⟩
  f24:=⟨ "slices.reverseRangeCmpFunc[pecia/api.Slip]", by decide,func173⟩
  f25:=⟨ "slices.partialInsertionSortCmpFunc[pecia/api.Slip]", by decide,func174⟩
  f26:=⟨ "slices.partitionEqualCmpFunc[pecia/api.Slip]", by decide,func175⟩
  f27:=⟨ "slices.partitionCmpFunc[pecia/api.Slip]", by decide,func176⟩
  f28:=func177
  f29:=func178
  f46:=⟨ "slices.siftDownCmpFunc[pecia/api.Slip]", by decide,func183⟩
  f47:=func184
  f48:=func185
  f49:=⟨ "slices.medianAdjacentCmpFunc[pecia/api.Slip]", by decide,func186⟩
  f50:=⟨ "slices.medianCmpFunc[pecia/api.Slip]", by decide,func187⟩
  f57:=⟨ "slices.order2CmpFunc[pecia/api.Slip]", by decide,func191⟩
  t0:=underlying0
  a0:=isAgg0
  z0:=sizeOf0
  v0:=zeroValue0
  t3:=underlying3
  a3:=isAgg3
  z3:=sizeOf3
  v3:=zeroValue3
  t4:=underlying4
  a4:=isAgg4
  z4:=sizeOf4
  v4:=zeroValue4
  t5:=underlying5
  a5:=isAgg5
  z5:=sizeOf5
  v5:=zeroValue5
  t9:=underlying9
  a9:=isAgg9
  z9:=sizeOf9
  v9:=zeroValue9
  t22:=underlying31
  a22:=isAgg31
  z22:=sizeOf31
  v22:=zeroValue31
  t25:=underlying192
  a25:=isAgg192
  z25:=sizeOf192
  v25:=zeroValue192
  t39:=underlying228
  a39:=isAgg228
  z39:=sizeOf228
  v39:=zeroValue228
  t45:=underlying249
  a45:=isAgg249
  z45:=sizeOf249
  v45:=zeroValue249
  t46:=underlying250
  a46:=isAgg250
  z46:=sizeOf250
  v46:=zeroValue250
  t50:=underlying147
  a50:=isAgg147
  z50:=sizeOf147
  v50:=zeroValue147
  t53:=underlying256
  a53:=isAgg256
  z53:=sizeOf256
  v53:=zeroValue256
  t55:=underlying258
  a55:=isAgg258
  z55:=sizeOf258
  v55:=zeroValue258
  t66:=underlying260
  a66:=isAgg260
  z66:=sizeOf260
  v66:=zeroValue260
  t70:=underlying174
  a70:=isAgg174
  z70:=sizeOf174
  v70:=zeroValue174
  t76:=underlying269
  a76:=isAgg269
  z76:=sizeOf269
  v76:=zeroValue269
  t77:=underlying270
  a77:=isAgg270
  z77:=sizeOf270
  v77:=zeroValue270
instance:Inhabited ak:=⟨⟨0,0,0,0,0⟩⟩
def lS (s:ak):List Int:=[s.k,s.a,s.i,s.l,s.w]
theorem JU (a b:ak):ltOf qD a b=decide (a.lt b):=by
 unfold ltOf
 exact decide_eq_decide.2 xav
theorem QD:SWO (ltOf qD) where
  irrefl x:=by rw[JU,decide_eq_false_iff_not];exact ak.JV x
  trans x y z h1 h2:=by rw[JU,decide_eq_true_eq] at *;exact ak.lt_trans h1 h2
  ntrans x y z h1 h2:=by
    rw[JU,decide_eq_false_iff_not] at *
    unfold ak.lt at *
    omega
theorem xnl:DQ qD=HK:=by
 funext a b
 unfold DQ HK
 rw[JU]
theorem QE (x y:ak)(h1:ltOf qD x y=false)(h2:ltOf qD y x=false):x=y:=by
 rw[JU,decide_eq_false_iff_not] at *
 rcases ak.Wi x y with h|h|h
 ·exact absurd h h1
 ·exact h
 exact absurd h h2
variable [bE] in
theorem QF {vh:af}{i n:Nat}{nl:Bool}{zs:List ak}(hg:vh.get i=some (.grow 5 (zs.map encS)))(hn:zs.length=n) :
  eN prog 117 [.grow i n nl,.func 118 [] []] vh fun r aq=>r=.bz []∧aq=vh.put i (.grow 5 ((zs.mergeSort HK).map encS)):=by
 have:=eN.zr1 QC (α:=ak) (k:=5) (by decide) (fun w=>isAgg48 w) (fun w=>sizeOf48 w) lS (fun _=>rfl) qD QD QE 118 call118 (fun x y w=>aI.cmp (a:=lS x) (b:=lS y) (@QB bE.no x y) w) (vh:=vh) (i:=i) (n:=n) (nl:=nl) (zs:=zs) hg hn
 rw[xnl] at this
 exact this
abbrev iV:Int:=1099511627776
theorem z5b {p:ay→Bool}(l:List ay):∀ {o:nN} {k:Nat},nO o k→100*(k:Int)+100*(l.length:Int)+100≤iV→(∀x∈l,0≤x.n∧x.n≤100)→l.foldl (fS p) (val iV o)=val iV (A2 o (l.filter p)):=by
 generalize hF:iV=F
 have Wj:F=1099511627776:=hF.symm
 induction l with
 |nil=>exact fun _ _ _=>rfl
 |cons x r ih=>
  intro o k h hf hx
  have h1:=hx x List.mem_cons_self
  have Nc:=fun y hy=>hx y (List.mem_cons_of_mem _ hy)
  simp only[List.length_cons] at hf
  have Wl:100*((k+1:Nat):Int)+100*(r.length:Int)+100≤F:=by omega
  have hs:100*(k:Int)+100≤F:=by omega
  have hl:100*(k:Int)<F:=by omega
  rw[List.foldl_cons,List.filter_cons]
  cases hp:p x with
  |false=>
   have:fS p (val F o) x=val F o:=by unfold fS;rw[if_neg (by simp[hp])]
   rw[this]
   exact ih (h.mono (Nat.le_succ k)) Wl Nc
  |true=>
   have:fS p (val F o) x=val F (oZ o x):=by
    unfold fS
    by_cases hv:val F o x.i x.j<F
    ·rw[if_pos ⟨by rw[← Wj];exact hv,hp⟩,Wm h hs h1.1 h1.2]
    rw[if_neg (fun hh=>hv (by rw[Wj] at *;exact hh.1)),z6q h hl hv]
   rw[this]
   exact ih (h.oZ h1.1 h1.2) Wl Nc
theorem zzy:bh (fun _ _=>(1099511627776:Int)) 0 0 0=val iV start:=by
 funext a b
 unfold bh val start
 split<;>rfl
theorem Wn {c:aj}(hr:Rt c)(p:ay→Bool):fwd c p=val iV (oD ((graph c).filter p)):=by
 unfold fwd
 rw[zzy]
 have:=HL hr
 exact z5b (graph c) nO.start (by simp only[iV];omega) (JW hr)
theorem z6t {c:aj}(hr:Rt c)(p:ay→Bool):nO (oD ((graph c).filter p)) 139258:=by
 have h:=(nO.foldl (l:=(graph c).filter p) nO.start fun x hx=>JW hr x (List.mem_filter.1 hx).1)
 refine h.mono ?_
 have h1:=HL hr
 have h2:=List.length_filter_le p (graph c)
 omega
theorem z5u {c:aj}(hr:Rt c):aS c=val iV (oD (graph c)):=by
 have:=Wn hr fun _=>true
 rwa [List.filter_eq_self.2 fun _ _=>rfl] at this
theorem z3q {c:aj}(hr:Rt c):nO (oD (graph c)) 139258:=by
 have:=z6t hr fun _=>true
 rwa [List.filter_eq_self.2 fun _ _=>rfl] at this
theorem Nd {c:aj}:∀(l:List (Nat×Nat)) {D:Nat→Nat→Int} {i j:Nat},Rt c→(∀q∈l,¬(i=c.t.length - q.1∧j=c.c.length - q.2))→l.foldl (ss c) D i j=D i j
 |[],_,_,_,_,_=>rfl
 |q::r,D,i,j,hr,h=>by
  rw[List.foldl_cons,Nd r hr fun q' cG=>h q' (List.mem_cons_of_mem _ cG)]
  have hq:=h q List.mem_cons_self
  unfold ss
  split
  ·rfl
  have:∀(l:List ay) (D:Nat→Nat→Int),(∀x∈l,x.i=c.t.length - q.1∧x.j=c.c.length - q.2)→l.foldl fT D i j=D i j:=by
   intro l
   induction l with
   |nil=>exact fun _ _=>rfl
   |cons x r ih=>
    intro D hx
    rw[List.foldl_cons,ih _ fun y hy=>hx y (List.mem_cons_of_mem _ hy)]
    have:=hx x List.mem_cons_self
    unfold fT bh
    rw[if_neg (by rw[this.1,this.2];exact hq)]
  rw[this _ _ fun x hx=>⟨(iz hr hx).fi,(iz hr hx).fj⟩]
  unfold bh
  rw[if_neg hq]
theorem Wo {i j:Nat}:∀(l:List ay) (D:Nat→Nat→Int),(∀x∈l,x.i=i∧x.j=j∧¬(x.i'=i∧x.j'=j))→l.foldl fT D i j=l.foldl (fun m x=>min m (D x.i' x.j'+x.n)) (D i j)
 |[],_,_=>rfl
 |x::r,D,h=>by
  obtain⟨h1,h2,h3⟩:=h x List.mem_cons_self
  rw[List.foldl_cons,Wo r _ fun y hy=>h y (List.mem_cons_of_mem _ hy),List.foldl_cons]
  have e1:fT D x i j=min (D i j) (D x.i' x.j'+x.n):=by unfold fT bh;rw[h1,h2,if_pos ⟨rfl,rfl⟩]
  rw[e1]
  have:∀(l:List ay) (m:Int),(∀y∈l,¬(y.i'=i∧y.j'=j))→l.foldl (fun m y=>min m (fT D x y.i' y.j'+y.n)) m=l.foldl (fun m y=>min m (D y.i' y.j'+y.n)) m:=by
   intro l
   induction l with
   |nil=>exact fun _ _=>rfl
   |cons y r ih=>
    intro m hy
    rw[List.foldl_cons,List.foldl_cons,ih _ fun z hz=>hy z (List.mem_cons_of_mem _ hz)]
    have e2:fT D x y.i' y.j'=D y.i' y.j':=by unfold fT bh;rw[h1,h2,if_neg (hy y List.mem_cons_self)]
    rw[e2]
  exact this r _ fun y hy=>(h y (List.mem_cons_of_mem _ hy)).2.2
theorem DS {c:aj}(hr:Rt c):bwd c c.t.length c.c.length=0:=by
 obtain⟨r,hp⟩:=Qn c (Nat.zero_le _) (Nat.zero_le _)
 have hp:places c=(0,0)::r:=by rw[hp];rfl
 have hl:=Nf c
 rw[hp,List.pairwise_cons] at hl
 unfold bwd
 rw[hp,List.foldl_cons]
 have e0:ss c (bh (fun _ _=>1099511627776) c.t.length c.c.length 0) (0,0)=bh (fun _ _=>1099511627776) c.t.length c.c.length 0:=by unfold ss;rw[if_pos ⟨rfl,rfl⟩]
 rw[e0,Nd r hr fun q hq=>?_]
 ·unfold bh;rw[if_pos ⟨rfl,rfl⟩]
 have h1:=hl.1 q hq
 have h2:q∈places c:=by rw[hp];exact List.mem_cons_of_mem _ hq
 have h3:=xQ.1 (show (q.1,q.2)∈places c from h2)
 unfold vM at h1
 simp only at h1
 omega
theorem Wp {c:aj}(hr:Rt c){i j:Nat}(hi:i≤c.t.length)(hj:j≤c.c.length)(he:¬(i=c.t.length∧j=c.c.length)) :
  bwd c i j=(steps c i j).foldl (fun m x=>min m (bwd c x.i' x.j'+x.n)) iV:=by
 obtain⟨a,ha⟩:∃a,a=c.t.length - i:=⟨_,rfl⟩
 obtain⟨b,hb⟩:∃b,b=c.c.length - j:=⟨_,rfl⟩
 obtain⟨mX,hp⟩:=Qn c (i:=a) (j:=b) (by omega) (by omega)
 obtain⟨pre,wz⟩:∃pre,pre=mI (c.c.length+1) a b:=⟨_,rfl⟩
 rw[← wz] at hp
 have hl:=Nf c
 rw[hp,List.pairwise_append,List.pairwise_cons] at hl
 obtain⟨_,⟨lk,_⟩,BW⟩:=hl
 obtain⟨D,hD⟩:∃D,pre.foldl (ss c) (bh (fun _ _=>1099511627776) c.t.length c.c.length 0)=D:=⟨_,rfl⟩
 have eM:bwd c=mX.foldl (ss c) (ss c D (a,b)):=by unfold bwd;rw[hp,List.foldl_append,List.foldl_cons,hD]
 have cr:bwd c=((a,b)::mX).foldl (ss c) D:=eM
 have dC:∀q∈mX,q.1≤c.t.length∧q.2≤c.c.length:=fun q hq=>xQ.1 (show (q.1,q.2)∈places c by rw[hp];exact List.mem_append_right _ (List.mem_cons_of_mem _ hq))
 have h1:bwd c i j=ss c D (a,b) i j:=by
  rw[eM]
  refine Nd mX hr fun q hq=>?_
  have:=lk q hq
  have:=dC q hq
  unfold vM at *
  simp only at *
  omega
 have lN:¬(a=0∧b=0):=by omega
 have ei:c.t.length - a=i:=by omega
 have ej:c.c.length - b=j:=by omega
 rw[h1]
 unfold ss
 rw[if_neg lN]
 simp only[ei,ej]
 have hx:∀x∈steps c i j,x.i=i∧x.j=j∧¬(x.i'=i∧x.j'=j):=fun x hx=>by
  have:=iz hr hx
  have h1:=this.wP;have h2:=this.vL;have h3:=this.on
  exact⟨this.fi,this.fj,by omega⟩
 rw[Wo _ _ hx]
 have e0:bh D i j 1099511627776 i j=iV:=by unfold bh;rw[if_pos ⟨rfl,rfl⟩]
 rw[e0]
 have:∀(l:List ay) (m:Int),(∀x∈l,x∈steps c i j)→l.foldl (fun m x=>min m (bh D i j 1099511627776 x.i' x.j'+x.n)) m=l.foldl (fun m x=>min m (bwd c x.i' x.j'+x.n)) m:=by
  intro l
  induction l with
  |nil=>exact fun _ _=>rfl
  |cons x r ih=>
   intro m hm
   rw[List.foldl_cons,List.foldl_cons,ih _ fun y hy=>hm y (List.mem_cons_of_mem _ hy)]
   have oP:=hm x List.mem_cons_self
   have ho:=iz hr oP
   have h1:=ho.wP;have h2:=ho.vL;have h3:=ho.on;have h4:=ho.it;have h5:=ho.jt
   have e1:bh D i j 1099511627776 x.i' x.j'=D x.i' x.j':=by unfold bh;rw[if_neg (hx x oP).2.2]
   have e2:bwd c x.i' x.j'=D x.i' x.j':=by
    rw[cr]
    refine Nd _ hr fun q hq=>?_
    rcases List.mem_cons.1 hq with rfl|hq
    ·simp only;omega
    have:=lk q hq
    have:=dC q hq
    unfold vM at *
    simp only at *
    omega
   rw[e1,e2]
 exact this _ _ fun x hx=>hx
theorem Wq {f:ay→Int}:∀(l:List ay) (m:Int),l.foldl (fun m x=>min m (f x)) m≤m∧∀x∈l,l.foldl (fun m x=>min m (f x)) m≤f x
 |[],m=>⟨Int.le_refl _,fun x hx=>by cases hx⟩
 |a::r,m=>by
  obtain⟨h1,h2⟩:=Wq (f:=f) r (min m (f a))
  rw[List.foldl_cons]
  refine⟨by omega,fun x hx=>?_⟩
  rcases List.mem_cons.1 hx with rfl|hx
  ·omega
  exact h2 x hx
theorem Ws {f:ay→Int}:∀(l:List ay) (m:Int),l.foldl (fun m x=>min m (f x)) m=m∨∃x∈l,l.foldl (fun m x=>min m (f x)) m=f x
 |[],m=>.inl rfl
 |a::r,m=>by
  rw[List.foldl_cons]
  rcases Ws (f:=f) r (min m (f a)) with h|⟨x,hx,h⟩
  ·rw[h]
   rcases Int.le_total m (f a) with hm|hm
   ·exact .inl (by omega)
   exact .inr ⟨a,List.mem_cons_self,by omega⟩
  exact .inr ⟨x,List.mem_cons_of_mem _ hx,h⟩
theorem Wt {c:aj}(hr:Rt c){i j:Nat}(hi:i<c.t.length)(hj:j≤c.c.length):(⟨i,j,i+1,j,c.om,some ⟨2,i,j,0,0⟩⟩:ay)∈steps c i j:=by
 unfold steps
 refine List.mem_append_right _ (List.mem_filterMap.2 ⟨⟨2,i,j,0,0⟩,?_,?_⟩)
 ·unfold nZ;simp
 have hd:aM c ⟨2,i,j,0,0⟩=some (c.om,i+1,[]):=by
  unfold aM
  rw[if_pos (by simp;omega)]
  simp[hi]
 have hb:hasB c j []=true:=by unfold hasB;simp;exact hj
 unfold stepOf
 rw[hd]
 simp only[hb,if_true]
 rfl
theorem Wu {c:aj}(hr:Rt c){i j:Nat}(hi:i≤c.t.length)(hj:j<c.c.length):(⟨i,j,i,j+1,c.ad,some ⟨6,i,j,0,c.c.getD j 0⟩⟩:ay)∈steps c i j:=by
 have hw:fB (c.c.getD j 0)=true:=hr.cok _ (Wv hj)
 unfold steps
 refine List.mem_append_right _ (List.mem_filterMap.2 ⟨⟨6,i,j,0,c.c.getD j 0⟩,?_,?_⟩)
 ·unfold nZ;simp[hj]
 have hd:aM c ⟨6,i,j,0,c.c.getD j 0⟩=some (c.ad,i,[c.c.getD j 0]):=by
  unfold aM
  rw[if_pos (by simp;omega)]
  simp only[show ¬((6:Int)=1) by decide,show ¬((6:Int)=2) by decide,show ¬((6:Int)=3) by decide,show ¬((6:Int)=4) by decide,show ¬((6:Int)=5) by decide,if_false,if_true]
  rw[if_pos ⟨hw,by simp⟩,Int.toNat_natCast]
 have hb:hasB c j [c.c.getD j 0]=true:=by
  unfold hasB
  rw[bW,decide_eq_true_eq,decide_eq_true_eq]
  refine⟨by simp;omega,?_⟩
  rw[List.getD_eq_getElem?_getD,List.getElem?_eq_getElem hj]
  simp only[List.length_singleton,Option.getD_some]
  rw[List.drop_eq_getElem_cons hj,List.take_succ_cons,List.take_zero]
 unfold stepOf
 rw[hd]
 simp only[hb,if_true]
 rfl
theorem zb {c:aj}{i j:Nat}{x:ay}(hi:i≤c.t.length)(hj:j≤c.c.length)(h:x∈steps c i j):x∈graph c:=HJ.2 ⟨i,j,hi,hj,h⟩
theorem rQ {c:aj}(hr:Rt c){x:ay}(h:x∈graph c):x∈steps c x.i x.j∧x.i≤c.t.length∧x.j≤c.c.length:=by
 obtain⟨i,j,hi,hj,hx⟩:=HJ.1 h
 have h1:=iz hr hx
 have e1:=h1.fi;have e2:=h1.fj
 subst e1;subst e2
 exact⟨hx,hi,hj⟩
theorem JX {c:aj}(hr:Rt c){x:ay}(h:x∈graph c):bwd c x.i x.j≤bwd c x.i' x.j'+x.n:=by
 obtain⟨h1,h2,h3⟩:=rQ hr h
 have ho:=iz hr h1
 by_cases he:x.i=c.t.length∧x.j=c.c.length
 ·have:=ho.wP;have:=ho.vL;have:=ho.on;have:=ho.it;have:=ho.jt
  omega
 rw[Wp hr h2 h3 he]
 exact(Wq (f:=fun x=>bwd c x.i' x.j'+x.n) _ _).2 x h1
theorem Ng {c:aj}(hr:Rt c):∀(k i j:Nat),i≤c.t.length→j≤c.c.length→(c.t.length - i)+(c.c.length - j)=k→bwd c i j≤100*(k:Int)
 |0,i,j,hi,hj,hk=>by
  obtain rfl:i=c.t.length:=by omega
  obtain rfl:j=c.c.length:=by omega
  rw[DS hr];simp
 |k+1,i,j,hi,hj,hk=>by
  by_cases h:i<c.t.length
  ·have h1:=JX hr (zb hi hj (Wt hr h hj))
   have h2:=Ng hr k (i+1) j (by omega) hj (by omega)
   have h3:=hr.om
   simp only at h1
   omega
  have mN:j<c.c.length:=by omega
  have h1:=JX hr (zb hi hj (Wu hr hi mN))
  have h2:=Ng hr k i (j+1) hi (by omega) (by omega)
  have h3:=hr.ad
  simp only at h1
  omega
theorem Ww {c:aj}(hr:Rt c){i j:Nat}(hi:i≤c.t.length)(hj:j≤c.c.length)(he:¬(i=c.t.length∧j=c.c.length)):∃x∈steps c i j,bwd c i j=bwd c x.i' x.j'+x.n:=by
 have h1:=Wp hr hi hj he
 rcases Ws (f:=fun x=>bwd c x.i' x.j'+x.n) (steps c i j) iV with h|⟨x,hx,h⟩
 ·exfalso
  rw[h] at h1
  have:=Ng hr _ i j hi hj rfl
  have:=hr.tl;have:=hr.cl
  simp only[iV] at h1
  omega
 exact⟨x,hx,h1.trans h⟩
theorem HM {c:aj}(hr:Rt c):∀(k i j:Nat),i≤c.t.length→j≤c.c.length→(c.t.length - i)+(c.c.length - j)≤k→∃w,Way (graph c) i j c.t.length c.c.length (bwd c i j) w
 |0,i,j,hi,hj,hk=>by
  obtain rfl:i=c.t.length:=by omega
  obtain rfl:j=c.c.length:=by omega
  rw[DS hr];exact⟨[],.nil _ _⟩
 |k+1,i,j,hi,hj,hk=>by
  by_cases he:i=c.t.length∧j=c.c.length
  ·obtain⟨rfl,rfl⟩:=he
   rw[DS hr];exact⟨[],.nil _ _⟩
  obtain⟨x,hx,h⟩:=Ww hr hi hj he
  have ho:=iz hr hx
  have h1:=ho.wP;have h2:=ho.vL;have h3:=ho.on;have h4:=ho.it;have h5:=ho.jt
  obtain⟨w,hw⟩:=HM hr k x.i' x.j' h4 h5 (by omega)
  refine⟨x::w,?_⟩
  have:=Way.cons x (zb hi hj hx) hw
  rw[ho.fi,ho.fj] at this
  rw[h,Int.add_comm]
  exact this
theorem Wx {c:aj}(hr:Rt c){i j:Nat}{n:Int}{w:List ay}(h:Way (graph c) i j c.t.length c.c.length n w):bwd c i j≤n:=by
 have:∀ {i j a b:Nat} {n:Int} {w:List ay},Way (graph c) i j a b n w→bwd c i j≤bwd c a b+n:=by
  intro i j a b n w h
  induction h with
  |nil i j=>omega
  |cons x hx h ih=>have:=JX hr hx;omega
 have:=this h
 rw[DS hr] at this
 omega
theorem QG {c:aj}(hr:Rt c):∀(k i j:Nat),i≤c.t.length→j≤c.c.length→i+j=k→∃n w,Way (graph c) 0 0 i j n w∧n≤100*(k:Int)
 |0,i,j,hi,hj,hk=>by
  obtain rfl:i=0:=by omega
  obtain rfl:j=0:=by omega
  exact⟨0,[],.nil 0 0,by simp⟩
 |k+1,i,j,hi,hj,hk=>by
  by_cases h:0<i
  ·obtain⟨a,rfl⟩:∃a,i=a+1:=⟨i - 1,by omega⟩
   obtain⟨n,w,hw,hn⟩:=QG hr k a j (by omega) hj (by omega)
   have hs:=zb (by omega) hj (Wt hr (show a<c.t.length by omega) hj)
   have h3:=hr.om
   exact⟨n+c.om,_,hw.snoc hs rfl rfl,by omega⟩
  obtain rfl:i=0:=by omega
  obtain⟨b,rfl⟩:∃b,j=b+1:=⟨j - 1,by omega⟩
  obtain⟨n,w,hw,hn⟩:=QG hr k 0 b hi (by omega) (by omega)
  have hs:=zb hi (by omega) (Wu hr hi (show b<c.c.length by omega))
  have h3:=hr.ad
  exact⟨n+c.ad,_,hw.snoc hs rfl rfl,by omega⟩
theorem Cg {c:aj}(hr:Rt c){i j:Nat}(hi:i≤c.t.length)(hj:j≤c.c.length):oD (graph c) i j=some (aS c i j)∧0≤aS c i j∧aS c i j≤100*((i:Int)+j):=by
 obtain⟨n,w,hw,hn⟩:=QG hr _ i j hi hj rfl
 obtain⟨v,h1,h2⟩:=Nh (JY hr) hw
 have h3:=z3q hr i j v h1
 rw[z5u hr,Ch h1]
 exact⟨h1,h3.1,by omega⟩
theorem JZ {c:aj}(hr:Rt c){i j:Nat}(hi:i≤c.t.length)(hj:j≤c.c.length):∃w,Way (graph c) 0 0 i j (aS c i j) w:=QH (Cg hr hi hj).1
theorem Wy {c:aj}(hr:Rt c){i j a b:Nat}{n:Int}{w:List ay}(h:Way (graph c) i j a b n w):i≤c.t.length→j≤c.c.length→a≤c.t.length∧b≤c.c.length:=by
 induction h with
 |nil i j=>exact fun h1 h2=>⟨h1,h2⟩
 |cons x hx h ih=>exact fun _ _=>ih (iz hr (rQ hr hx).1).it (iz hr (rQ hr hx).1).jt
theorem DU {c:aj}(hr:Rt c){i j:Nat}{n:Int}{w:List ay}(h:Way (graph c) 0 0 i j n w):aS c i j≤n:=by
 obtain⟨hi,hj⟩:=Wy hr h (Nat.zero_le _) (Nat.zero_le _)
 obtain⟨v,h1,h2⟩:=Nh (JY hr) h
 rw[(Cg hr hi hj).1] at h1
 injection h1 with h1
 omega
theorem Ni {c:aj}(hr:Rt c){x:ay}(h:x∈graph c):aS c x.i' x.j'≤aS c x.i x.j+x.n:=by
 obtain⟨h1,h2,h3⟩:=rQ hr h
 obtain⟨w,hw⟩:=JZ hr h2 h3
 exact DU hr (hw.snoc h rfl rfl)
theorem Nj {c:aj}(hr:Rt c):aS c 0 0=0:=by
 have h1:=DU hr (.nil 0 0)
 have h2:=(Cg hr (Nat.zero_le _) (Nat.zero_le _)).2.1
 omega
def eR (c:aj):Int:=aS c c.t.length c.c.length
theorem Nk {c:aj}(hr:Rt c):eR c=bwd c 0 0:=by
 obtain⟨w,hw⟩:=JZ hr (Nat.le_refl c.t.length) (Nat.le_refl c.c.length)
 have h1:=Wx hr hw
 obtain⟨w2,cR⟩:=HM hr _ 0 0 (Nat.zero_le _) (Nat.zero_le _) (Nat.le_refl _)
 have h2:=DU hr cR
 unfold eR
 omega
theorem QI {c:aj}(hr:Rt c){i j:Nat}(hi:i≤c.t.length)(hj:j≤c.c.length):eR c≤aS c i j+bwd c i j:=by
 obtain⟨w,hw⟩:=JZ hr hi hj
 obtain⟨w2,cR⟩:=HM hr _ i j hi hj (Nat.le_refl _)
 exact DU hr (hw.append cR)
theorem Wz {c:aj}(hr:Rt c){x:ay}(h:x∈graph c):eR c≤aS c x.i x.j+x.n+bwd c x.i' x.j':=by
 obtain⟨h1,h2,h3⟩:=rQ hr h
 have h4:=QI hr (iz hr h1).it (iz hr h1).jt
 have h5:=Ni hr h
 omega
theorem WA {c:aj}(hr:Rt c){i j:Nat}(hi:i≤c.t.length)(hj:j≤c.c.length)(he:¬(i=c.t.length∧j=c.c.length))(ht:aS c i j+bwd c i j=eR c):∃x∈steps c i j,iH c x=true:=by
 obtain⟨x,hx,h⟩:=Ww hr hi hj he
 refine⟨x,hx,?_⟩
 have ho:=iz hr hx
 unfold iH
 rw[decide_eq_true_eq,ho.fi,ho.fj]
 show _=eR c
 omega
theorem QJ {c:aj}(hr:Rt c){x:ay}(h:x∈graph c)(ht:iH c x=true):aS c x.i' x.j'+bwd c x.i' x.j'=eR c:=by
 unfold iH at ht
 rw[decide_eq_true_eq] at ht
 have h1:=Ni hr h
 obtain⟨h2,_,_⟩:=rQ hr h
 have h4:=QI hr (iz hr h2).it (iz hr h2).jt
 unfold eR at *
 omega
theorem z6z {c:aj}(hr:Rt c){x:ay}(h:x∈graph c)(ht:iH c x=true):aS c x.i x.j+bwd c x.i x.j=eR c:=by
 unfold iH at ht
 rw[decide_eq_true_eq] at ht
 have h1:=JX hr h
 obtain⟨_,h2,h3⟩:=rQ hr h
 have h4:=QI hr h2 h3
 unfold eR at *
 omega
theorem J7 {c:aj}(hr:Rt c){w:List ay}(h:Way (graph c) 0 0 c.t.length c.c.length (eR c) w):∀x∈w,iH c x=true:=by
 have:∀ {i j a b:Nat} {n:Int} {w:List ay},Way (graph c) i j a b n w→aS c i j+n+bwd c a b=eR c→∀x∈w,iH c x=true:=by
  intro i j a b n w h
  induction h with
  |nil i j=>exact fun _ x hx=>by cases hx
  | @cons x hx a b n l h ih=>
   intro hn y hy
   have h1:=Ni hr hx
   have hsx:=rQ hr hx
   have ho:=iz hr hsx.1
   have dC:=Wy hr h ho.it ho.jt
   have h2:eR c≤aS c x.i' x.j'+n+bwd c a b:=by
    obtain⟨w1,lr⟩:=JZ hr ho.it ho.jt
    obtain⟨w2,cR⟩:=HM hr _ a b dC.1 dC.2 (Nat.le_refl _)
    exact DU hr ((lr.append h).append cR)
   rcases List.mem_cons.1 hy with rfl|hy
   ·unfold iH
    rw[decide_eq_true_eq]
    have h3:=Wz hr hx
    have h4:bwd c y.i' y.j'≤n+bwd c a b:=by
     have:∀ {i j a b:Nat} {n:Int} {w:List ay},Way (graph c) i j a b n w→bwd c i j≤bwd c a b+n:=by
      intro i j a b n w h
      induction h with
      |nil i j=>omega
      |cons x hx h ih=>have:=JX hr hx;omega
     have:=this h
     omega
    show _=eR c
    omega
   exact ih (by omega) y hy
 exact this h (by rw[Nj hr,DS hr];omega)
def xW (c:aj)(i j:Nat):Option ay:=(steps c i j).find? (iH c)
def DV (c:aj):Nat→Nat→Nat→List ay
 |0,_,_=>[]
 |n+1,i,j=>match xW c i j with
  |some x=>x::DV c n x.i' x.j'
  |none=>[]
def rR (c:aj):List ay:=DV c (c.t.length+c.c.length) 0 0
def fU (l:List ay):List ak:=l.filterMap (·.s)
def lH (c:aj):List ak:=fU (rR c)
theorem z3x {c:aj}(hr:Rt c):steps c c.t.length c.c.length=[]:=by
 refine List.eq_nil_iff_forall_not_mem.2 fun x hx=>?_
 have h:=iz hr hx
 have:=h.wP;have:=h.vL;have:=h.on;have:=h.it;have:=h.jt
 omega
theorem QK {c:aj}(hr:Rt c):xW c c.t.length c.c.length=none:=by unfold xW;rw[z3x hr];rfl
theorem QL {c:aj}{i j:Nat}{x:ay}(h:xW c i j=some x):x∈steps c i j∧iH c x=true:=⟨List.mem_of_find?_eq_some h,List.find?_some h⟩
theorem z1g {c:aj}{i j:Nat}{pre mX:List ay}{x:ay}(h:steps c i j=pre++x::mX)(hp:∀y∈pre,iH c y=false)(hx:iH c x=true):xW c i j=some x:=by
 unfold xW
 rw[h,List.find?_append,List.find?_eq_none.2 fun y hy=>by simp[hp y hy]]
 simp[hx]
theorem z5q {c:aj}(hr:Rt c){i j:Nat}(hi:i≤c.t.length)(hj:j≤c.c.length)(he:¬(i=c.t.length∧j=c.c.length))(ht:aS c i j+bwd c i j=eR c):xW c i j≠none:=fun h=>by
 obtain⟨x,hx,h2⟩:=WA hr hi hj he ht
 unfold xW at h
 have:=List.find?_eq_none.1 h x hx
 exact this h2
theorem HN (c:aj)(n i j:Nat):DV c (n+1) i j=match xW c i j with|some x=>x::DV c n x.i' x.j'|none=>[]:=rfl
theorem WB {c:aj}(hr:Rt c):∀(n m i j:Nat),i≤c.t.length→j≤c.c.length→(c.t.length - i)+(c.c.length - j)≤n→(c.t.length - i)+(c.c.length - j)≤m→DV c n i j=DV c m i j
 |0,0,_,_,_,_,_,_=>rfl
 |0,m+1,i,j,hi,hj,h1,h2=>by
  obtain rfl:i=c.t.length:=by omega
  obtain rfl:j=c.c.length:=by omega
  rw[HN,QK hr];rfl
 |n+1,0,i,j,hi,hj,h1,h2=>by
  obtain rfl:i=c.t.length:=by omega
  obtain rfl:j=c.c.length:=by omega
  rw[HN,QK hr];rfl
 |n+1,m+1,i,j,hi,hj,h1,h2=>by
  rw[HN,HN]
  cases hx:xW c i j with
  |none=>rfl
  |some x=>
   have ho:=iz hr (QL hx).1
   have:=ho.wP;have:=ho.vL;have:=ho.on;have:=ho.it;have:=ho.jt
   simp only
   rw[WB hr n m x.i' x.j' ho.it ho.jt (by omega) (by omega)]
def FL (c:aj)(i j:Nat):List ay:=DV c ((c.t.length - i)+(c.c.length - j)) i j
theorem xk0 (c:aj):FL c 0 0=rR c:=rfl
theorem xb5 (c:aj):FL c c.t.length c.c.length=[]:=by unfold FL;rw[Nat.sub_self,Nat.sub_self];rfl
theorem z7i {c:aj}(hr:Rt c){i j:Nat}{x:ay}(hi:i≤c.t.length)(hj:j≤c.c.length)(h:xW c i j=some x):FL c i j=x::FL c x.i' x.j':=by
 have ho:=iz hr (QL h).1
 have:=ho.wP;have:=ho.vL;have:=ho.on;have:=ho.it;have:=ho.jt
 obtain⟨n,hn⟩:∃n,(c.t.length - i)+(c.c.length - j)=n+1:=⟨(c.t.length - i)+(c.c.length - j) - 1,by omega⟩
 unfold FL
 rw[hn,HN,h]
 simp only
 rw[WB hr n _ x.i' x.j' ho.it ho.jt (by omega) (Nat.le_refl _)]
theorem WC {c:aj}(hr:Rt c):∀(n i j:Nat),i≤c.t.length→j≤c.c.length→(c.t.length - i)+(c.c.length - j)≤n→aS c i j+bwd c i j=eR c→Way (graph c) i j c.t.length c.c.length (bwd c i j) (DV c n i j)
 |0,i,j,hi,hj,hn,ht=>by
  obtain rfl:i=c.t.length:=by omega
  obtain rfl:j=c.c.length:=by omega
  rw[DS hr];exact .nil _ _
 |n+1,i,j,hi,hj,hn,ht=>by
  rw[HN]
  by_cases he:i=c.t.length∧j=c.c.length
  ·obtain⟨rfl,rfl⟩:=he
   rw[QK hr,DS hr];exact .nil _ _
  cases hx:xW c i j with
  |none=>exact absurd hx (z5q hr hi hj he ht)
  |some x=>
   obtain⟨h1,h2⟩:=QL hx
   have ho:=iz hr h1
   have:=ho.wP;have:=ho.vL;have:=ho.on;have:=ho.it;have:=ho.jt
   have hg:=zb hi hj h1
   have h3:=QJ hr hg h2
   have hw:=Way.cons x hg (WC hr n x.i' x.j' ho.it ho.jt (by omega) h3)
   unfold iH at h2
   rw[decide_eq_true_eq,ho.fi,ho.fj] at h2
   rw[ho.fi,ho.fj] at hw
   have e:x.n+bwd c x.i' x.j'=bwd c i j:=by unfold eR at ht;omega
   rwa [e] at hw
theorem zc {c:aj}(hr:Rt c):Way (graph c) 0 0 c.t.length c.c.length (eR c) (rR c):=by
 have:=WC hr (c.t.length+c.c.length) 0 0 (Nat.zero_le _) (Nat.zero_le _) (by omega) (by rw[Nj hr,Nk hr];omega)
 rw[Nk hr];exact this
theorem xah {c:aj}(hr:Rt c){i j a b:Nat}{n:Int}{w:List ay}(h:Way (graph c) i j a b n w):i+j+w.length≤a+b:=by
 induction h with
 |nil i j=>simp
 |cons x hx h ih=>
  have ho:=iz hr (rQ hr hx).1
  have:=ho.wP;have:=ho.vL;have:=ho.on
  rw[List.length_cons];omega
theorem xcp (l:List ay):(fU l).length≤l.length:=List.length_filterMap_le _ _
theorem QM {c:aj}(hr:Rt c){n:Int}{w:List ay}(h:Way (graph c) 0 0 c.t.length c.c.length n w):(fU w).length≤96:=by
 have h1:=xah hr h
 have h2:=xcp w
 have:=hr.tl;have:=hr.cl
 omega
theorem WD {α:Type}[Inhabited α]{l:List α}{d:α}{i k:Nat}(h:i+k<l.length):(l.drop i).take (k+1)=(l.drop i).take k++[l.getD (i+k) d]:=by
 have h1:k<(l.drop i).length:=by rw[List.length_drop];omega
 rw[List.take_succ_eq_append_getElem h1]
 congr 2
 rw[List.getElem_drop,List.getD_eq_getElem?_getD,List.getElem?_eq_getElem h];rfl
theorem z7e {c:aj}{i j:Nat}(hi:i<c.t.length)(hj:j<c.c.length)(h:c.t.getD i 0=c.c.getD j 0):(⟨i,j,i+1,j+1,0,none⟩:ay)∈steps c i j:=by
 unfold steps;rw[if_pos ⟨hi,hj,h⟩];simp
theorem Nl {c:aj}(hr:Rt c){i j:Nat}{x:ay}(h:x∈steps c i j) :
  (x=⟨i,j,i+1,j+1,0,none⟩∧i<c.t.length∧j<c.c.length∧c.t.getD i 0=c.c.getD j 0)∨
  ∃s n i' w,x=⟨i,j,i',j+w.length,n,some s⟩∧s∈nZ c i j∧aM c s=some (n,i',w)∧hasB c j w=true:=by
 unfold steps at h
 rcases List.mem_append.1 h with h|h
 ·split at h
  ·rename_i hc
   rw[List.mem_singleton] at h
   exact .inl ⟨h,hc.1,hc.2.1,hc.2.2⟩
  cases h
 obtain⟨s,hs,he⟩:=List.mem_filterMap.1 h
 unfold stepOf at he
 split at he
 ·rename_i n i' w hd
  split at he
  ·rename_i hb
   injection he with he
   exact .inr ⟨s,n,i',w,he.symm,hs,hd,hb⟩
  cases he
 cases he
theorem z1n {c:aj}{j:Nat}{w:List Int}(h:hasB c j w=true):c.c.take (j+w.length)=c.c.take j++w∧j+w.length≤c.c.length:=by
 unfold hasB at h
 rw[bW,decide_eq_true_eq,decide_eq_true_eq] at h
 exact⟨by rw[List.take_add,h.2],h.1⟩
theorem zyg {c:aj}(hr:Rt c){a b a' b':Nat}{n:Int}{w:List ay}(h:Way (graph c) a b a' b' n w):a'=c.t.length→b'=c.c.length→∀(out:List Int) (i:Nat) (sum:Int),i≤a→out++(c.t.drop i).take (a - i)=c.c.take b→a≤c.t.length→b≤c.c.length→oc c (fU w) out i sum=some (c.c,sum+n):=by
 induction h with
 |nil a b=>
  rintro rfl rfl out i sum hi hb _ _
  show some (out++c.t.drop i,sum)=_
  have e:(c.t.drop i).take (c.t.length - i)=c.t.drop i:=List.take_of_length_le (by rw[List.length_drop];omega)
  rw[e,List.take_of_length_le (Nat.le_refl _)] at hb
  rw[hb,Int.add_zero]
 | @cons x hx a' b' n w h ih=>
  rintro h1 h2 out i sum hi hb ha I9
  obtain⟨oP,_,_⟩:=rQ hr hx
  rcases Nl hr oP with⟨e,mU,im,tf⟩|⟨s,m,i',ws,e,hs,hd,hh⟩
  ·obtain⟨dB,mN,oO,uE⟩:x.i'=x.i+1∧x.j'=x.j+1∧x.n=0∧x.s=none:=by rw[e];exact⟨rfl,rfl,rfl,rfl⟩
   have fP:fU (x::w)=fU w:=by unfold fU;rw[List.filterMap_cons,uE]
   rw[fP,oO,Int.zero_add]
   refine ih h1 h2 out i sum (by omega) ?_ (by omega) (by omega)
   rw[dB,mN]
   have e1:x.i+1 - i=(x.i - i)+1:=by omega
   rw[e1,WD (d:=0) (by omega),← List.append_assoc,hb,show i+(x.i - i)=x.i by omega,tf]
   have:=WD (l:=c.c) (d:=0) (i:=0) (k:=x.j) (by omega)
   rw[List.drop_zero,Nat.zero_add] at this
   exact this.symm
  obtain⟨dB,mN,oO,uE⟩:x.i'=i'∧x.j'=x.j+ws.length∧x.n=m∧x.s=some s:=by rw[e];exact⟨rfl,rfl,rfl,rfl⟩
  obtain⟨f1,f2⟩:=Ci hs
  have fP:fU (x::w)=s::fU w:=by unfold fU;rw[List.filterMap_cons,uE]
  rw[fP]
  unfold oc
  rw[if_pos (by rw[f1];omega),hd]
  simp only
  have e2:s.a.toNat=x.i:=by rw[f1];simp
  rw[e2,hb,f2,List.length_take,Nat.min_eq_left (by omega),if_pos rfl]
  obtain⟨g1,g2⟩:=z1n hh
  have ho:=iz hr oP
  rw[ih h1 h2 (c.c.take x.j++ws) i' (sum+m) (by omega) (by rw[dB,Nat.sub_self,List.take_zero,List.append_nil,mN,g1]) ho.it ho.jt,oO,Int.add_assoc]
theorem WE {c:aj}(hr:Rt c){n:Int}{w:List ay}(h:Way (graph c) 0 0 c.t.length c.c.length n w):bP c (fU w)=some n:=by
 have h1:=zyg hr h rfl rfl [] 0 0 (Nat.le_refl _) (by simp) (Nat.zero_le _) (Nat.zero_le _)
 have h2:=QM hr h
 unfold bP fu
 rw[if_neg (by omega),h1]
 simp
theorem QN {c:aj}:∀(k i j:Nat),i+k≤c.t.length→j+k≤c.c.length→(c.t.drop i).take k=(c.c.drop j).take k→∃w,Way (graph c) i j (i+k) (j+k) 0 w∧fU w=[]
 |0,i,j,_,_,_=>⟨[],.nil _ _,rfl⟩
 |k+1,i,j,hi,hj,h=>by
  have h1:c.t.getD i 0=c.c.getD j 0:=by
   have:=congrArg (fun l:List Int=>l.getD 0 0) h
   simp only[List.getD_eq_getElem?_getD] at this ⊢
   rw[List.getElem?_take_of_lt (by omega),List.getElem?_take_of_lt (by omega),List.getElem?_drop,List.getElem?_drop] at this
   simpa using this
  have h2:(c.t.drop (i+1)).take k=(c.c.drop (j+1)).take k:=by
   have:=congrArg List.tail h
   rw[List.drop_eq_getElem_cons (show i<c.t.length by omega),List.drop_eq_getElem_cons (show j<c.c.length by omega),List.take_succ_cons,List.take_succ_cons] at this
   exact this
  obtain⟨w,hw,hs⟩:=QN k (i+1) (j+1) (by omega) (by omega) h2
  have:=Way.cons ⟨i,j,i+1,j+1,0,none⟩ (zb (by omega) (by omega) (z7e (by omega) (by omega) h1)) hw
  refine⟨_,by simpa[Nat.add_assoc,Nat.add_comm 1 k] using this,?_⟩
  unfold fU at hs ⊢
  rw[List.filterMap_cons,hs]
theorem z3g {c:aj}{s:ak}{n:Int}{i':Nat}{w:List Int}(hd:aM c s=some (n,i',w))(hh:hasB c s.i.toNat w=true):s∈nZ c s.a.toNat s.i.toNat:=by
 have one:∀x:Int,hasB c s.i.toNat [x]=true→s.i.toNat<c.c.length∧c.c.getD s.i.toNat 0=x:=fun x hx=>by
  unfold hasB at hx
  rw[bW,decide_eq_true_eq,decide_eq_true_eq] at hx
  have hl:s.i.toNat<c.c.length:=by have:=hx.1;simp at this;omega
  refine⟨hl,?_⟩
  have:=hx.2
  rw[List.drop_eq_getElem_cons hl] at this
  simp only[List.length_singleton,List.take_succ_cons,List.take_zero,List.cons.injEq,and_true] at this
  rw[List.getD_eq_getElem?_getD,List.getElem?_eq_getElem hl];exact this
 unfold aM at hd
 split at hd
 ·rename_i dC
  obtain⟨h1,h2,h3⟩:=dC
  simp only at hd
  have ea:((s.a.toNat:Nat):Int)=s.a:=by omega
  have ei:((s.i.toNat:Nat):Int)=s.i:=by omega
  unfold nZ
  rw[ea,ei]
  simp only[List.mem_append,List.mem_map,List.mem_range,List.mem_singleton]
  obtain⟨k,a,i,l,ww⟩:=s
  simp only at *
  split at hd
  ·rename_i hk;subst hk
   split at hd
   ·rename_i hc
    obtain⟨m,hm,he⟩:=Option.map_eq_some_iff.1 hd
    injection he with e1 e2;injection e2 with e2 e3
    subst e3
    obtain⟨g1,g2⟩:=one _ hh
    refine .inl (.inl (.inl (.inl (.inl ?_))))
    rw[if_pos g1,g2,hc.2];simp
   cases hd
  split at hd
  ·rename_i hk;subst hk
   split at hd
   ·rename_i hc
    refine .inl (.inl (.inl (.inl (.inr ?_))))
    rw[hc.2.1,hc.2.2]
   cases hd
  split at hd
  ·rename_i hk;subst hk
   split at hd
   ·rename_i hc
    refine .inl (.inl (.inl (.inr ⟨l.toNat - 1,by omega,?_⟩)))
    rw[hc.2.2.2.1];congr 1;omega
   cases hd
  split at hd
  ·rename_i hk;subst hk
   split at hd
   ·rename_i hc
    refine .inl (.inl (.inr ⟨l.toNat - 1,by omega,?_⟩))
    rw[hc.2.2];congr 1;omega
   cases hd
  split at hd
  ·rename_i hk;subst hk
   split at hd
   ·rename_i hc
    refine .inl (.inr ⟨l.toNat,by omega,?_⟩)
    rw[hc.2.2.1];congr 1;omega
   cases hd
  split at hd
  ·rename_i hk;subst hk
   split at hd
   ·rename_i hc
    injection hd with he;injection he with e1 e2;injection e2 with e2 e3
    subst e3
    obtain⟨g1,g2⟩:=one _ hh
    refine .inr ?_
    rw[if_pos g1,g2,hc.2];simp
   cases hd
  cases hd
 cases hd
theorem WG {c:aj}{s:ak}{n:Int}{i':Nat}{w:List Int}(hd:aM c s=some (n,i',w))(hh:hasB c s.i.toNat w=true):(⟨s.a.toNat,s.i.toNat,i',s.i.toNat+w.length,n,some s⟩:ay)∈steps c s.a.toNat s.i.toNat:=by
 unfold steps
 refine List.mem_append_right _ (List.mem_filterMap.2 ⟨s,z3g hd hh,?_⟩)
 unfold stepOf
 rw[hd];simp only[hh,if_true]
theorem WH {c:aj}:∀(l:List ak) (out:List Int) (i:Nat) (sum:Int) {o:List Int} {m:Int},oc c l out i sum=some (o,m)→∃r,o=out++r
 |[],out,i,sum,o,m,h=>by
  unfold oc at h;injection h with h;injection h with h1 h2;exact⟨_,h1.symm⟩
 |s::r,out,i,sum,o,m,h=>by
  unfold oc at h
  split at h
  ·split at h
   ·rename_i n i' w hd
    split at h
    ·obtain⟨q,hq⟩:=WH r _ _ _ h
     exact⟨(c.t.drop i).take (s.a.toNat - i)++(w++q),by rw[hq];simp only[List.append_assoc]⟩
    cases h
   cases h
  cases h
theorem WJ {c:aj}(hr:Rt c):∀(l:List ak) (out:List Int) (i:Nat) (sum m:Int),i≤c.t.length→oc c l out i sum=some (c.c,m)→∃w,Way (graph c) i out.length c.t.length c.c.length (m - sum) w∧fU w=l
 |[],out,i,sum,m,hi,h=>by
  unfold oc at h;injection h with h;injection h with h1 h2
  have hl:out.length+(c.t.length - i)=c.c.length:=by rw[← h1];simp
  obtain⟨w,hw,hs⟩:=QN (c:=c) (c.t.length - i) i out.length (by omega) (by omega) (by rw[← h1];simp)
  refine⟨w,?_,hs⟩
  rw[show i+(c.t.length - i)=c.t.length by omega,hl] at hw
  rw[h2,Int.sub_self];exact hw
 |s::r,out,i,sum,m,hi,h=>by
  unfold oc at h
  split at h
  ·rename_i dC
   split at h
   ·rename_i n i' ws hd
    split at h
    ·rename_i qw
     obtain⟨q,hq⟩:=WH r _ _ _ h
     obtain⟨d1,d2,d3,d4,d5,d6⟩:=nI hr hd
     obtain⟨w,hw,hs⟩:=WJ hr r _ i' (sum+n) m d4 h
     have ee:((c.t.drop i).take (s.a.toNat - i)).length=s.a.toNat - i:=by rw[List.length_take,List.length_drop];omega
     have eV:s.i.toNat=out.length+(s.a.toNat - i):=by rw[qw,List.length_append,ee];omega
     have fx:=congrArg List.length hq
     simp only[List.length_append,ee] at fx
     have e1:(c.t.drop i).take (s.a.toNat - i)=(c.c.drop out.length).take (s.a.toNat - i):=by
      rw[hq]
      simp only[List.append_assoc,List.drop_left']
      rw[List.take_left' ee]
     have hb:hasB c s.i.toNat ws=true:=by
      unfold hasB
      rw[bW,decide_eq_true_eq,decide_eq_true_eq,eV]
      refine⟨by omega,?_⟩
      rw[hq,List.append_assoc (out++_) ws q,List.drop_left' (by rw[List.length_append,ee]),List.take_left' rfl]
     obtain⟨w1,lr,mT⟩:=QN (c:=c) (s.a.toNat - i) i out.length (by omega) (by omega) e1
     have cS:=WG hd hb
     have hsg:(⟨s.a.toNat,s.i.toNat,i',s.i.toNat+ws.length,n,some s⟩:ay)∈graph c:=zb (by omega) (by omega) cS
     rw[show (out++(c.t.drop i).take (s.a.toNat - i)++ws).length=s.i.toNat+ws.length by simp only[List.length_append,ee];omega] at hw
     have h2:=Way.cons _ hsg hw
     simp only at h2
     rw[show i+(s.a.toNat - i)=s.a.toNat by omega,← eV] at lr
     have h3:=lr.append h2
     refine⟨_,by rw[show 0+(n+(m - (sum+n)))=m - sum by omega] at h3;exact h3,?_⟩
     unfold fU at hs mT ⊢
     rw[List.filterMap_append,mT,List.filterMap_cons,hs];rfl
    cases h
   cases h
  cases h
theorem WK {c:aj}(hr:Rt c){l:List ak}{n:Int}:bP c l=some n↔∃w,Way (graph c) 0 0 c.t.length c.c.length n w∧fU w=l:=by
 constructor
 ·intro h
  unfold bP at h
  split at h
  ·cases h
  split at h
  ·rename_i o m hw
   split at h
   ·rename_i ho
    injection h with h
    subst h;subst ho
    unfold fu at hw
    obtain⟨w,h1,h2⟩:=WJ hr l [] 0 0 m (Nat.zero_le _) hw
    rw[Int.sub_zero] at h1
    exact⟨w,h1,h2⟩
   cases h
  cases h
 rintro⟨w,h1,rfl⟩
 exact WE hr h1
theorem J8 {c:aj}(hr:Rt c):bP c (lH c)=some (eR c):=WE hr (zc hr)
theorem QO {c:aj}(hr:Rt c){l:List ak}{n:Int}(h:bP c l=some n):eR c≤n:=by
 obtain⟨w,hw,_⟩:=(WK hr).1 h
 exact DU hr hw
theorem WL (l m:List ay):fU (l++m)=fU l++fU m:=List.filterMap_append
theorem z8f {c:aj}{i j:Nat}{s:ak}(hs:s∈nZ c i j):((stepOf c i j s).bind (·.s))=if pG c s=true then some s else none:=by
 obtain⟨_,hi⟩:=Ci hs
 unfold stepOf pG
 cases aM c s with
 |none=>rfl
 |some y=>
  obtain⟨n,i',w⟩:=y
  simp only[hi,Int.toNat_natCast]
  split<;>rfl
theorem z3k (c:aj)(i j:Nat):fU (steps c i j)=rh c i j:=by
 unfold steps rh
 rw[WL]
 have e1:fU (if i<c.t.length∧j<c.c.length∧c.t.getD i 0=c.c.getD j 0 then [(⟨i,j,i+1,j+1,0,none⟩:ay)] else [])=[]:=by split<;>rfl
 rw[e1,List.nil_append]
 unfold fU
 rw[List.filterMap_filterMap]
 have:∀l:List ak,(∀s∈l,s∈nZ c i j)→l.filterMap (fun s=>(stepOf c i j s).bind (·.s))=l.filter (pG c):=by
  intro l
  induction l with
  |nil=>exact fun _=>rfl
  |cons s r ih=>
   intro h
   rw[List.filterMap_cons,z8f (h s List.mem_cons_self),List.filter_cons]
   cases pG c s with
   |true=>simp only[if_true];rw[ih fun x hx=>h x (List.mem_cons_of_mem _ hx)]
   |false=>simp only[Bool.false_eq_true,if_false];exact ih fun x hx=>h x (List.mem_cons_of_mem _ hx)
 exact this _ fun _ h=>h
theorem z7x (c:aj)(l:List (Nat×Nat)):fU (l.flatMap fun p=>steps c p.1 p.2)=l.flatMap fun p=>rh c p.1 p.2:=by
 induction l with
 |nil=>rfl
 |cons p r ih=>rw[List.flatMap_cons,WL,z3k,ih,List.flatMap_cons]
theorem ztz (c:aj):(fU (graph c)).Pairwise ak.lt:=by
 unfold graph
 rw[z7x,List.pairwise_flatMap]
 refine⟨fun p _=>(WM c p.1 p.2).filter _,(Nf c).imp fun {p q} h x hx y hy=>?_⟩
 obtain⟨a1,a2⟩:=Ci (List.mem_filter.1 hx).1
 obtain⟨b1,b2⟩:=Ci (List.mem_filter.1 hy).1
 unfold ak.lt
 unfold vM at h
 omega
theorem WN {c:aj}{l:List ay}(h:l.Sublist (graph c)):(fU l).Pairwise ak.lt:=(ztz c).sublist (h.filterMap _)
theorem zr3 (c:aj)(p:ay→Bool):(fU ((graph c).filter p)).Pairwise ak.lt:=WN List.filter_sublist
open Go Go.Am Go.Proofs Tryz
attribute [local simp] de fQ lz dz dN jD af.back b6 dG iO bm Nat.testBit_eq_decide_div_mod_eq ct gf jB vO kN dX kO gE cJ jR jQ kK dY kL j9 jq ly j8 kM kF kC kG kD kE kH kI jM di ig dd kP jS ka kQ kR jL ls lu dW jC dy dx dA iL dK jY jO jP gX kz a7 j7 dw bA bC ja af.get af.alloc af.put af.drop af.empty bq cg gd gR fe cp chunk List.range List.range.loop iP lA jr bI bG PV.aD PV.az PV.b8 PV.dv eu dZ kc PV.one PV.ids PV.bT fJ beq_eq lQ l9
attribute [local simp] cQ bQ cw jU lD jE jN jc ef dD
attribute [local simp ↓ high] mG ma
def FM (c:aj)(s:ak):Bool:=!decide (ny c s<1099511627776)||decide (0<ny c s - aS c c.t.length c.c.length)
def ql (c:aj)(x:ay):Bool:=match x.s with|some s=>FM c s|none=>false
def oE (q:ay→Bool)(d:List ak)(x:ay):List ak:=match x.s with|some s=>if q x then d++[s] else d|none=>d
def gU (c:aj)(q:ay→Bool):List ak:=(dS c).foldl (oE q) []
theorem WO (q:ay→Bool):∀(l:List ay) (d:List ak),l.foldl (oE q) d=d++fU (l.filter q)
 |[],d=>by simp[fU]
 |x::r,d=>by
  rw[List.foldl_cons,WO q r,List.filter_cons]
  unfold oE
  cases hs:x.s with
  |none=>
   cases hq:q x with
   |true=>simp[fU,hs]
   |false=>simp
  |some s=>
   cases hq:q x with
   |true=>simp[fU,hs]
   |false=>simp
theorem WQ (c:aj)(q:ay→Bool):gU c q=fU ((dS c).filter q):=by unfold gU;rw[WO];rfl
theorem xdm (c:aj)(q:ay→Bool):(gU c q).mergeSort HK=gU c q:=by
 rw[WQ]
 exact z6k (WN (List.filter_sublist.trans List.filter_sublist))
theorem xco (q:ay→Bool)(d:List ak)(x:ay):(oE q d x).length≤d.length+1:=by
 unfold oE
 split
 ·split<;>simp
 exact Nat.le_succ _
theorem WR (q:ay→Bool):∀(l:List ay) (d:List ak),(l.foldl (oE q) d).length≤d.length+l.length
 |[],d=>Nat.le_refl _
 |x::r,d=>by
  rw[List.foldl_cons,List.length_cons]
  have h1:=WR q r (oE q d x)
  have h2:=xco q d x
  omega
theorem zzo {c:aj}(hr:Rt c){pre mX:List ay}{x:ay}(h:dS c=pre++x::mX):pre.length<139258:=by
 have h1:=HL hr
 have h2:(dS c).length≤(graph c).length:=List.length_filter_le _ _
 rw[h,List.length_append,List.length_cons] at h2
 omega
theorem WS {x:ay}{s:ak}(h:x.s=some s):dO x=.agg [.int .i64 x.i,.int .i64 x.j,.int .i64 x.i',.int .i64 x.j',.int .i64 s.k,.int .i64 s.a,.int .i64 s.i,.int .i64 s.l,.int .i64 s.w,.int .i64 x.n,.bool false]:=by
 unfold dO;rw[h];rfl
theorem WT {x:ay}(h:x.s=none):dO x=.agg [.int .i64 x.i,.int .i64 x.j,.int .i64 x.i',.int .i64 x.j',.int .i64 0,.int .i64 0,.int .i64 0,.int .i64 0,.int .i64 0,.int .i64 x.n,.bool true]:=by
 unfold dO;rw[h];rfl
variable [bE] in
theorem QP (c:aj)(ps:List (Nat×Nat))(f:FuncId)(q:ay→Bool)(eD:∀cs w,(callFunc f cs).run prog w=.ok (.enter f cs) w)(n g:Nat)(d:List ak)(x:ay)(hn:900≤n)(hg:3<g)(A3:g<n)(hl:d.length<200000)(hp:∀s,x.s=some s→aI prog f [wQ c ps,dO x] fun r=>r=.bool (q x)):eN prog 141 [dO x,.ptr 1 0,.ptr 2 0,.ptr 3 0] ⟨n,[(3,.box [.grow g (d).length true]),(2,.box (bQ c (.aG (aR (places c) (aS c))) (.aG (aR ps (bwd c))) (.int .i64 (aS c c.t.length c.c.length)))),(1,.box [.func f [] []]),(0,.box (cQ c)),(g,.grow 5 ((d).map encS))]⟩ fun v aq=>∃g',(g'=g∨(n+2≤g'∧g'<aq.next))∧bV [(3,.box [.grow g' (oE q d x).length true]),(2,.box (bQ c (.aG (aR (places c) (aS c))) (.aG (aR ps (bwd c))) (.int .i64 (aS c c.t.length c.c.length)))),(1,.box [.func f [] []]),(0,.box (cQ c)),(g',.grow 5 ((oE q d x).map encS))] aq.br∧n≤aq.next∧me n [(3,.box [.grow g (d).length true]),(2,.box (bQ c (.aG (aR (places c) (aS c))) (.aG (aR ps (bwd c))) (.int .i64 (aS c c.t.length c.c.length)))),(1,.box [.func f [] []]),(0,.box (cQ c)),(g,.grow 5 ((d).map encS))] [(3,.box [.grow g' (oE q d x).length true]),(2,.box (bQ c (.aG (aR (places c) (aS c))) (.aG (aR ps (bwd c))) (.int .i64 (aS c c.t.length c.c.length)))),(1,.box [.func f [] []]),(0,.box (cQ c)),(g',.grow 5 ((oE q d x).map encS))]:=by
  obtain⟨m,rfl⟩:∃m,n=m+900:=⟨n - 900,by omega⟩
  have g0:¬g=0:=by omega
  have g1:¬g=1:=by omega
  have g2:¬g=2:=by omega
  have g3:¬g=3:=by omega
  have h0:¬0=g:=by omega
  have h1:¬1=g:=by omega
  have h2:¬2=g:=by omega
  have h3:¬3=g:=by omega
  have gm:¬g=m+900:=by omega
  have gm1:¬g=m+900+1:=by omega
  have gm2:¬g=m+900+2:=by omega
  have hm:¬m+900=g:=by omega
  have ll:d.length≤4294967295:=by omega
  have yj:∀s:ak,nV [PV.agg [.int .i64 s.k,.int .i64 s.a,.int .i64 s.i,.int .i64 s.l,.int .i64 s.w]]=true:=fun _=>rfl
  have rS:oE q d x=match x.s with|some s=>if q x then d++[s] else d|none=>d:=rfl
  have hE:∀s:ak,encS s=.agg [.int .i64 s.k,.int .i64 s.a,.int .i64 s.i,.int .i64 s.l,.int .i64 s.w]:=fun _=>rfl
  refine .bJ func141 rfl rfl ?_
  rcases hs:x.s with _|s
  ·
    rw[hs] at rS
    simp only at rS
    rw[WT hs]
    refine .sr ?_
    refine .seq (.ar oT rfl ae (.rn dQ _ ?_))
    refine .split (t:=8) rfl (fun c8=>?_) (fun c8=>?_)
    · try subst c8
      try simp at c8
    try subst c8
    try simp at c8
    refine .rn [4,5,6,7,8] [] ?_
    refine .done (.gI rfl (.skip ?_))
    refine⟨_,jF,g,.inl rfl,?_,by simp,?_⟩
    · rw[rS]
      exact bU
    rw[rS]
    exact mY
  ·
    rw[hs] at rS
    simp only at rS
    have hp:=hp s hs
    rw[wR] at hp
    rw[WS hs] at hp ⊢
    obtain⟨b,hb⟩:∃b,q x=b:=⟨_,rfl⟩
    rw[hb] at hp rS
    refine .sr ?_
    refine .seq (.ar oT rfl ae (.rn dQ _ ?_))
    refine .split (t:=8) rfl (fun c8=>?_) (fun c8=>?_)
    · try subst c8
      try simp at c8
      refine .rn [4,5,6] _ ?_
      refine .step rfl rfl (.pure rfl rfl rfl eD (by decide) (hp) (by first|rfl|simp[*]) ?_)
      rintro _ rfl
      refine .rn [8] [] ?_
      refine .done ?_
      refine .cs ?_ ?_<;>intro gz
      · try simp at gz
        refine .rn ?_
        subst gz
        first
        | (rw [if_pos rfl] at rS
           refine⟨_,jF,m+902,.inr ⟨by omega,by simp⟩,?_,by simp,?_⟩
           · rw[rS,List.length_append,List.map_append]
             simp only[List.map_cons,List.map_nil,List.length_cons,List.length_nil,hE]
             exact bU
           rw[rS]
           exact mY)
        | (rw [if_neg (by decide)] at rS
           refine⟨_,jF,g,.inl rfl,?_,by simp,?_⟩
           · rw[rS]
             exact bU
           rw[rS]
           exact mY)
      try simp at gz
      refine .skip ?_
      subst gz
      first
      | (rw [if_pos rfl] at rS
         refine⟨_,jF,m+902,.inr ⟨by omega,by simp⟩,?_,by simp,?_⟩
         · rw[rS,List.length_append,List.map_append]
           simp only[List.map_cons,List.map_nil,List.length_cons,List.length_nil,hE]
           exact bU
         rw[rS]
         exact mY)
      | (rw [if_neg (by decide)] at rS
         refine⟨_,jF,g,.inl rfl,?_,by simp,?_⟩
         · rw[rS]
           exact bU
         rw[rS]
         exact mY)
    try subst c8
    try simp at c8
theorem xma (c:aj)(ps:List (Nat×Nat))(f:FuncId)(d:List ak){n g:Nat}(hg:g=4∨(902≤g∧g<n)):∃g',(g'=4∨(902≤g'∧g'<1000))∧D9 [(3,.box [.grow g' (d).length true]),(2,.box (bQ c (.aG (aR (places c) (aS c))) (.aG (aR ps (bwd c))) (.int .i64 (aS c c.t.length c.c.length)))),(1,.box [.func f [] []]),(0,.box (cQ c)),(g',.grow 5 ((d).map encS))]∧∀i j:Nat,Wk 900 [(2,.ptr 900 0),(3,.ptr 901 0),(4,.int .i64 i),(11,.int .i64 ((c.t.length:Int)+1)),(12,.int .i64 i),(19,.int .i64 ((c.c.length:Int)+1)),(20,.int .i64 j)] ⟨n,(901,.box [.func 141 [] [.ptr 1 0,.ptr 2 0,.ptr 3 0]])::(900,.box (bQ c (.aG (aR (places c) (aS c))) (.aG (aR ps (bwd c))) (.int .i64 (aS c c.t.length c.c.length))))::[(3,.box [.grow g (d).length true]),(2,.box (bQ c (.aG (aR (places c) (aS c))) (.aG (aR ps (bwd c))) (.int .i64 (aS c c.t.length c.c.length)))),(1,.box [.func f [] []]),(0,.box (cQ c)),(g,.grow 5 ((d).map encS))]⟩ [(2,.ptr 900 0),(3,.ptr 901 0),(4,.int .i64 i),(11,.int .i64 ((c.t.length:Int)+1)),(12,.int .i64 i),(19,.int .i64 ((c.c.length:Int)+1)),(20,.int .i64 j)] ⟨1000,(901,.box [.func 141 [] [.ptr 1 0,.ptr 2 0,.ptr 3 0]])::(900,.box (bQ c (.aG (aR (places c) (aS c))) (.aG (aR ps (bwd c))) (.int .i64 (aS c c.t.length c.c.length))))::[(3,.box [.grow g' (d).length true]),(2,.box (bQ c (.aG (aR (places c) (aS c))) (.aG (aR ps (bwd c))) (.int .i64 (aS c c.t.length c.c.length)))),(1,.box [.func f [] []]),(0,.box (cQ c)),(g',.grow 5 ((d).map encS))]⟩:=by
 rcases hg with rfl|⟨hg,A3⟩
 ·exact⟨4,.inl rfl,⟨rfl,rfl⟩,fun i j=>Rec.wk (.mk [] [] J9 Ka rfl rfl rfl)⟩
 have gN:∀X1 X0,(⟨n,(901,X1)::(900,X0)::[(3,.box [.grow g (d).length true]),(2,.box (bQ c (.aG (aR (places c) (aS c))) (.aG (aR ps (bwd c))) (.int .i64 (aS c c.t.length c.c.length)))),(1,.box [.func f [] []]),(0,.box (cQ c)),(g,.grow 5 ((d).map encS))]⟩:af).get g=some (.grow 5 (d.map encS)):=fun X1 X0=>by
  simp[show ¬g=901 by omega,show ¬g=900 by omega,show ¬g=3 by omega,show ¬g=2 by omega,show ¬g=1 by omega,show ¬g=0 by omega]
 refine⟨902,.inr ⟨Nat.le_refl _,by decide⟩,⟨rfl,rfl⟩,fun i j=>Rec.wk (.mk [] [(902,g)] QQ (by refine⟨?_,?_,?_,?_,?_,?_,⟨⟨(bc rfl),.inr ⟨rfl,_,gN _ _,rfl⟩⟩,trivial⟩⟩<;>(refine⟨(bc rfl),.inr ⟨rfl,_,rfl,?_⟩⟩)<;>repeat' (first|exact trivial|exact Alt.eO aK.nil (aK.cons (Alt.ptr _ _ _ (bc rfl) rfl) (aK.cons (Alt.ptr _ _ _ (bc rfl) rfl) (aK.cons (Alt.ptr _ _ _ (bc rfl) rfl) aK.nil)))|refine And.intro (And.intro (bc rfl) (Or.inr (And.intro rfl (Exists.intro _ (And.intro rfl ?_))))) ?_|refine And.intro (And.intro (bc rfl) (Or.inl (Exists.intro _ (And.intro rfl (bc rfl))))) ?_|refine And.intro (And.intro (bc rfl) (Or.inl (Exists.intro _ (And.intro (congrArg (aO.grow _) (by simp[*])) (bc rfl))))) ?_|rfl|exact aK.nil|(refine congrArg (aO.grow _) ?_;simp[*];done)|(refine congrArg aO.map ?_;simp[*];done)|(refine congrArg (aO.arr _ _) ?_;simp[*];done)|refine uc.mk rfl rfl rfl rfl rfl ?_|refine And.intro (Exists.intro _ (And.intro rfl ?_)) ?_|refine aK.cons ?_ ?_|(refine Alt.same _ ?_;first|rfl|(simp[*];done))|exact Alt.a6 _ _ (bc rfl) rfl|exact Alt.grow _ _ _ _ (bc rfl) rfl|(refine Alt.A4 _ _ _ _ _ ?_ (bc rfl) rfl;simp[*];done)|exact Alt.ptr _ _ _ (bc rfl) rfl|exact Alt.own _ _ _ _ _ (bc rfl) rfl|exact Alt.sub _ _ _ _ (bc rfl) rfl|exact Alt.cm _ _ (bc rfl) rfl|exact Alt.aJ _ _|(refine Alt.qE _ _ _ ?_;simp[*];done)|exact Alt.e0 _|exact Alt.eO aK.nil (aK.cons (Alt.ptr _ _ _ (bc rfl) rfl) aK.nil)|exact Alt.eH|exact Alt.pH _ _ _|(refine Alt.b9 _ _ _ _ _ rfl rfl ?_;simp[*];done)|exact Alt.ki _ _ _ _ _ _ _ _ rfl rfl rfl|exact Alt.eP _ _ rfl rfl|(refine Alt.A5 ?_;simp[*]<;>rfl)|(refine Alt.ofEq rfl ?_;simp[*];done))) ?_ rfl rfl)⟩
 simp[zd,xX,Nat.beq_eq]
 omega
section
variable [bE]
theorem WU (c:aj)(f:FuncId)(q:ay→Bool)(hB:BC c)(eD:∀cs w,(callFunc f cs).run prog w=.ok (.enter f cs) w)(hp:aN c=0→∀ps x s,x.s=some s→aI prog f [wQ c ps,dO x] fun r=>r=.bool (q x)):aI prog 87 [aA c,.func f [] []] fun r=>ec r (.bz [.vec ((if aN c=0 then gU c q else []).map encS),.int .i64 (aN c)]):=by
 have dI:=wG c hB
 have jd:=DP c
 have hC:cu c=(cQ c):=rfl
 obtain⟨e,he⟩:∃e,aN c=e:=⟨_,rfl⟩
 have bR:=he
 rw[he] at dI jd hp ⊢
 unfold aA at dI jd ⊢
 rw[hC] at dI jd ⊢
 refine .bJ func87 rfl rfl ?_
 refine .sr ?_
 refine .seq (.seq (.ar [0,1,2] rfl ae (.rn [0] _ ?_)))
 refine .pc rfl rfl rfl rfl rfl call55 (dI) ?_
 refine .rn [2] [] ?_
 refine .done (.sr ?_)
 refine .cs ?_ ?_<;>intro xV
 ·try simp at xV
  refine .sr ?_
  refine .ret (ax ?_)
  rw[if_neg xV];exact Fw rfl
 try simp at xV
 subst xV
 have aP:=fC bR
 refine .skip (.seq (.ar dQ rfl ae (.rn [0] _ ?_)))
 refine .step rfl rfl (.pure rfl rfl rfl call77 (by decide) (jd rfl) (by first|rfl|simp[*]) ?_)
 rintro _ ⟨ps,iG,rfl⟩
 have hp:=hp rfl ps
 have uZ:=Cf c ps bR iG 141 [] [.ptr 1 0,.ptr 2 0,.ptr 3 0] call141 [(3,.box [.grow 4 (([]:List ak)).length true]),(2,.box (bQ c (.aG (aR (places c) (aS c))) (.aG (aR ps (bwd c))) (.int .i64 (aS c c.t.length c.c.length)))),(1,.box [.func f [] []]),(0,.box (cQ c)),(4,.grow 5 ((([]:List ak)).map encS))] (fun pre n L=>∃g,(g=4∨(902≤g∧g<n))∧L=[(3,.box [.grow g (pre.foldl (oE q) []).length true]),(2,.box (bQ c (.aG (aR (places c) (aS c))) (.aG (aR ps (bwd c))) (.int .i64 (aS c c.t.length c.c.length)))),(1,.box [.func f [] []]),(0,.box (cQ c)),(g,.grow 5 ((pre.foldl (oE q) []).map encS))]) ⟨4,.inl rfl,rfl⟩ (fun _ _ _ _ ⟨g,h1,h2⟩ h=>⟨g,by omega,h2⟩) (fun pre x mX n L gZ hn ⟨g,hg,hL⟩=>by
 subst hL
 have ll:=zzo aP gZ
 have lk:=WR q pre []
 exact(QP c ps f q eD n g _ x hn (by omega) (by omega) (by simp at lk;omega) (hp x)).mono fun v aq ⟨g',hg',h2,h3,h4⟩=>⟨_,h2,h3,h4,g',by omega,by rw[List.foldl_append];rfl⟩) (fun pre n L ⟨g,hg,hL⟩ hn hd=>by
 subst hL
 obtain⟨g2,h1,h2,h3⟩:=xma c ps f (pre.foldl (oE q) []) hg
 exact⟨_,⟨g2,h1,rfl⟩,h2,h3⟩)
 rw[wR] at uZ ⊢
 refine .rn [2,3] [] ?_
 refine .done (.sr ?_)
 refine .seq (.ar [0,1,2] rfl ae (.rn [0,1] _ ?_))
 refine .step rfl rfl (.wT (aF:=[(2,.ptr 0 0),(3,.ptr 1 0),(7,.ptr 2 0),(8,.ptr 3 0),(16,.agg (bQ c (.aG (aR (places c) (aS c))) (.aG (aR ps (bwd c))) (.int .i64 (aS c c.t.length c.c.length)))),(17,.func 141 [] [.ptr 1 0,.ptr 2 0,.ptr 3 0])]) (aZ:=⟨900,[(3,.box [.grow 4 (([]:List ak)).length true]),(2,.box (bQ c (.aG (aR (places c) (aS c))) (.aG (aR ps (bwd c))) (.int .i64 (aS c c.t.length c.c.length)))),(1,.box [.func f [] []]),(0,.box (cQ c)),(4,.grow 5 ((([]:List ak)).map encS))]⟩) (.mk [] [] J9 Ka rfl rfl rfl) (.call rfl rfl rfl call81 (by decide) (((uZ)).mono ?_)))
 rintro _ _ ⟨n,L,⟨g,hg,rfl⟩,rfl⟩
 have g0:¬g=0:=by omega
 have g1:¬g=1:=by omega
 have g2:¬g=2:=by omega
 have g3:¬g=3:=by omega
 have h3:¬3=g:=by omega
 have h2:¬2=g:=by omega
 have h1:¬1=g:=by omega
 have h0:¬0=g:=by omega
 obtain⟨d,hd⟩:∃d,(dS c).foldl (oE q) []=d:=⟨_,rfl⟩
 have mB:gU c q=d:=hd
 have sY:=xdm c q
 rw[mB] at sY
 rw[hd]
 clear uZ hd
 refine .done (.seq (.ar [0,1] rfl ae ?_))
 refine .rn [0] _ ?_
 refine .step rfl rfl (.call rfl rfl rfl call117 (by decide) (((QF (zs:=d) (i:=g) (nl:=true) (n:=d.length) (by simp[*]) rfl)).mono ?_))
 rintro _ _ ⟨rfl,rfl⟩
 rw[sY]
 refine .done (.sr ?_)
 refine .ret ?_
 refine⟨_,_,jF,(by simp[*]<;>rfl),?_⟩
 rw[if_pos rfl,mB];exact oF (by simp[PV.aD,PV.az])
theorem QR (c:aj)(hB:BC c):aI prog 26 [aA c] fun r=>ec r (.bz [.vec ((if aN c=0 then gU c (ql c) else []).map encS),.int .i64 (aN c)]):=by
 have FN:=aI.soft (WU c 88 (ql c) hB call88 (fun hk ps x s hs=>by
  rw[show ql c x=FM c s by unfold ql;rw[hs]]
  obtain⟨i,j,i',j',n,s0⟩:=x
  simp only at hs
  subst hs
  exact p88 c ps hk i j i' j' n s)) (by simp[PV.aD,PV.az])
 have hC:cu c=(cQ c):=rfl
 unfold aA at FN ⊢
 rw[hC] at FN ⊢
 refine .bJ func26 rfl rfl ?_
 refine .sr ?_
 refine .seq (.ar kS rfl ae (.rn [0] _ ?_))
 refine .pc rfl rfl rfl rfl rfl call87 (FN) ?_
 refine .rn [2,3,4,5] [] ?_
 refine .done (.ret (ax ?_))
 exact oF (by simp[PV.aD,PV.az])
theorem QS (c:aj)(hB:BC c):aI prog 28 [aA c] fun r=>ec r (.bz [.vec ((if aN c=0 then gU c (fun _=>true) else []).map encS),.int .i64 (aN c)]):=by
 have FN:=aI.soft (WU c 94 (fun _=>true) hB call94 (fun hk ps x s hs=>p94 c ps x)) (by simp[PV.aD,PV.az])
 have hC:cu c=(cQ c):=rfl
 unfold aA at FN ⊢
 rw[hC] at FN ⊢
 refine .bJ func28 rfl rfl ?_
 refine .sr ?_
 refine .seq (.ar kS rfl ae (.rn [0] _ ?_))
 refine .pc rfl rfl rfl rfl rfl call87 (FN) ?_
 refine .rn [2,3,4,5] [] ?_
 refine .done (.ret (ax ?_))
 exact oF (by simp[PV.aD,PV.az])
end
def ev (n:Nat)(F:Nat→Bool):List PV:=(List.range n).map fun (i:Nat)=>PV.bool (F i)
@[simp] theorem z7k (n:Nat)(F:Nat→Bool):(ev n F).length=n:=by simp[ev,-List.range,-List.range.loop]
@[simp] theorem xj2 (n:Nat)(F:Nat→Bool):(ev n F).all PV.one=true:=by simp[ev,PV.one]
@[simp] theorem xgu (n:Nat)(F:Nat→Bool):PV.az (ev n F)=true:=by
 unfold ev
 generalize List.range n=l
 induction l with
 |nil=>rfl
 |cons a r ih=>simp only[List.map_cons,PV.az,PV.aD,Bool.true_and];exact ih
theorem HO (n:Nat)(F:Nat→Bool)(i:Nat)(h:i<n):(ev n F)[i]?=some (PV.bool (F i)):=by
 simp[ev,h,-List.range,-List.range.loop]
theorem WV (n:Nat):List.replicate n (PV.bool false)=ev n fun _=>false:=by
 simp[ev,List.map_const',-List.range,-List.range.loop]
theorem QT (n:Nat)(F:Nat→Bool)(i:Nat)(h:i<n):(ev n F)[i]'(by simpa using h)=PV.bool (F i):=by
 have:=HO n F i h
 rw[List.getElem?_eq_getElem (by simpa using h)] at this
 injection this
def qF (F:Nat→Bool)(x:ay):Nat→Bool:=fun i=>F i||(x.s.isNone&&decide (x.i=i))
theorem WW (n:Nat)(F:Nat→Bool)(i:Nat)(h:i<n):(ev n F).take i++PV.bool true::(ev n F).drop (i+1)=ev n (fun j=>F j||decide (i=j)):=by
 refine List.ext_getElem? fun j=>?_
 by_cases hj:j<n
 ·rw[HO n _ j hj,List.getElem?_append]
  simp only[List.length_take,z7k,Nat.min_eq_left (Nat.le_of_lt h)]
  by_cases h1:j<i
  ·rw[if_pos h1,List.getElem?_take_of_lt h1,HO n _ j hj]
   simp[show ¬i=j by omega]
  rw[if_neg h1]
  by_cases h2:j=i
  ·subst h2;simp
  rw[show j - i=(j - i - 1)+1 by omega,List.getElem?_cons_succ,List.getElem?_drop,show i+1+(j - i - 1)=j by omega,HO n _ j hj]
  simp[show ¬i=j by omega]
 rw[List.getElem?_eq_none (by simp;omega),List.getElem?_eq_none (by simp;omega)]
def ud (c:aj):Nat→Bool:=(dS c).foldl qF fun _=>false
theorem WX:∀(l:List ay) (F:Nat→Bool) (i:Nat),l.foldl qF F i=(F i||l.any fun x=>x.s.isNone&&decide (x.i=i))
 |[],F,i=>by simp
 |x::r,F,i=>by rw[List.foldl_cons,WX r,List.any_cons];unfold qF;rw[Bool.or_assoc]
theorem xbq (c:aj)(i:Nat):ud c i=(dS c).any fun x=>x.s.isNone&&decide (x.i=i):=by unfold ud;rw[WX];simp
def FP (c:aj)(i:Nat):Int:=fwd c (fun x=>!decide (x.s=none∧x.i=i)) c.t.length c.c.length
def xY (c:aj)(i:Nat):Bool:=Bool.or (!decide (FP c i<1099511627776)) (decide (0<FP c i - aS c c.t.length c.c.length))
def pI (c:aj):Nat→List Int
 |0=>[]
 |k+1=>pI c k++if ud c k=true then [(k:Int)] else []
def o0 (c:aj):Nat→List Int
 |0=>[]
 |k+1=>o0 c k++if ud c k=true∧xY c k=true then [(k:Int)] else []
theorem Kc (c:aj):∀k,(pI c k).length≤k
 |0=>Nat.le_refl _
 |k+1=>by have:=Kc c k;unfold pI;rw[List.length_append];split<;>simp<;>omega
theorem Kd (c:aj):∀k,(o0 c k).length≤k
 |0=>Nat.le_refl _
 |k+1=>by have:=Kd c k;unfold o0;rw[List.length_append];split<;>simp<;>omega
theorem xbt {c:aj}(hr:Rt c){x:ay}(h:x∈graph c)(hs:x.s=none):x.i<c.t.length:=by
 obtain⟨h1,h2,h3⟩:=rQ hr h
 rcases Nl hr h1 with⟨_,h,_⟩|⟨s,n,i',w,e,_⟩
 ·exact h
 rw[e] at hs;cases hs
section
variable [bE]
theorem p82 (c:aj)(ps:List (Nat×Nat))(n:Nat)(F:Nat→Bool)(x:ay)(hn:900≤n)(hl:c.t.length≤48)(hx:x.s=none→x.i<c.t.length):eN prog 82 [dO x,.ptr 3 0] ⟨n,[(3,.box [.own 2 0 c.t.length c.t.length]),(2,.arr false 1 (ev c.t.length (F))),(1,.box (bQ c (.aG (aR (places c) (aS c))) (.aG (aR ps (bwd c))) (.int .i64 (aS c c.t.length c.c.length)))),(0,.box (cQ c))]⟩ fun v aq=>bV [(3,.box [.own 2 0 c.t.length c.t.length]),(2,.arr false 1 (ev c.t.length (qF F x))),(1,.box (bQ c (.aG (aR (places c) (aS c))) (.aG (aR ps (bwd c))) (.int .i64 (aS c c.t.length c.c.length)))),(0,.box (cQ c))] aq.br∧n≤aq.next:=by
 obtain⟨m,rfl⟩:∃m,n=m+900:=⟨n - 900,by omega⟩
 refine .bJ func82 rfl rfl ?_
 rcases hs:x.s with _|s
 ·
  have hx:=hx hs
  rw[WT hs]
  have FQ:x.i+1≤c.t.length:=hx
  have tm:=WW c.t.length F x.i hx
  have hG:qF F x=fun j=>F j||decide (x.i=j):=by unfold qF;rw[hs];rfl
  refine .sr ?_
  refine .sr ?_
  refine .cs ?_ ?_<;>intro c4
  ·try simp at c4
   refine .rn ?_
   refine⟨_,jF,?_,by simp⟩
   rw[hG]
   exact bU
  try simp at c4
 ·
  rw[WS hs]
  have hG:qF F x=F:=by funext i;unfold qF;rw[hs];simp
  refine .sr ?_
  refine .sr ?_
  refine .cs ?_ ?_<;>intro c4
  ·try simp at c4
  try simp at c4
  refine .skip ?_
  refine⟨_,jF,?_,by simp⟩
  rw[hG]
  exact bU
theorem QU (c:aj)(hB:BC c):aI prog 22 [aA c] fun r=>ec r (.bz [ints (if aN c=0 then o0 c c.t.length else []),ints (if aN c=0 then pI c c.t.length else []),.int .i64 (aN c)]):=by
 have dI:=wG c hB
 have jd:=DP c
 have hC:cu c=(cQ c):=rfl
 obtain⟨e,he⟩:∃e,aN c=e:=⟨_,rfl⟩
 have bR:=he
 rw[he] at dI jd ⊢
 unfold aA at dI jd ⊢
 rw[hC] at dI jd ⊢
 have wV:=WV c.t.length
 have HF:o0 c 0=[]:=rfl
 have QV:pI c 0=[]:=rfl
 refine .bJ func22 rfl rfl ?_
 refine .sr ?_
 refine .seq (.seq (.ar [0,1,2] rfl ae (.rn [0] _ ?_)))
 refine .pc rfl rfl rfl rfl rfl call55 (dI) ?_
 refine .rn [2] [] ?_
 refine .done (.sr ?_)
 refine .cs ?_ ?_<;>intro iB
 ·try simp at iB
  refine .sr ?_
  refine .ret (ax ?_)
  rw[if_neg iB,if_neg iB];exact Js (.cons .eH (.cons .eH (.cons (.same _ rfl) .nil)))
 try simp at iB
 subst iB
 have aP:=fC bR
 have nY:=aP.tl
 have QW:c.t.length≤4294967296:=by omega
 have QX:(c.t.length:Int)≤4294967296:=by omega
 refine .skip (.seq (.ar dQ rfl ae (.rn [0] _ ?_)))
 refine .step rfl rfl (.pure rfl rfl rfl call77 (by decide) (jd rfl) (by first|rfl|simp[*]) ?_)
 rintro _ ⟨ps,iG,rfl⟩
 have uZ:=Cf c ps bR iG 82 [] [.ptr 3 0] call82 [(3,.box [.own 2 0 c.t.length c.t.length]),(2,.arr false 1 (ev c.t.length (fun _=>false))),(1,.box (bQ c (.aG (aR (places c) (aS c))) (.aG (aR ps (bwd c))) (.int .i64 (aS c c.t.length c.c.length)))),(0,.box (cQ c))] (fun pre n L=>L=[(3,.box [.own 2 0 c.t.length c.t.length]),(2,.arr false 1 (ev c.t.length (pre.foldl qF fun _=>false))),(1,.box (bQ c (.aG (aR (places c) (aS c))) (.aG (aR ps (bwd c))) (.int .i64 (aS c c.t.length c.c.length)))),(0,.box (cQ c))]) rfl (fun _ _ _ _ h _=>h) (fun pre x mX n L gZ hn hL=>by
 subst hL
 exact(p82 c ps n _ x hn nY (xbt aP (List.mem_filter.1 (show x∈dS c by rw[gZ];simp)).1)).mono fun v aq ⟨h2,h3⟩=>⟨_,h2,h3,mY,by rw[List.foldl_append];rfl⟩) (fun pre n L hL hn hd=>by
 subst hL
 exact⟨_,rfl,⟨rfl,rfl⟩,fun i j=>Rec.wk aX⟩)
 rw[wR] at uZ ⊢
 refine .rn [2,3] [] ?_
 refine .done (.sr ?_)
 refine .seq (.ar [0,1,2] rfl ae (.rn [0,1] _ ?_))
 refine .step rfl rfl (.wT (aF:=[(6,.ptr 1 0),(7,.ptr 3 0),(25,.agg (bQ c (.aG (aR (places c) (aS c))) (.aG (aR ps (bwd c))) (.int .i64 (aS c c.t.length c.c.length)))),(26,.func 82 [] [.ptr 3 0])]) (aZ:=⟨900,[(3,.box [.own 2 0 c.t.length c.t.length]),(2,.arr false 1 (ev c.t.length (fun _=>false))),(1,.box (bQ c (.aG (aR (places c) (aS c))) (.aG (aR ps (bwd c))) (.int .i64 (aS c c.t.length c.c.length)))),(0,.box (cQ c))]⟩) aX (.call rfl rfl rfl call81 (by decide) (((uZ)).mono ?_)))
 rintro _ _ ⟨n,L,rfl,rfl⟩
 rw[show (dS c).foldl qF (fun _=>false)=ud c from rfl]
 clear uZ
 refine .done (.sr ?_)
 refine .seq (.sr ?_)
 refine .block ?_
 refine .cZ (fun k:Nat=>([(6,.ptr 1 0),(8,.grow 4 (o0 c k).length true),(9,.grow 5 (pI c k).length true),(28,.own 2 0 c.t.length c.t.length),(29,.int .i64 c.t.length),(30,.int .i64 k)],⟨6,[(5,.grow 1 ((pI c k).map (.int .i64))),(4,.grow 1 ((o0 c k).map (.int .i64))),(2,.arr false 1 (ev c.t.length (ud c))),(1,.box (bQ c (.aG (aR (places c) (aS c))) (.aG (aR ps (bwd c))) (.int .i64 (aS c c.t.length c.c.length))))]⟩)) (fun k=>k≤c.t.length) (fun k=>c.t.length - k) 0 (by simp) aX ?_
 rintro k hk
 simp only at hk ⊢
 refine .sr ?_
 refine .seq ?_
 refine .cs ?_ ?_<;>intro wW
 ·try simp at wW
  have ee:k<c.t.length:=by omega
  have cR:=iQ k
  have pg:=QT c.t.length (ud c) k ee
  have ll:=Kc c k
  have lk:=Kd c k
  have BW:(pI c k).length+1≤4294967296:=by omega
  have hl4:(o0 c k).length+1≤4294967296:=by omega
  have hl5:(pI c k).length≤4294967295:=by omega
  have hl6:(o0 c k).length≤4294967295:=by omega
  have rT:pI c (k+1)=pI c k++if ud c k=true then [(k:Int)] else []:=rfl
  have nK:o0 c (k+1)=o0 c k++if ud c k=true∧xY c k=true then [(k:Int)] else []:=rfl
  have yj:nV [PV.int .i64 (k:Int)]=true:=rfl
  have su:=Qm c ps (fun x=>decide (x.s=none∧x.i=k)) 84 [] [.vp [.int .i64 k]] bR rfl (by simp[PV.az,PV.aD]) call84 (fun x=>p84 k x)
  rw[show fwd c (fun x=>!decide (x.s=none∧x.i=k)) c.t.length c.c.length=FP c k from rfl,wR] at su
  have mz:xY c k=Bool.or (!decide (FP c k<1099511627776)) (decide (0<FP c k - aS c c.t.length c.c.length)):=rfl
  obtain⟨wo,HH⟩:∃w,FP c k=w:=⟨_,rfl⟩
  rw[HH] at su mz
  obtain⟨lt,a8⟩:∃b,decide (wo<1099511627776)=b:=⟨_,rfl⟩
  rw[a8] at su mz
  obtain⟨df,hdf⟩:∃d,wo - aS c c.t.length c.c.length=d:=⟨_,rfl⟩
  rw[hdf] at su mz
  refine .skip (.seq (.block (.sr ?_)))
  refine .seq (.sr ?_)
  refine .cs ?_ ?_<;>intro gJ
  ·try simp at gJ
   rw[gJ] at rT nK
   simp only[Bool.false_eq_true,false_and,if_false,List.append_nil] at rT nK
   refine .exit (.rn ?_)
   refine⟨k+1,ba,ba,by rw[rT,nK];exact aX⟩
  try simp at gJ
  rw[gJ] at rT nK
  simp only[true_and,if_true] at rT nK
  refine .skip (.sr ?_)
  refine .seq (.ar js rfl ae (.rn [0,1] _ ?_))
  refine .step rfl rfl (.borrow rfl rfl rfl call83 (by decide) (by first|(simp<;>rfl)|(simp[*]<;>rfl)|(simp[*];done)) (su) (by rintro _ rfl<;>first|(simp;done)|rfl) ?_)
  rintro _ rfl
  refine .rn [3,4,5,6,7] [] ?_
  refine .done (.seq (.ar kS rfl ae ?_))
  refine .rn [0,1,2] _ ?_
  refine .split (t:=49) rfl (fun rM=>?_) (fun rM=>?_)
  ·try subst rM
   try simp at rM
   refine .rn [3,4,5] [] ?_
   refine .done (.dR rfl (.rn ?_))
   refine .rn ?_
   have Ke:xY c k=true:=by rw[mz];simp[*]
   rw[if_pos Ke] at nK
   refine⟨k+1,ba,ba,by rw[rT,nK];exact(.mk [] [(4,10),(5,8)] gH gY rfl rfl rfl)⟩
  try subst rM
  try simp at rM
  refine .rn [3,4,5] [] ?_
  refine .done ?_
  refine .cs ?_ ?_<;>intro ri
  ·try simp at ri
   refine .rn ?_
   refine .rn ?_
   have Ke:xY c k=true:=by rw[mz];simp[*]
   rw[if_pos Ke] at nK
   refine⟨k+1,ba,ba,by rw[rT,nK];exact(.mk [] [(4,10),(5,8)] gH gY rfl rfl rfl)⟩
  try simp at ri
  refine .skip (.rn ?_)
  have Ke:¬xY c k=true:=by rw[mz];simp[*]
  rw[if_neg Ke,List.append_nil] at nK
  refine⟨k+1,ba,ba,by rw[rT,nK];exact(.mk [] [(5,8)] gH gY rfl rfl rfl)⟩
 try simp at wW
 obtain rfl:k=c.t.length:=by omega
 refine .exit (.sr ?_)
 refine .ret (ax ?_)
 simp only[if_true];exact oF (by simp[PV.aD,PV.az])
end
theorem Nn (w:List Int):(w=[]∧eW w=.aJ)∨eW w=ints w:=by
 cases w with
 |nil=>exact .inl ⟨rfl,rfl⟩
 |cons a r=>exact .inr rfl
theorem DW (c:aj)(s:ak)(r:List ak)(out:List Int)(i:Nat)(sum:Int):oc c (s::r) out i sum=if (i:Int)≤s.a∧s.a≤(c.t.length:Int) then
  match aM c s with
  |some (n,i',w)=>if s.i=((out++(c.t.drop i).take (s.a.toNat - i)).length:Int) then oc c r (out++(c.t.drop i).take (s.a.toNat - i)++w) i' (sum+n) else none
  |none=>none
 else none:=rfl
theorem WY (c:aj)(out:List Int)(i:Nat)(sum:Int):oc c [] out i sum=some (out++c.t.drop i,sum):=rfl
theorem QY {c:aj}(hr:Rt c):∀(l:List ak) (out:List Int) (i:Nat) (sum:Int) {o:List Int} {m:Int},oc c l out i sum=some (o,m)→o.length≤out.length+96*l.length+48∧sum≤m∧m≤sum+100*(l.length:Int)
 |[],out,i,sum,o,m,h=>by
  rw[WY] at h
  injection h with h;injection h with h1 h2
  subst h1;subst h2
  have:=hr.tl
  simp only[List.length_append,List.length_drop,List.length_nil]
  omega
 |s::r,out,i,sum,o,m,h=>by
  rw[DW] at h
  split at h
  ·split at h
   ·rename_i n i' w hd
    split at h
    ·obtain⟨e1,e2,e3⟩:=QY hr r _ _ _ h
     obtain⟨d1,d2,d3,d4,d5,d6⟩:=nI hr hd
     have:=hr.tl
     simp only[List.length_append,List.length_take,List.length_drop,List.length_cons] at e1 ⊢
     omega
    cases h
   cases h
  cases h
theorem QZ {c:aj}(hr:Rt c){l:List ak}{o:List Int}{m:Int}(h:fu c l=some (o,m)):o.length≤96*l.length+48∧0≤m∧m≤100*(l.length:Int):=by
 have:=QY hr l [] 0 0 h
 simp only[List.length_nil] at this
 omega
structure WI (c:aj) (l:List ak) (k:Nat) (out:List Int) (i:Nat) (sum:Int):Prop where
  hk:k≤l.length
  hw:oc c (l.drop k) out i sum=fu c l
  hi:i≤c.t.length
  h0:0≤sum
  h1:sum≤100*(k:Int)
  ho:out.length≤96*k
theorem WI.start (c:aj)(l:List ak):WI c l 0 [] 0 0:=⟨Nat.zero_le _,rfl,Nat.zero_le _,by decide,by simp,by simp⟩
theorem WI.bad {c:aj}{l:List ak}{k:Nat}{out:List Int}{i:Nat}{sum:Int}(h:WI c l k out i sum){s:ak}(hs:l[k]?=some s)(hn:¬((i:Int)≤s.a∧s.a≤(c.t.length:Int))∨aM c s=none∨s.i≠((out++(c.t.drop i).take (s.a.toNat - i)).length:Int)):fu c l=none:=by
 obtain⟨hk,rfl⟩:=List.getElem?_eq_some_iff.1 hs
 rw[← h.hw,List.drop_eq_getElem_cons hk,DW]
 rcases hn with h1|h1|h1
 ·rw[if_neg h1]
 ·split<;>simp[h1]
 split
 ·cases aM c l[k] with
  |none=>rfl
  |some y=>obtain⟨n,i',w⟩:=y;simp[h1]
 rfl
theorem WI.next {c:aj}(hr:Rt c){l:List ak}{k:Nat}{out:List Int}{i:Nat}{sum:Int}(h:WI c l k out i sum){s:ak}(hs:l[k]?=some s){n:Int}{i':Nat}{w:List Int}(h1:(i:Int)≤s.a∧s.a≤(c.t.length:Int))(hd:aM c s=some (n,i',w))(h2:s.i=((out++(c.t.drop i).take (s.a.toNat - i)).length:Int)) :
  WI c l (k+1) (out++(c.t.drop i).take (s.a.toNat - i)++w) i' (sum+n):=by
 obtain⟨hk,rfl⟩:=List.getElem?_eq_some_iff.1 hs
 obtain⟨d1,d2,d3,d4,d5,d6⟩:=nI hr hd
 have e0:=h.h0;have e1:=h.h1;have e2:=h.ho
 have nY:=hr.tl
 refine⟨hk,?_,d4,by omega,by rw[Int.natCast_add];omega,?_⟩
 ·rw[← h.hw,List.drop_eq_getElem_cons hk,DW,if_pos h1,hd]
  simp only
  rw[if_pos h2]
 simp only[List.length_append,List.length_take,List.length_drop]
 omega
theorem WI.stop {c:aj}{l:List ak}{out:List Int}{i:Nat}{sum:Int}(h:WI c l l.length out i sum):fu c l=some (out++c.t.drop i,sum):=by
 rw[← h.hw,List.drop_length,WY]
def ze (c:aj)(l:List ak):PV:=match fu c l with
 |some (o,n)=>.bz [ints o,.int .i64 n,.bool true]
 |none=>.bz [ints [],.int .i64 0,.bool false]
theorem Q0 {a b:PV}(ha:a.aD=true)(hb:b.aD=true):ec (.bz [.aJ,a,b]) (.bz [.vec [],a,b]):=Js (.cons .eH (.cons (.same _ ha) (.cons (.same _ hb) .nil)))
def No (c:aj)(l:List ak):List Int:=if aN c=0 then (if 100<l.length then [] else match fu c l with|some (o,_)=>o|none=>[]) else []
def Np (c:aj)(l:List ak):Int:=if aN c=0 then (if 100<l.length then 2 else match fu c l with|some _=>0|none=>7) else aN c
def HP (c:aj)(s:ak):Int:=if aN c=0 then (match aM c s with|some (n,_,_)=>if s.i≤(c.c.length:Int) then n else 0|none=>0) else 0
def Nq (c:aj)(s:ak):Int:=if aN c=0 then (match aM c s with|some _=>if s.i≤(c.c.length:Int) then 0 else 5|none=>5) else aN c
theorem Q1 (c:aj)(l:List ak):(ze c l).aD=true:=by
 unfold ze
 split<;>simp[PV.aD,PV.az]
section
variable [bE]
theorem FT (c:aj)(l:List ak)(hk:aN c=0)(da:l.length≤200):aI prog 110 [aA c,.vec (l.map encS)] fun r=>ec r (ze c l):=by
 have aP:=fC hk
 have nY:=aP.tl
 have hC:cu c=(cQ c):=rfl
 have hE:∀s:ak,encS s=.agg [.int .i64 s.k,.int .i64 s.a,.int .i64 s.i,.int .i64 s.l,.int .i64 s.w]:=fun _=>rfl
 have dq:=fun s=>Hs c s hk
 have lC:=fun a i:Int=>xL a i (c.t.length:Int)
 have wS:=WI.start c l
 unfold aA at dq ⊢
 rw[hC] at dq ⊢
 have yY:fu c l=none→ze c l=.bz [.vec [],.int .i64 0,.bool false]:=fun h=>by unfold ze;rw[h];rfl
 refine .bJ func110 rfl rfl ?_
 refine .sr ?_
 refine .sr ?_
 refine .sr ?_
 refine .seq (.sr ?_)
 refine .block ?_
 refine .cZ (fun z:Nat×List Int×Nat×Int=>([(2,.ptr 0 0),(7,.grow 1 z.2.1.length true),(8,.int .i64 z.2.2.1),(9,.int .i64 z.2.2.2),(16,.vec (l.map encS)),(17,.int .i64 l.length),(18,.int .i64 z.1)],⟨2,[(1,.grow 1 (z.2.1.map (.int .i64))),(0,.box (cQ c))]⟩)) (fun z=>WI c l z.1 z.2.1 z.2.2.1 z.2.2.2) (fun z=>l.length - z.1) (0,[],0,0) wS aX ?_
 clear wS
 rintro⟨k,out,i,sum⟩ hI
 simp only at hI ⊢
 have ee:=hI.hk
 have cE:=hI.hi
 have yu:=hI.h0
 have mT:=hI.h1
 have EO:=hI.ho
 refine .sr ?_
 refine .seq ?_
 refine .cs ?_ ?_<;>intro gG
 ·try simp at gG
  have cR:=iQ k
  have dm:k<l.length:=by omega
  obtain⟨s,hs⟩:∃s,l[k]?=some s:=⟨l[k],List.getElem?_eq_getElem dm⟩
  have gq:l[k]=s:=(List.getElem?_eq_some_iff.1 hs).2
  have lC:=lC s.a i
  obtain⟨wi,gy⟩:∃b,(decide ((i:Int)≤s.a)&&decide (s.a≤(c.t.length:Int)))=b:=⟨_,rfl⟩
  rw[gy] at lC
  have dq:=dq s
  rw[hE] at dq
  refine .skip (.seq (.block (.sr ?_)))
  refine .seq (.seq (.ar js rfl ae (.rn kS _ ?_)))
  refine .pc rfl rfl rfl rfl rfl call85 (lC) ?_
  refine .rn [7] [] ?_
  refine .done ?_
  refine .cs ?_ ?_<;>intro wX
  ·try simp at wX
   have hb:=hI.bad hs (.inl (fun hh=>by rw[wX] at gy;simp[hh.1,hh.2] at gy))
   refine .sr ?_
   refine .ret (ax ?_)
   rw[yY hb];exact Q0 rfl rfl
  try simp at wX
  have dC:(i:Int)≤s.a∧s.a≤(c.t.length:Int):=by rw[wX] at gy;simpa using gy
  obtain⟨a,ha⟩:∃a:Nat,s.a=a:=⟨s.a.toNat,by omega⟩
  have rH:s.a.toNat=a:=by omega
  have sj:i≤a:=by omega
  have ep:a≤c.t.length:=by omega
  have ik:=@WI.bad c l k out i sum hI s hs
  have gQ:=@WI.next c aP l k out i sum hI s hs
  rw[rH] at ik gQ
  have lI:(a:Int)≤(c.t.length:Int):=by omega
  have Q2:(i:Int)≤(a:Int):=by omega
  rw[ha] at dq
  have a8:((c.t.drop i).take (a - i)).length=a - i:=by rw[List.length_take,List.length_drop];omega
  have sN:List.take (a - i) (List.drop i (c.t.map (PV.int .i64)))=((c.t.drop i).take (a - i)).map (PV.int .i64):=by rw[List.map_take,List.map_drop]
  obtain⟨Q,hQ⟩:∃Q,(c.t.drop i).take (a - i)=Q:=⟨_,rfl⟩
  rw[hQ] at a8 sN ik gQ
  have hlq:out.length+Q.length≤4294967296:=by omega
  have Q3:out.length+Q.length≤20000:=by omega
  clear a8
  rcases hd:aM c s with _|⟨n,i',w⟩
  ·skip
   refine .skip (.sr ?_)
   refine .seq (.ar kf rfl ae (.rn [0,1] _ ?_))
   refine .step rfl rfl (.pure rfl rfl rfl call95 (by decide) (dq) (by first|rfl|simp[*]) ?_)
   intro _ e;rw[B5 hd] at e;subst e;unfold jT;have xZ:=ik (.inr (.inl hd))
   refine .rn [3,4,5,6,7,8,9,10,11,12] [] ?_
   refine .done (.seq (.seq (.ar oT rfl ae ?_)))
   refine .rn [0,1,2] _ ?_
   refine .split (t:=48) rfl (fun fV=>?_) (fun fV=>?_)
   ·try subst fV
    try simp at fV
    refine .rn [3,4,5,6,7,8] [] ?_
    refine .done (.dR rfl (.sr ?_))
    refine .ret (ax ?_)
    rw[yY xZ];exact Q0 rfl rfl
   try subst fV
   try simp at fV
  skip
  refine .skip (.sr ?_)
  refine .seq (.ar kf rfl ae (.rn [0,1] _ ?_))
  refine .step rfl rfl (.pure rfl rfl rfl call95 (by decide) (dq) (by first|rfl|simp[*]) ?_)
  intro _ e;rw[AU hd] at e;subst e;unfold jT;obtain⟨d1,d2,d3,d4,d5,d6⟩:=nI aP hd;have WZ:IntKind.i64.wrap (sum+n)=sum+n:=wrap64 (by omega) (by omega);have hlw:out.length+Q.length+w.length≤4294967296:=by omega
  refine .rn [3,4,5,6,7,8,9,10,11,12] [] ?_
  refine .done (.seq (.seq (.ar oT rfl ae ?_)))
  refine .rn [0,1,2] _ ?_
  refine .split (t:=48) rfl (fun fV=>?_) (fun fV=>?_)
  ·try subst fV
   try simp at fV
  try subst fV
  try simp at fV
  refine .rn [3,4,5,6,7,8] [] ?_
  refine .done ?_
  refine .cs ?_ ?_<;>intro nv
  ·try simp at nv
   have xZ:=ik (.inr (.inr (fun e=>nv (by rw[e];simp))))
   refine .sr ?_
   refine .ret (ax ?_)
   rw[yY xZ];exact Q0 rfl rfl
  try simp at nv
  have uN:=gQ dC hd (by rw[nv];simp)
  rcases Nn w with⟨rfl,hw⟩|hw<;>simp only[hw]
  ·skip
   refine .skip (.sr ?_)
   refine .rn ?_
   refine .rn ?_
   refine⟨(k+1,out++Q++[],i',sum+n),uN,ba,(.mk [] [(1,5)] gH gY rfl rfl rfl)⟩
  skip
  refine .skip (.sr ?_)
  refine .rn ?_
  refine .rn ?_
  have Q4:=Nat.add_assoc out.length Q.length w.length
  refine⟨(k+1,out++Q++w,i',sum+n),uN,ba,(.mk [] [(1,5)] gH gY rfl rfl rfl)⟩
 try simp at gG
 obtain rfl:k=l.length:=by omega
 have cS:=hI.stop
 obtain⟨D,hD⟩:∃D,c.t.drop i=D:=⟨_,rfl⟩
 have hE4:List.drop i (c.t.map (PV.int .i64))=D.map (PV.int .i64):=by rw[← hD,List.map_drop]
 have hE2:List.take (c.t.length - i) (D.map (PV.int .i64))=D.map (PV.int .i64):=List.take_of_length_le (by rw[← hD];simp)
 have ue:D.length≤48:=by rw[← hD,List.length_drop];omega
 have cz:out.length+D.length≤4294967296:=by omega
 rw[hD] at cS
 clear hD
 have Q5:(i:Int)≤(c.t.length:Int):=by omega
 have sX:ze c l=.bz [ints (out++D),.int .i64 sum,.bool true]:=by unfold ze;rw[cS]
 refine .exit (.sr ?_)
 refine .ret (ax ?_)
 rw[sX];simp only[ints,List.map_append];exact oF rfl
theorem FU (c:aj)(l:List ak)(hk:aN c=0)(da:l.length≤200):aI prog 100 [aA c,.vec (l.map encS)] fun r=>r=.bz [.int .i64 ((bP c l).getD 0),.bool (bP c l).isSome]:=by
 have aP:=fC hk
 have hC:cu c=(cQ c):=rfl
 have fw:=aI.soft (FT c l hk da) (Q1 c l)
 have hx:bP c l=if 100<l.length then none else match fu c l with|some (o,n)=>if o=c.c then some n else none|none=>none:=rfl
 unfold aA at fw ⊢
 rw[hC] at fw ⊢
 unfold ze at fw
 refine .bJ func100 rfl rfl ?_
 rcases hw:fu c l with _|⟨o,n⟩
 ·
  rw[hw] at hx fw
  simp only at hx fw
  have od:bP c l=none:=by rw[hx];split<;>rfl
  rw[od]
  refine .sr ?_
  refine .seq (.sr ?_)
  refine .cs ?_ ?_<;>intro iC
  ·try simp at iC
   skip
   refine .sr ?_
   refine .ret (ax ?_)
   exact zk
  try simp at iC
  refine .skip (.seq (.ar gh rfl ae (.rn [0,1] _ ?_)))
  refine .pc rfl rfl rfl rfl rfl call110 (fw) ?_
  refine .rn [3,4,5,6,7,8,9] [] ?_
  refine .done (.seq (.seq (.ar oT rfl ae ?_)))
  refine .rn [0,1,2] _ ?_
  refine .split (t:=21) rfl (fun e8=>?_) (fun e8=>?_)
  ·try subst e8
   try simp at e8
   refine .rn [3,4,5,6,7,8] [] ?_
   refine .done (.dR rfl (.sr ?_))
   refine .ret (ax ?_)
   exact zk
  try subst e8
  try simp at e8
 ·
  rw[hw] at hx fw
  simp only at hx fw
  have s5:=QZ aP hw
  have fx:=aP.cl
  have Kf:=Jp o c.c (by omega) (by omega)
  obtain⟨eb,qG⟩:∃b,decide (o=c.c)=b:=⟨_,rfl⟩
  rw[qG] at Kf
  refine .sr ?_
  refine .seq (.sr ?_)
  refine .cs ?_ ?_<;>intro iC
  ·try simp at iC
   rw[if_pos (show 100<l.length by omega)] at hx
   refine .sr ?_
   refine .ret (ax ?_)
   first|(rw[hx];rfl)|(rw[od];rfl)
  try simp at iC
  rw[if_neg (by omega)] at hx
  refine .skip (.seq (.ar gh rfl ae (.rn [0,1] _ ?_)))
  refine .pc rfl rfl rfl rfl rfl call110 (fw) ?_
  refine .rn [3,4,5,6,7,8,9] [] ?_
  refine .done (.seq (.seq (.ar oT rfl ae ?_)))
  refine .rn [0,1,2] _ ?_
  refine .split (t:=21) rfl (fun e8=>?_) (fun e8=>?_)
  ·try subst e8
   try simp at e8
  try subst e8
  try simp at e8
  refine .rn [3,4,5] _ ?_
  refine .pc rfl rfl rfl rfl rfl call144 (Kf) ?_
  refine .rn [7,8] [] ?_
  refine .done ?_
  refine .cs ?_ ?_<;>intro fg
  ·try simp at fg
   have od:bP c l=none:=by rw[hx,if_neg (fun hh=>by rw[hh] at qG;simp[fg] at qG)]
   refine .sr ?_
   refine .ret (ax ?_)
   first|(rw[hx];rfl)|(rw[od];rfl)
  try simp at fg
  have od:bP c l=some n:=by rw[hx,if_pos (by rw[fg] at qG;simpa using qG)]
  refine .skip (.sr ?_)
  refine .ret (ax ?_)
  first|(rw[hx];rfl)|(rw[od];rfl)
theorem Nr (c:aj)(l:List ak)(hB:BC c)(da:l.length≤200):aI prog 40 [aA c,.vec (l.map encS)] fun r=>r=.bz [.int .i64 (if aN c=0 then (bP c l).getD 0 else 0),.bool (if aN c=0 then (bP c l).isSome else false),.int .i64 (aN c)]:=by
 have dI:=wG c hB
 have kj:=FU c l
 have hC:cu c=(cQ c):=rfl
 obtain⟨e,he⟩:∃e,aN c=e:=⟨_,rfl⟩
 rw[he] at dI kj ⊢
 unfold aA at dI kj ⊢
 rw[hC] at dI kj ⊢
 refine .bJ func40 rfl rfl ?_
 refine .sr ?_
 refine .seq (.seq (.ar [0,1,2] rfl ae (.rn [0] _ ?_)))
 refine .pc rfl rfl rfl rfl rfl call55 (dI) ?_
 refine .rn [2] [] ?_
 refine .done (.sr ?_)
 refine .cs ?_ ?_<;>intro gz
 ·try simp at gz
  refine .sr ?_
  refine .ret (ax ?_)
  exact zk
 try simp at gz
 subst gz
 refine .skip (.seq (.ar js rfl ae (.rn [0,1] _ ?_)))
 refine .pc rfl rfl rfl rfl rfl call100 (kj rfl da) ?_
 refine .rn [3,4,5,6,7] [] ?_
 refine .done (.sr ?_)
 refine .ret (ax ?_)
 exact zk
theorem p53 (c:aj)(l:List ak)(hB:BC c)(da:l.length≤200):aI prog 53 [aA c,.vec (l.map encS)] fun r=>ec r (.bz [ints (No c l),.int .i64 (Np c l)]):=by
 have dI:=wG c hB
 have fw:=fun hk=>aI.soft (FT c l hk da) (Q1 c l)
 have hC:cu c=(cQ c):=rfl
 have hO:No c l=if aN c=0 then (if 100<l.length then [] else match fu c l with|some (o,_)=>o|none=>[]) else []:=rfl
 have hX:Np c l=if aN c=0 then (if 100<l.length then 2 else match fu c l with|some _=>0|none=>7) else aN c:=rfl
 obtain⟨e,he⟩:∃e,aN c=e:=⟨_,rfl⟩
 rw[he] at dI fw hO hX
 unfold aA at dI fw ⊢
 rw[hC] at dI fw ⊢
 unfold ze at fw
 refine .bJ func53 rfl rfl ?_
 rcases hw:fu c l with _|⟨o,n⟩
 ·
  rw[hw] at hO hX fw
  simp only at hO hX fw
  refine .sr ?_
  refine .seq (.seq (.ar [0,1,2] rfl ae (.rn [0] _ ?_)))
  refine .pc rfl rfl rfl rfl rfl call55 (dI) ?_
  refine .rn [2] [] ?_
  refine .done (.sr ?_)
  refine .cs ?_ ?_<;>intro gz
  ·try simp at gz
   rw[if_neg gz] at hO hX
   refine .sr ?_
   refine .ret (ax ?_)
   rw[hO,hX];first|exact Fw rfl|exact oF rfl
  try simp at gz
  subst gz
  rw[if_pos rfl] at hO hX
  refine .skip (.seq (.sr ?_))
  refine .cs ?_ ?_<;>intro iB
  ·try simp at iB
   rw[if_pos (show 100<l.length by omega)] at hO hX
   refine .sr ?_
   refine .ret (ax ?_)
   rw[hO,hX];first|exact Fw rfl|exact oF rfl
  try simp at iB
  rw[if_neg (by omega)] at hO hX
  refine .skip (.seq (.ar gh rfl ae (.rn [0,1] _ ?_)))
  refine .pc rfl rfl rfl rfl rfl call110 (fw rfl) ?_
  refine .rn [3,4,5,6,7,8,9] [] ?_
  refine .done (.seq (.sr ?_))
  refine .cs ?_ ?_<;>intro jb
  ·try simp at jb
   refine .sr ?_
   refine .ret (ax ?_)
   rw[hO,hX];first|exact Fw rfl|exact oF rfl
  try simp at jb
 ·
  rw[hw] at hO hX fw
  simp only at hO hX fw
  refine .sr ?_
  refine .seq (.seq (.ar [0,1,2] rfl ae (.rn [0] _ ?_)))
  refine .pc rfl rfl rfl rfl rfl call55 (dI) ?_
  refine .rn [2] [] ?_
  refine .done (.sr ?_)
  refine .cs ?_ ?_<;>intro gz
  ·try simp at gz
   rw[if_neg gz] at hO hX
   refine .sr ?_
   refine .ret (ax ?_)
   rw[hO,hX];first|exact Fw rfl|exact oF rfl
  try simp at gz
  subst gz
  rw[if_pos rfl] at hO hX
  refine .skip (.seq (.sr ?_))
  refine .cs ?_ ?_<;>intro iB
  ·try simp at iB
   rw[if_pos (show 100<l.length by omega)] at hO hX
   refine .sr ?_
   refine .ret (ax ?_)
   rw[hO,hX];first|exact Fw rfl|exact oF rfl
  try simp at iB
  rw[if_neg (by omega)] at hO hX
  refine .skip (.seq (.ar gh rfl ae (.rn [0,1] _ ?_)))
  refine .pc rfl rfl rfl rfl rfl call110 (fw rfl) ?_
  refine .rn [3,4,5,6,7,8,9] [] ?_
  refine .done (.seq (.sr ?_))
  refine .cs ?_ ?_<;>intro jb
  ·try simp at jb
  try simp at jb
  refine .skip (.sr ?_)
  refine .ret (ax ?_)
  rw[hO,hX];first|exact Fw rfl|exact oF rfl
theorem p52 (c:aj)(s:ak)(hB:BC c):aI prog 52 [aA c,encS s] fun r=>r=.bz [.int .i64 (HP c s),.int .i64 (Nq c s)]:=by
 have dI:=wG c hB
 have dq:=Hs c s
 have hC:cu c=(cQ c):=rfl
 have hE:encS s=.agg [.int .i64 s.k,.int .i64 s.a,.int .i64 s.i,.int .i64 s.l,.int .i64 s.w]:=rfl
 have hN:HP c s=if aN c=0 then (match aM c s with|some (n,_,_)=>if s.i≤(c.c.length:Int) then n else 0|none=>0) else 0:=rfl
 have hX:Nq c s=if aN c=0 then (match aM c s with|some _=>if s.i≤(c.c.length:Int) then 0 else 5|none=>5) else aN c:=rfl
 obtain⟨e,he⟩:∃e,aN c=e:=⟨_,rfl⟩
 rw[he] at dI dq hN hX
 unfold aA at dI dq ⊢
 rw[hE] at dq ⊢
 rw[hC] at dI dq ⊢
 refine .bJ func52 rfl rfl ?_
 rcases hd:aM c s with _|⟨n,i',w⟩
 ·
  rw[hd] at hN hX
  rw[B5 hd] at dq
  unfold jT at dq
  simp only at hN hX
  refine .sr ?_
  refine .seq (.seq (.ar [0,1,2] rfl ae (.rn [0] _ ?_)))
  refine .pc rfl rfl rfl rfl rfl call55 (dI) ?_
  refine .rn [2] [] ?_
  refine .done (.sr ?_)
  refine .cs ?_ ?_<;>intro iy
  ·try simp at iy
   rw[if_neg iy] at hN hX
   refine .sr ?_
   refine .ret (ax ?_)
   rw[hN,hX]
  try simp at iy
  subst iy
  rw[if_pos rfl] at hN hX
  refine .skip (.seq (.ar kf rfl ae (.rn [0,1] _ ?_)))
  refine .pc rfl rfl rfl rfl rfl call95 (dq rfl) ?_
  refine .rn [3,4,5,6,7,8,9,10,11,12] [] ?_
  refine .done (.seq (.seq (.ar gh rfl ae ?_)))
  refine .rn [0,1,2] _ ?_
  refine .split (t:=26) rfl (fun jb=>?_) (fun jb=>?_)
  ·try subst jb
   try simp at jb
   refine .rn [3,4,5,6,7,8,9] [] ?_
   refine .done (.dR rfl (.sr ?_))
   refine .ret (ax ?_)
   rw[hN,hX]
  try subst jb
  try simp at jb
 ·
  rw[hd] at hN hX
  rw[AU hd] at dq
  unfold jT at dq
  simp only at hN hX
  refine .sr ?_
  refine .seq (.seq (.ar [0,1,2] rfl ae (.rn [0] _ ?_)))
  refine .pc rfl rfl rfl rfl rfl call55 (dI) ?_
  refine .rn [2] [] ?_
  refine .done (.sr ?_)
  refine .cs ?_ ?_<;>intro iy
  ·try simp at iy
   rw[if_neg iy] at hN hX
   refine .sr ?_
   refine .ret (ax ?_)
   rw[hN,hX]
  try simp at iy
  subst iy
  rw[if_pos rfl] at hN hX
  refine .skip (.seq (.ar kf rfl ae (.rn [0,1] _ ?_)))
  refine .pc rfl rfl rfl rfl rfl call95 (dq rfl) ?_
  refine .rn [3,4,5,6,7,8,9,10,11,12] [] ?_
  refine .done (.seq (.seq (.ar gh rfl ae ?_)))
  refine .rn [0,1,2] _ ?_
  refine .split (t:=26) rfl (fun jb=>?_) (fun jb=>?_)
  ·try subst jb
   try simp at jb
  try subst jb
  try simp at jb
  refine .rn [3,4,5,6,7,8,9] [] ?_
  refine .done ?_
  refine .cs ?_ ?_<;>intro s9
  ·try simp at s9
   rw[if_neg (by omega)] at hN hX
   refine .sr ?_
   refine .ret (ax ?_)
   rw[hN,hX]
  try simp at s9
  rw[if_pos (by omega)] at hN hX
  refine .skip (.sr ?_)
  refine .ret (ax ?_)
  rw[hN,hX]
end
end Go.Am.Sl
end
section
namespace Go.Am.Sl
def rU (c:aj):Nat→List ak→Prop
 |_,[]=>True
 |i,s::r=>(i:Int)≤s.a∧s.a≤(c.t.length:Int)∧∃n i' w,aM c s=some (n,i',w)∧rU c i' r
theorem rU.mono {c:aj}{i j:Nat}{l:List ak}(h:rU c j l)(gP:i≤j):rU c i l:=by
 cases l with
 |nil=>trivial
 |cons s r=>obtain⟨h1,h2⟩:=h;exact⟨by omega,h2⟩
theorem W0 {c:aj}:∀(l:List ak) {out:List Int} {i:Nat} {sum:Int} {o:List Int} {m:Int},oc c l out i sum=some (o,m)→rU c i l
 |[],_,_,_,_,_,_=>trivial
 |s::r,out,i,sum,o,m,h=>by
  rw[DW] at h
  split at h
  ·rename_i dC
   split at h
   ·rename_i n i' w hd
    split at h
    ·exact⟨dC.1,dC.2,n,i',w,hd,W0 r h⟩
    cases h
   cases h
  cases h
theorem rU.erase {c:aj}(hr:Rt c):∀ {l:List ak} {i:Nat} (k:Nat),rU c i l→rU c i (l.eraseIdx k)
 |[],_,_,_=>trivial
 |s::r,i,0,h=>by
  obtain⟨h1,h2,n,i',w,hd,h3⟩:=h
  have:=(nI hr hd).2.2.1
  exact h3.mono (by omega)
 |s::r,i,k+1,h=>by
  obtain⟨h1,h2,n,i',w,hd,h3⟩:=h
  exact⟨h1,h2,n,i',w,hd,h3.erase hr k⟩
theorem Kg {c:aj}{l:List ak}{n:Int}(h:bP c l=some n):l.length≤100∧fu c l=some (c.c,n):=by
 unfold bP at h
 split at h
 ·cases h
 split at h
 ·rename_i o m hw
  split at h
  ·rename_i ho
   injection h with h
   subst h;subst ho
   exact⟨by omega,hw⟩
  cases h
 cases h
theorem Ns {c:aj}{l:List ak}{n:Int}(h:bP c l=some n):rU c 0 l:=W0 l (Kg h).2
theorem Q6 {c:aj}{s:ak}{x:Int}(hx:0≤x)(hs:0≤s.i):aM c { s with i:=x }=aM c s:=by
 unfold aM
 simp only[hx,hs,and_true]
def tn (c:aj):List ak→Nat→Nat→List ak
 |[],_,_=>[]
 |s::r,i,j=>match aM c s with
  |some (_,i',w)=>{ s with i:=((j+(s.a.toNat - i):Nat):Int) }::tn c r i' (j+(s.a.toNat - i)+w.length)
  |none=>[]
theorem Nt {c:aj}{s:ak}{r:List ak}{i j:Nat}{n:Int}{i':Nat}{w:List Int}(hd:aM c s=some (n,i',w)):tn c (s::r) i j={ s with i:=((j+(s.a.toNat - i):Nat):Int) }::tn c r i' (j+(s.a.toNat - i)+w.length):=by
 show (match aM c s with|some (_,i',w)=>_|none=>_)=_
 rw[hd]
theorem W2 {c:aj}:∀ {l:List ak} {i j:Nat},rU c i l→(tn c l i j).length=l.length
 |[],_,_,_=>rfl
 |s::r,i,j,h=>by
  obtain⟨h1,h2,n,i',w,hd,h3⟩:=h
  rw[Nt hd,List.length_cons,List.length_cons,W2 h3]
theorem W3 {c:aj}(hr:Rt c):∀ {l:List ak} {i j:Nat} {out:List Int} {sum:Int},rU c i l→i≤c.t.length→out.length=j→∃o m,oc c (tn c l i j) out i sum=some (o,m)
 |[],_,_,_,_,_,_,_=>⟨_,_,rfl⟩
 |s::r,i,j,out,sum,h,hi,ho=>by
  obtain⟨h1,h2,n,i',w,hd,h3⟩:=h
  obtain⟨d1,d2,d3,d4,d5,d6⟩:=nI hr hd
  rw[Nt hd,DW]
  have hk:((c.t.drop i).take (s.a.toNat - i)).length=s.a.toNat - i:=by rw[List.length_take,List.length_drop];omega
  have sY:aM c { s with i:=((j+(s.a.toNat - i):Nat):Int) }=some (n,i',w):=by rw[Q6 (by omega) d2.2.2,hd]
  rw[if_pos ⟨h1,h2⟩,sY]
  simp only
  rw[if_pos (by rw[List.length_append,hk,ho])]
  exact W3 hr h3 d4 (by rw[List.length_append,List.length_append,hk,ho])
theorem W4 {c:aj}(hr:Rt c){l:List ak}(h:rU c 0 l):∃o m,fu c (tn c l 0 0)=some (o,m):=W3 hr h (Nat.zero_le _) rfl
def Cj:aj:=⟨0,0,0,0,0,[],[],[],[]⟩
def zf (c:aj)(l:List ak)(k:Int):List ak:=tn c (l.eraseIdx k.toNat) 0 0
def DX (c:aj)(l:List ak):List Int:=match fu c l with|some (o,_)=>o|none=>[]
def u4 (c:aj)(l:List ak)(k:Int):Int:=if aN c≠0 then aN c else if bP c l=none∨¬(0≤k∧k≤(l.length:Int) - 1) then 1 else if 48<(DX c (zf c l k)).length then 2 else 0
def zg (c:aj)(l:List ak)(k:Int):aj:=if u4 c l k=0 then { c with c:=DX c (zf c l k) } else Cj
def Ck (c:aj)(l:List ak)(k:Int):List ak:=if u4 c l k=0 then zf c l k else []
structure MI (c:aj) (l:List ak) (D R:List ak) (i j:Nat):Prop where
  ch:rU c i R
  hi:i≤c.t.length
  hd:D++tn c R i j=tn c l 0 0
  hl:D.length+R.length=l.length
  hj:j≤96*D.length
theorem MI.start {c:aj}{l:List ak}(h:rU c 0 l):MI c l [] l 0 0:=⟨h,Nat.zero_le _,rfl,by simp,by simp⟩
theorem MI.next {c:aj}(hr:Rt c){l D R:List ak}{s:ak}{i j:Nat}(h:MI c l D (s::R) i j){n:Int}{i':Nat}{w:List Int}(hd:aM c s=some (n,i',w)) :
  MI c l (D++[{ s with i:=((j+(s.a.toNat - i):Nat):Int) }]) R i' (j+(s.a.toNat - i)+w.length):=by
 obtain⟨⟨h1,h2,n',i'',w',xG,h3⟩,hi,h4,h5,h6⟩:=h
 rw[hd] at xG
 injection xG with e;injection e with e1 e;injection e with e2 e3
 subst e1;subst e2;subst e3
 obtain⟨d1,d2,d3,d4,d5,d6⟩:=nI hr hd
 have:=hr.tl
 refine⟨h3,d4,?_,by simp at h5 ⊢;omega,by rw[List.length_append,List.length_singleton];omega⟩
 rw[Nt hd] at h4
 rw[← h4,List.append_assoc];rfl
theorem MI.stop {c:aj}{l D:List ak}{i j:Nat}(h:MI c l D [] i j):D=tn c l 0 0:=by
 have:=h.hd
 rw[show tn c [] i j=[] from rfl,List.append_nil] at this
 exact this
open Go Go.Am Go.Proofs Tryz Go.RowKit Go.Lib
theorem xey (w:World):(zeroValue 48).run prog w=.ok (.agg #[.int .i64 0,.int .i64 0,.int .i64 0,.int .i64 0,.int .i64 0]) w:=zeroValue48 w
theorem zye (w:World)(ty:TypeId)(b o c:Nat)(hc:∀j,j<5→(w.cell? ⟨b,o+j,none⟩).isSome=true)(hf:∀j,j<5→w.frozen? ⟨b,o+j,none⟩=false) :
  (Builtin.clear_ #[31] ty #[.slice (some ⟨b,o,none⟩) 1 c]).run prog w=.ok (.tuple #[]) (w.setCells b o (List.replicate 5 (.int .i64 0))):=by
 have ht:prog.underlying 31=some (.slice 48):=underlying31
 have Md:(Builtin.zeroCells (Value.agg #[.int .i64 0,.int .i64 0,.int .i64 0,.int .i64 0,.int .i64 0]).cells 1).toList=List.replicate 5 (.int .i64 0):=by
  exact range_zero #[.int .i64 0,.int .i64 0,.int .i64 0,.int .i64 0,.int .i64 0] 1
 have cS:=run_storeCells_cells (P:=prog) b o (List.replicate 5 (.int .i64 0)) 0 w (by simpa using hc) (by simpa using hf) (by intro v bg;rw[List.eq_of_mem_replicate bg];rfl)
 simp only[Nat.add_zero] at cS
 obtain⟨Z,hZ⟩:∃Z,List.replicate 5 (Value.int .i64 0)=Z:=⟨_,rfl⟩
 rw[hZ] at Md cS ⊢
 simp[Builtin.clear_,run_underlying ht,xey,Md,cS]
theorem xi8:(prog.info? 48).map (fun i=>(i.zero,i.size,i.bytes))=some (some (.agg #[.int .i64 0,.int .i64 0,.int .i64 0,.int .i64 0,.int .i64 0]),5,40):=by kernel_rfl
set_option maxHeartbeats 4000000 in
set_option maxRecDepth 1000000 in
theorem zr8 (mA off cap i n:Nat)(F:List Value)(w:World)(hF:F.length=n*5)(h1:∀u∈F,u.oneCell'=true)(hc:∀t u,F[t]?=some u→w.cell? ⟨mA,off+t,none⟩=some u)(uz:∀t,w.frozen? ⟨mA,t,none⟩=false)
  (iJ:n≤cap) (hi:i<n) :
  Calls prog 111 #[.slice (some ⟨mA,off,none⟩) n cap,.int .i64 i,.int .i64 ((i:Int)+1)] w fun e w'=>e=.returned (.slice (some ⟨mA,off,none⟩) (i+(n - (i+1))) cap)∧
   w'=(w.drew.setCells mA (off+i*5) (F.drop ((i+1)*5))).setCells mA (off+(i+(n - (i+1)))*5) (List.replicate 5 (.int .i64 0)):=by
 obtain⟨i0,Q7,mW,nk,uG⟩:=info_parts xi8
 have ht:prog.underlying 31=some (.slice 48):=underlying31
 have mixed:prog.follows .mixedOrders=true:=rfl
 obtain⟨news,tq⟩:∃news,news=F.drop ((i+1)*5):=⟨_,rfl⟩
 have hlen:news.length=(n - (i+1))*5:=by rw[tq,List.length_drop,hF,Nat.sub_mul]
 have gN:∀t u,news[t]?=some u→w.cell? ⟨mA,off+((i+1)*5+t),none⟩=some u:=fun t u hu=>by
  rw[tq,List.getElem?_drop] at hu
  exact hc _ u hu
 obtain⟨A,hA,uD⟩:∃A:Addr,(if cap=i+1 then some (⟨mA,off,none⟩:Addr) else some ⟨mA,off+(i+1)*5,none⟩)=some A∧Hid (∀t u,news[t]?=some u→w.drew.cell? (A.add t)=some u):=by
  by_cases h:cap=i+1
  ·refine⟨⟨mA,off,none⟩,by simp[h],fun t u hu=>?_⟩
   have h0:news.length=0:=by rw[hlen];omega
   rw[List.length_eq_zero_iff.1 h0] at hu
   simp at hu
  refine⟨⟨mA,off+(i+1)*5,none⟩,by simp[h],fun t u hu=>?_⟩
  rw[Addr.add_lit,Nat.add_assoc]
  exact gN t u hu
 have vN:∀t,t<n*5→(w.cell? ⟨mA,off+t,none⟩).isSome=true:=fun t ht=>by
  rw[hc t F[t] (List.getElem?_eq_getElem (by omega))];rfl
 have s1:Hid (news.length=(n - (i+1))*5):=hlen
 have s2:Hid (∀u∈news,u.oneCell'=true):=fun u hu=>h1 u (List.mem_of_mem_drop (by rw[← tq];exact hu))
 have s3:Hid (∀t,t<news.length→(w.drew.cell? ⟨mA,off+i*5+t,none⟩).isSome=true∧w.drew.frozen? ⟨mA,off+i*5+t,none⟩=false):=by
  intro t ht
  rw[hlen] at ht
  rw[Nat.add_assoc]
  exact⟨vN (i*5+t) (by omega),uz _⟩
 obtain⟨W1,Kh⟩:∃W1,W1=w.drew.setCells mA (off+i*5) news:=⟨_,rfl⟩
 have dC:∀t,t<n*5→(W1.cell? ⟨mA,off+t,none⟩).isSome=true:=fun t ht=>by
  rw[Kh]
  by_cases hr:i*5≤t∧t<i*5+news.length
  ·have:=World.cell?_setCells_in mA news (off+i*5) w.drew (fun j hj=>by rw[Nat.add_assoc];exact vN _ (by omega)) (t - i*5) (by omega)
   rw[show off+i*5+(t - i*5)=off+t by omega] at this
   rw[this];rfl
  rw[World.cell?_setCells_out mA news (off+i*5) w.drew _ (fun _ _=>by simp;omega)]
  exact vN t ht
 have fx:∀ty,(Builtin.clear_ #[31] ty #[.slice (some ⟨mA,off+(i+(n - (i+1)))*5,none⟩) (n - (i+(n - (i+1)))) (cap - (i+(n - (i+1))))]).run prog W1=.ok (.tuple #[]) (W1.setCells mA (off+(i+(n - (i+1)))*5) (List.replicate 5 (.int .i64 0))):=fun ty=>by
  rw[show n - (i+(n - (i+1)))=1 by omega]
  exact zye W1 ty mA _ _ (fun j hj=>by rw[Nat.add_assoc];exact dC _ (by omega)) (fun j hj=>by rw[Kh,World.frozen?_setCells];exact uz _)
 have hW:Hid (W1=w.drew.setCells mA (off+i*5) news):=Kh
 have oU:i≤cap:=by omega
 have qg:i+1≤cap:=by omega
 have MY:(0:Int)≤(i:Int)+1:=by omega
 have qu:(i:Int)+1≤(n:Int):=by omega
 have ra:((i:Int)+1).toNat=i+1:=by omega
 have a8:¬((i:Int)=(i:Int)+1):=by omega
 rw[← tq,← Kh]
 clear Kh gN tq hlen hc uz dC vN h1
 go_enter func111,ntmps111
 go_wp2_with fail
 go_region_law_o (refine step_append_room rfl (.tmp 22) (.tmp 25) 31 rfl 48 i0 5 ht Q7 nk mA off i cap (by simp[Act.eval,Act.put]) A (n - (i+1)) (cap - (i+1)) news (by simp[Act.eval,Act.put]) s1.out uD.out s2.out (by omega) s3.out ?_;rw[← hW.out])
 go_wp2
 go_ret
 exact⟨rfl,rfl⟩
theorem zzc (F:List Value)(n k m:Nat)(hF:F.length=n*m)(hk:k<n)(Z:List Value)(hZ:Z.length=m) :
  ia (ia F (k*m) (F.drop ((k+1)*m))) ((n - 1)*m) Z=F.take (k*m)++F.drop ((k+1)*m)++Z:=by
 obtain⟨d,rfl⟩:∃d,n=k+1+d:=⟨n - (k+1),by omega⟩
 have e1:(k+1+d)*m=k*m+m+d*m:=by rw[Nat.add_mul,Nat.add_mul,Nat.one_mul]
 have e2:(k+1)*m=k*m+m:=by rw[Nat.add_mul,Nat.one_mul]
 have e3:(k+1+d - 1)*m=k*m+d*m:=by rw[show k+1+d - 1=k+d by omega,Nat.add_mul]
 rw[e1] at hF
 rw[e2,e3]
 have hd:(F.drop (k*m+m)).length=d*m:=by rw[List.length_drop];omega
 have ht:(F.take (k*m)).length=k*m:=by rw[List.length_take];omega
 have h1:ia F (k*m) (F.drop (k*m+m))=F.take (k*m)++F.drop (k*m+m)++F.drop (k*m+d*m):=by
  unfold ia
  rw[hd]
 rw[h1]
 have hc:(F.drop (k*m+d*m)).length=m:=by rw[List.length_drop];omega
 generalize F.take (k*m)=A at *
 generalize F.drop (k*m+m)=B at *
 generalize F.drop (k*m+d*m)=C at *
 unfold ia
 rw[List.take_left' (by rw[List.length_append,ht,hd])]
 have h0:(A++B++C).drop (k*m+d*m+Z.length)=[]:=List.drop_eq_nil_of_le (by rw[List.length_append,List.length_append,ht,hd,hc,hZ];exact Nat.le_refl _)
 rw[h0,List.append_nil]
theorem W5 {α β:Type}{l:α→List β}{m:Nat}(hl:∀x,(l x).length=m):∀(zs:List α) (k:Nat),(zs.eraseIdx k).flatMap l=(zs.flatMap l).take (k*m)++(zs.flatMap l).drop ((k+1)*m)
 |[],k=>by simp
 |a::r,0=>by
  rw[List.eraseIdx_cons_zero,Nat.zero_mul,List.take_zero,List.nil_append,Nat.zero_add,Nat.one_mul,List.flatMap_cons,List.drop_left' (hl a)]
 |a::r,k+1=>by
  have t1:∀R,(l a++R).take ((k+1)*m)=l a++R.take (k*m):=fun R=>by
   rw[show (k+1)*m=(l a).length+k*m by rw[hl,Nat.add_mul,Nat.one_mul,Nat.add_comm],List.take_append,List.take_of_length_le (l:=l a) (Nat.le_add_right _ _),Nat.add_sub_cancel_left]
  have t2:∀R,(l a++R).drop ((k+1+1)*m)=R.drop ((k+1)*m):=fun R=>by
   rw[show (k+1+1)*m=(l a).length+(k+1)*m by rw[hl,Nat.add_mul (k+1),Nat.one_mul,Nat.add_comm],List.drop_append]
   have h0:(l a).drop ((l a).length+(k+1)*m)=[]:=List.drop_eq_nil_of_le (Nat.le_add_right _ _)
   rw[h0,Nat.add_sub_cancel_left,List.nil_append]
  rw[List.eraseIdx_cons_succ,List.flatMap_cons,W5 hl r k,List.flatMap_cons,t1,t2,List.append_assoc]
theorem Ki {α:Type}(u v:Option α):∀(n:Nat) (t:Tr α) (i:Nat),Tr.set v n (Tr.set u n t i) i=Tr.set v n t i
 |0,t,i=>rfl
 |n+1,.nil,i=>by
  cases h1:Nat.beq i 0 with
  |true=>simp[Tr.set,h1]
  |false=>
   cases h2:Nat.beq (i % 2) 1 with
   |true=>simp[Tr.set,h1,h2,Ki u v n]
   |false=>simp[Tr.set,h1,h2,Ki u v n]
 |n+1,.node l x r,i=>by
  cases h1:Nat.beq i 0 with
  |true=>simp[Tr.set,h1]
  |false=>
   cases h2:Nat.beq (i % 2) 1 with
   |true=>simp[Tr.set,h1,h2,Ki u v n]
   |false=>simp[Tr.set,h1,h2,Ki u v n]
theorem xb8 (h:ai)(o:Nat)(x y:Option bn):(h.put o x).put o y=h.put o y:=by
 unfold ai.put
 simp only[Ki]
section
variable {lo:Nat} {h:ai}
variable [bE] in
theorem qv.delete {o n k kk s:Nat}{F:List Value}(hg:h.get o=some (.cells s F))(hl:lo≤o)(hF:F.length=n*5)(h1:∀u∈F,ot u=true∧u.oneCell'=true)(hk:k<n)(p8:kk<eU) :
  qv prog lo 111 [.slice (some ⟨o,0,none⟩) n kk,.int .i64 k,.int .i64 ((k:Int)+1)] h fun r h'=>r=.slice (some ⟨o,0,none⟩) (n - 1) kk∧h'=h.put o (some (.cells s (F.take (k*5)++F.drop ((k+1)*5)++List.replicate 5 (.int .i64 0)))):=by
 refine .MG fun U w bj ha r=>?_
 obtain⟨v1,r1,jI,iF,oQ⟩:=ha.eJ
 obtain⟨v2,r2,jk,eZ,ky⟩:=oQ.eJ
 obtain⟨v3,r3,lh,DY,FV⟩:=ky.eJ
 have:=FV.lV;subst this
 cases eZ;cases DY
 subst lh;subst jk
 have j5:bj=#[v1,.int .i64 k,.int .i64 ((k:Int)+1)]:=Array.ext' (by simpa using jI)
 subst j5
 cases iF with
 |slice _ _ _ _ b a C hm De my=>
  have s5:=qT r hg hm
  have oe:∀t u,F[t]?=some u→w.cell? ⟨b,a+0+t,none⟩=some u:=fun t u hu=>by
   obtain⟨v',e1,e2⟩:=s5.2.1 t u hu
   rw[IK (h1 u (List.mem_of_getElem? hu)).1 e2] at e1
   rw[Nat.add_zero];exact e1
  refine(zr8 b (a+0) (jz C kk) k n F w hF (fun u hu=>(h1 u hu).2) oe (fun t=>r.fZ o _ b a C hl hg hm t) De hk).mono fun e w' ⟨e1,e2⟩=>?_
  have self:∀l:List Value,(∀u∈l,u∈F∨u=.int .i64 0)→bB U l l:=fun l hl=>⟨rfl,fun i v hv=>⟨v,hv,by
   rcases hl v (List.mem_of_getElem? hv) with hm|rfl
   ·exact .Bv (h1 v hm).1
   exact .int _ _⟩⟩
  have qe:k*5+5+(n - (k+1))*5=n*5:=by omega
  obtain⟨r2,f2⟩:=GY r.drew hg hl hm (k*5) (F.drop ((k+1)*5)) (F.drop ((k+1)*5)) (self _ fun u hu=>.inl (List.mem_of_mem_drop hu)) (by rw[List.length_drop];omega)
  have nH:(h.put o (some (.cells s (ia F (k*5) (F.drop ((k+1)*5)))))).get o=some (.cells s (ia F (k*5) (F.drop ((k+1)*5)))):=by rw[ai.eT _ _ _ _ (ai.iE hg),if_pos rfl]
  have fP:(ia F (k*5) (F.drop ((k+1)*5))).length=n*5:=by rw[OC _ _ _ (by rw[List.length_drop];omega),hF]
  obtain⟨r3,f3⟩:=GY r2 nH hl hm ((n - 1)*5) (List.replicate 5 (.int .i64 0)) (List.replicate 5 (.int .i64 0)) (self _ fun u hu=>.inr (List.eq_of_mem_replicate hu)) (by rw[fP,List.length_replicate];omega)
  rw[zzc F n k 5 hF hk _ (by rw[List.length_replicate])] at r3 f3
  rw[xb8] at r3 f3
  have ew:w'=(w.drew.setCells b (a+k*5) (F.drop ((k+1)*5))).setCells b (a+(n - 1)*5) (List.replicate 5 (.int .i64 0)):=by rw[e2,Nat.add_zero,show k+(n - (k+1))=n - 1 by omega]
  rw[← ew] at r3 f3
  refine⟨.slice (some ⟨o,0,none⟩) (n - 1) kk,.slice (some ⟨b,a+0,none⟩) (n - 1) (jz C kk),_,U,by rw[e1,show k+(n - (k+1))=n - 1 by omega],.slice _ _ _ _ _ _ _ hm (by omega) my,r3,(Frame.drew lo U h w).trans (f2.trans f3),rfl,rfl⟩
 |cj=>exact absurd p8 (Nat.lt_irrefl _)
 |cK=>omega
end
variable [bE] in
theorem Q8 {vh:af}{i n k:Nat}{nl:Bool}{zs:List ak}(hg:vh.get i=some (.grow 5 (zs.map encS)))(hn:zs.length=n)(hk:k<n) :
  eN prog 111 [.grow i n nl,.int .i64 k,.int .i64 ((k:Int)+1)] vh fun r aq=>r=.sub i 0 (n - 1)∧aq=vh.put i (.arr true 5 (((zs.eraseIdx k).flatMap lS++[0,0,0,0,0]).map (PV.int .i64))):=fun lo ga σ h aH ha s=>by
 subst hn
 obtain⟨v1,r1,rfl,hv,hr⟩:=ha.eJ
 obtain⟨v2,r2,rfl,eZ,ky⟩:=hr.eJ
 obtain⟨v3,r3,rfl,DY,FV⟩:=ky.eJ
 have:=FV.lV;subst this
 have e2:v2=.int .i64 k:=by cases eZ with|fr _ _ h=>cases h;rfl
 have e3:v3=.int .i64 ((k:Int)+1):=by cases DY with|fr _ _ h=>cases h;rfl
 subst e2;subst e3
 have Q9:zs.map encS=zs.map fun x=>PV.agg ((lS x).map (PV.int .i64)):=rfl
 rw[Q9] at hg
 obtain⟨hi,W6,fx,dC,oy⟩:=s.obj i _ hg
 have db:zs≠[]:=fun e=>by subst e;simp at hk
 rcases oy with wV|⟨s0,au,h1,h2,h3,h4⟩
 ·exact absurd (by simpa using wV) db
 rw[Ra] at h3
 have sJ:=bp.ints h3
 generalize hm:zs.length=m at hv
 cases hv with
 |fr _ _ h=>cases h
 |cB=>omega
 |cC=>omega
 |grow _ _ o a kk _ dB hs hn=>
  subst hm
  have ir:(aO.grow 5 (zs.map fun x=>PV.agg ((lS x).map (PV.int .i64)))).live=true:=by
   cases zs with
   |nil=>simp at hn
   |cons=>rfl
  have bS:=s.low i _ hg ir
  rw[hs] at h1 h2 h4 bS;simp only at h1 h2 h4 bS;subst h2
  subst sJ
  have Cl:zs.length<4611686018427387904:=by
   have h6:(zs.map fun x=>PV.agg ((lS x).map (PV.int .i64))).length<4611686018427387904:=dC
   rw[List.length_map] at h6
   exact h6
  have eY:kk+(zs.length - 1)<eU:=by
   show kk+(zs.length - 1)<9223372036854775808
   rcases h4 with⟨rfl,_⟩|rfl
   ·simp only[aC];omega
   rw[List.length_map];omega
  have ee:zs.length - 1≤kk:=by
   rcases h4 with⟨rfl,_⟩|rfl
   ·simp only[aC];omega
   rw[List.length_map];omega
  have hS:=qv.delete (h:=h) (lo:=lo) (kk:=kk) h1 bS (by rw[List.length_map,HQ (fun _=>rfl) (k:=5)]) (fun u hu=>by obtain⟨x,_,rfl⟩:=List.mem_map.1 hu;exact⟨rfl,rfl⟩) hk (by omega)
  refine hS.mono fun r h' ⟨e1,e2⟩=>?_
  have mV:((zs.flatMap lS).map (Value.int .i64)).take (k*5)++((zs.flatMap lS).map (Value.int .i64)).drop ((k+1)*5)++List.replicate 5 (Value.int .i64 0)=(((zs.eraseIdx k).flatMap lS++[0,0,0,0,0]).map (Value.int .i64)):=by
   rw[W5 (l:=lS) (m:=5) (fun _=>rfl),List.map_append,List.map_append,List.map_take,List.map_drop];rfl
  rw[mV] at e2
  subst e1;subst e2
  have hw:=s.write hg ir (x':=.arr true 5 (((zs.eraseIdx k).flatMap lS++[0,0,0,0,0]).map (PV.int .i64))) (.cells s0 (((zs.eraseIdx k).flatMap lS++[0,0,0,0,0]).map (Value.int .i64)))
   ⟨by decide,s0,_,by rw[ai.eT _ _ _ _ (by rw[hs];exact ai.iE h1),if_pos rfl],by rw[hs],bp.Rb _⟩
  rw[hs] at hw
  refine⟨ga,σ,.sub i 0 (zs.length - 1),_,?_,hw.1,Fz.le_refl ga,fun _ _=>rfl,hw.2,Nat.le_refl _,e9.refl _ _ _ _,rfl,rfl⟩
  have:=VR.sub (g:=ga) (σ:=σ) (n:=vh.next) i 0 (zs.length - 1) kk o 0 _ dB hs ee eY
  rw[Nat.zero_add] at this
  exact this
open Go Go.Am Go.Proofs Tryz
attribute [local simp] de fQ lz dz dN jD af.back b6 dG iO bm Nat.testBit_eq_decide_div_mod_eq ct gf jB vO kN dX kO gE cJ jR jQ kK dY kL j9 jq ly j8 kM kF kC kG kD kE kH kI jM di ig dd kP jS ka kQ kR jL ls lu dW jC dy dx dA iL dK jY jO jP gX kz a7 j7 dw bA bC ja af.get af.alloc af.put af.drop af.empty bq cg gd gR fe cp chunk List.range List.range.loop iP lA jr bI bG PV.aD PV.az PV.b8 PV.dv eu dZ kc PV.one PV.ids PV.bT fJ beq_eq lQ l9
attribute [local simp] cQ bQ cw jU lD jE jN jc ef dD
attribute [local simp ↓ high] mG ma
section
variable [bE]
theorem xef:aI prog 146 [.vec []] fun r=>r=.vec []∨r=.aJ:=by
 refine .bJ func146 rfl rfl ?_
 refine .sr ?_
 refine .seq (.seq (.ar [0,1] rfl ae (.rn [0] _ ?_)))
 refine .step rfl rfl (.Kj ⟨_,rfl⟩ u25 rfl rfl (by decide) fun q=>?_)
 refine .done ?_
 cases q with
 |true=>
  refine .dR rfl (.sr ?_)
  refine .ret ?_
  exact⟨_,.aJ,jF,(by simp),.inr rfl⟩
 |false=>
  refine .gI rfl (.skip (.sr ?_))
  refine .ret ?_
  first|exact⟨_,.vec [],jF,(by simp),.inl rfl⟩|exact⟨_,.aJ,jF,(by simp),.inr rfl⟩
theorem xly:aI prog 146 [.vec []] fun r=>r=.vec []:=
 xef.alt fun r h=>by
  rcases h with rfl|rfl
  ·exact⟨.vec [],.same _ rfl,rfl,rfl⟩
  exact⟨.vec [],.eH,rfl,rfl⟩
theorem xh2:aI prog 147 [.vec []] fun r=>r=.vec []∨r=.aJ:=by
 refine .bJ func147 rfl rfl ?_
 refine .sr ?_
 refine .seq (.seq (.ar [0,1] rfl ae (.rn [0] _ ?_)))
 refine .step rfl rfl (.Kj ⟨_,rfl⟩ u26 rfl rfl (by decide) fun q=>?_)
 refine .done ?_
 cases q with
 |true=>
  refine .dR rfl (.sr ?_)
  refine .ret ?_
  exact⟨_,.aJ,jF,(by simp),.inr rfl⟩
 |false=>
  refine .gI rfl (.skip (.sr ?_))
  refine .ret ?_
  first|exact⟨_,.vec [],jF,(by simp),.inl rfl⟩|exact⟨_,.aJ,jF,(by simp),.inr rfl⟩
theorem xm3:aI prog 147 [.vec []] fun r=>r=.vec []:=
 xh2.alt fun r h=>by
  rcases h with rfl|rfl
  ·exact⟨.vec [],.same _ rfl,rfl,rfl⟩
  exact⟨.vec [],.eH,rfl,rfl⟩
theorem xll (l:List Int)(hl:l.length<4294967296)(h0:0<l.length):aI prog 146 [ints l] fun r=>r=ints l:=by
 obtain⟨a,r,rfl⟩:∃a r,l=a::r:=by cases l with|nil=>simp at h0|cons a r=>exact⟨a,r,rfl⟩
 have BW:r.length+1≤4294967296:=by simp at hl;omega
 have h1:nU 1 (PV.int .i64 a::r.map (PV.int .i64))=true:=AQ (f:=PV.int .i64) (n:=1) (fun _=>rfl) (a::r)
 have h2:nV (PV.int .i64 a::r.map (PV.int .i64))=true:=AR (f:=PV.int .i64) (fun _=>rfl) (a::r)
 refine .bJ func146 rfl rfl ?_
 refine .sr ?_
 refine .seq (.sr ?_)
 refine .cs ?_ ?_<;>intro c4
 ·try simp at c4
 try simp at c4
 refine .skip (.sr ?_)
 refine .ret (ax ?_)
 exact zk
theorem xkx (l:List pw)(hl:l.length<4294967296)(h0:0<l.length):eN prog 147 [.vec (l.map cy)] af.empty fun v aq=>∃i nl,v=.grow i l.length nl∧aq.get i=some (.grow 2 (l.map cy)):=by
 obtain⟨a,r,rfl⟩:∃a r,l=a::r:=by cases l with|nil=>simp at h0|cons a r=>exact⟨a,r,rfl⟩
 have BW:r.length+1≤4294967296:=by simp at hl;omega
 have h1:nU 2 (cy a::r.map cy)=true:=AQ (f:=cy) (n:=2) (fun _=>rfl) (a::r)
 have h2:nV (cy a::r.map cy)=true:=AR (f:=cy) (fun _=>rfl) (a::r)
 refine .bJ func147 rfl rfl ?_
 refine .sr ?_
 refine .seq (.sr ?_)
 refine .cs ?_ ?_<;>intro c4
 ·try simp at c4
 try simp at c4
 refine .skip (.sr ?_)
 refine .ret ?_
 exact⟨_,jF,_,_,rfl,by simp⟩
theorem xlm (l:List ak)(hl:l.length<4294967296)(h0:0<l.length):eN prog 112 [.vec (l.map encS)] af.empty fun v aq=>∃i nl,v=.grow i l.length nl∧aq.get i=some (.grow 5 (l.map encS)):=by
 obtain⟨a,r,rfl⟩:∃a r,l=a::r:=by cases l with|nil=>simp at h0|cons a r=>exact⟨a,r,rfl⟩
 have BW:r.length+1≤4294967296:=by simp at hl;omega
 have h1:nU 5 (encS a::r.map encS)=true:=AQ (f:=encS) (n:=5) (fun _=>rfl) (a::r)
 have h2:nV (encS a::r.map encS)=true:=AR (f:=encS) (fun _=>rfl) (a::r)
 refine .bJ func112 rfl rfl ?_
 refine .sr ?_
 refine .seq (.sr ?_)
 refine .cs ?_ ?_<;>intro c4
 ·try simp at c4
 try simp at c4
 refine .skip (.sr ?_)
 refine .ret ?_
 exact⟨_,jF,_,_,rfl,by simp⟩
theorem wY (l:List Int)(hl:l.length<4294967296):aI prog 146 [ints l] fun r=>r=ints l:=by
 cases l with
 |nil=>exact xly
 |cons a r=>exact xll (a::r) hl (by simp)
end
theorem Rc (l:List mD):oG 3 (l.map bD):=.map (g:=fun m=>[.int .i64 m.f,.int .i64 m.t,.int .i64 m.c]) (fun _=>rfl) (fun _=>rfl) l
theorem Re (l:List pw):oG 2 (l.map cy):=.map (g:=fun g=>[.int .i64 g.at_,ints g.ws]) (fun _=>rfl) (fun _=>rfl) l
theorem xkf (l:List mD):nV (l.map bD)=true:=AR (f:=bD) (fun _=>rfl) l
theorem Rf (l:List mD):nU 3 (l.map bD)=true:=AQ (f:=bD) (n:=3) (fun _=>rfl) l
def pJ (l:List pw):List PV:=(l.map cy).flatMap PV.cells
@[simp] theorem xjv (l:List pw):(pJ l).length=l.length*2:=by unfold pJ;rw[(Re l).len,List.length_map]
theorem W7:∀(l:List pw) (k:Nat) {y:pw},l[k]?=some y→∃A B,pJ l=A++.int .i64 y.at_::ints y.ws::B∧A.length=k*2
 |[],k,y,h=>by simp at h
 |a::r,0,y,h=>by
  simp only[List.getElem?_cons_zero,aB] at h
  subst h
  exact⟨[],pJ r,rfl,rfl⟩
 |a::r,k+1,y,h=>by
  obtain⟨A,B,h1,h2⟩:=W7 r k (y:=y) (by simpa using h)
  refine⟨.int .i64 a.at_::ints a.ws::A,B,?_,by simp[h2];omega⟩
  show .int .i64 a.at_::ints a.ws::pJ r=_
  rw[h1];rfl
theorem W8 {l:List pw}(h:0<l.length){vh:af}{n2:Nat}{D:Nat→Bool}{ρ:Nat→Nat}:oH vh n2 D ρ (.grow 2 (l.map cy)) (.arr true 2 (pJ l)):=by
 cases l with
 |nil=>simp at h
 |cons a r=>exact⟨rfl,⟨_,_,rfl⟩,rfl⟩
theorem W9 {l:List pw}{k:Nat}{y:pw}(h:l[k]?=some y):(pJ l)[k*2+1]?=some (ints y.ws):=by
 obtain⟨A,B,h1,h2⟩:=W7 l k h
 rw[h1,← h2,List.getElem?_append_right (by omega)]
 simp
theorem z5s {l:List pw}{k:Nat}{y:pw}(h:l[k]?=some y):(pJ l).take (k*2+1)++ints y.ws::(pJ l).drop (k*2+1+1)=pJ l:=by
 have hg:=W9 h
 obtain⟨hl,he⟩:=List.getElem?_eq_some_iff.1 hg
 rw[← he,← List.drop_eq_getElem_cons hl,List.take_append_drop]
variable [bE] in
theorem Rg (c:aj)(hk:aN c=0):aI prog 101 [aA c] fun r=>r=aA c:=by
 have aP:=fC hk
 have nY:=aP.tl
 have fx:=aP.cl
 have lj:=aP.MP
 have hg6:=aP.yV
 have hC:cu c=(cQ c):=rfl
 unfold aA
 rw[hC]
 have b7:(c.mx.length:Int)≤4294967296:=by omega
 have hvc:=fun (vh:af) (hg:vh.get 2=some (.arr true 3 (cp [.int .i64 0,.int .i64 0,.int .i64 0] c.mx.length)))=>z0v (P:=prog) (t:=22) (k:=c.mx.length) (z:=[.int .i64 0,.int .i64 0,.int .i64 0]) rfl (by decide) (Rc c.mx) (Rf c.mx) (xkf c.mx) rfl (by simp) hg
 have yaA:=fun l hl=>wY l hl
 refine .bJ func101 rfl rfl ?_
 rcases Nat.eq_zero_or_pos c.g.length with tX|uf
 ·
  have A3:c.g=[]:=List.eq_nil_of_length_eq_zero tX
  unfold cQ
  rw[A3]
  refine .seq ?_
  refine .run ae (by simp[*,-cJ,-cp]<;>first|exact⟨rfl,rfl⟩|exact rfl) ?_
  refine .seq ?_
  refine .run ae (by simp[*,-cJ,-cp]<;>first|exact⟨rfl,rfl⟩|exact rfl) ?_
  refine .seq ?_
  refine .run ae (by simp[*,-cJ,-cp]<;>first|exact⟨rfl,rfl⟩|exact rfl) ?_
  refine .seq ?_
  refine .run ae (by simp[*,-cJ,-cp]<;>first|exact⟨rfl,rfl⟩|exact rfl) ?_
  refine .seq ?_
  refine .rec (aF:=[(1,.ptr 0 0),(2,.ptr 1 0)]) (aZ:=⟨2,[(1,.box [.int .i64 0,.int .i64 0,.int .i64 0,.int .i64 0,.int .i64 0,.aJ,.aJ,.aJ,.aJ]),(0,.box (cQ c))]⟩) (.mk [2] [] Kk Kl rfl rfl rfl) ?_
  refine .drawn (ms:=[0,1,3,0,8,31,0,64,255,223,1023,2047,4095,8191,16383]) (W:=[2,5,8,10,12,14]) (items:=Km) rfl ae ae ae ?_
  refine .rd rfl rfl (by decide) rfl (by decide) (by simp[*,-cJ,-cp]<;>first|exact⟨rfl,rfl⟩|exact rfl) ?_
  refine .rd rfl rfl (by decide) rfl (by decide) (by simp[*,-cJ,-cp]<;>first|exact⟨rfl,rfl⟩|exact rfl) ?_
  refine .rd rfl rfl (by decide) rfl (by decide) (by simp[*,-cJ,-cp]<;>first|exact⟨rfl,rfl⟩|exact rfl) ?_
  refine .rd rfl rfl (by decide) rfl (by decide) (by simp[*,-cJ,-cp]<;>first|exact⟨rfl,rfl⟩|exact rfl) ?_
  refine .rd rfl rfl (by decide) rfl (by decide) (by simp[*,-cJ,-cp]<;>first|exact⟨rfl,rfl⟩|exact rfl) ?_
  refine .rd rfl rfl (by decide) rfl (by decide) (by simp[*,-cJ,-cp]<;>first|exact⟨rfl,rfl⟩|exact rfl) ?_
  refine .wp rfl rfl rfl rfl rfl call146 (wY c.t (by omega)) ?_
  refine .ck rfl eQ ?_
  refine .ck rfl eQ ?_
  refine .rd rfl rfl (by decide) rfl (by decide) (by simp[*,-cJ,-cp]<;>first|exact⟨rfl,rfl⟩|exact rfl) ?_
  refine .wp rfl rfl rfl rfl rfl call146 (wY c.c (by omega)) ?_
  refine .ck rfl eQ ?_
  refine .wp rfl rfl rfl rfl rfl call147 (xm3) ?_
  refine .wr rfl rfl (by decide) (.dz (by simp[*,-cJ,-cp]<;>first|exact⟨rfl,rfl⟩|exact rfl) (by decide) ?_)
  refine .rd rfl rfl (by decide) rfl (by decide) (by simp[*,-cJ,-cp]<;>first|exact⟨rfl,rfl⟩|exact rfl) ?_
  refine .wr rfl rfl (by decide) (.dz (by simp[*,-cJ,-cp]<;>first|exact⟨rfl,rfl⟩|exact rfl) (by decide) ?_)
  refine .rd rfl rfl (by decide) rfl (by decide) (by simp[*,-cJ,-cp]<;>first|exact⟨rfl,rfl⟩|exact rfl) ?_
  refine .wr rfl rfl (by decide) (.dz (by simp[*,-cJ,-cp]<;>first|exact⟨rfl,rfl⟩|exact rfl) (by decide) ?_)
  refine .done (.seq (.seq ?_))
  refine .run ae (by simp[*,-cJ,-cp]<;>first|exact⟨rfl,rfl⟩|exact rfl) ?_
  refine .block ?_
  refine .cZ (fun k:Nat=>([(1,.ptr 0 0),(2,.ptr 1 0),(32,.int .i64 0),(33,.int .i64 k)],⟨2,[(1,.box [.int .i64 0,.int .i64 0,.int .i64 0,.int .i64 0,.int .i64 0,.aJ,.aJ,.aJ,.aJ]),(0,.box [.int .i64 c.om,.int .i64 c.le,.int .i64 c.tw,.int .i64 c.gl,.int .i64 c.ad,.vec (c.mx.map bD),ints c.t,.vec [],ints c.c])]⟩)) (fun k=>k=0) (fun k=>0) 0 rfl aX ?_
  rintro k im
  simp only at im ⊢
  refine .seq ?_
  refine .run ae (by simp[*,-cJ,-cp]<;>first|exact⟨rfl,rfl⟩|exact rfl) ?_
  refine .seq ?_
  refine .cs ?_ ?_<;>intro oa
  ·try simp at oa
  try simp at oa
  refine .exit (.seq ?_)
  refine .run ae (by simp[*,-cJ,-cp]<;>first|exact⟨rfl,rfl⟩|exact rfl) ?_
  refine .ret (ax ?_)
  exact zk
 ·
  refine .seq ?_
  refine .run ae (by simp[*,-cJ,-cp]<;>first|exact⟨rfl,rfl⟩|exact rfl) ?_
  refine .seq ?_
  refine .run ae (by simp[*,-cJ,-cp]<;>first|exact⟨rfl,rfl⟩|exact rfl) ?_
  refine .seq ?_
  refine .run ae (by simp[*,-cJ,-cp]<;>first|exact⟨rfl,rfl⟩|exact rfl) ?_
  refine .seq ?_
  refine .run ae (by simp[*,-cJ,-cp]<;>first|exact⟨rfl,rfl⟩|exact rfl) ?_
  refine .seq ?_
  refine .rec (aF:=[(1,.ptr 0 0),(2,.ptr 1 0)]) (aZ:=⟨2,[(1,.box [.int .i64 0,.int .i64 0,.int .i64 0,.int .i64 0,.int .i64 0,.aJ,.aJ,.aJ,.aJ]),(0,.box (cQ c))]⟩) (.mk [2] [] Kk Kl rfl rfl rfl) ?_
  refine .drawn (ms:=[0,1,3,0,8,31,0,64,255,223,1023,2047,4095,8191,16383]) (W:=[2,5,8,10,12,14]) (items:=Km) rfl ae ae ae ?_
  refine .rd rfl rfl (by decide) rfl (by decide) (by simp[*,-cJ,-cp]<;>first|exact⟨rfl,rfl⟩|exact rfl) ?_
  refine .rd rfl rfl (by decide) rfl (by decide) (by simp[*,-cJ,-cp]<;>first|exact⟨rfl,rfl⟩|exact rfl) ?_
  refine .rd rfl rfl (by decide) rfl (by decide) (by simp[*,-cJ,-cp]<;>first|exact⟨rfl,rfl⟩|exact rfl) ?_
  refine .rd rfl rfl (by decide) rfl (by decide) (by simp[*,-cJ,-cp]<;>first|exact⟨rfl,rfl⟩|exact rfl) ?_
  refine .rd rfl rfl (by decide) rfl (by decide) (by simp[*,-cJ,-cp]<;>first|exact⟨rfl,rfl⟩|exact rfl) ?_
  refine .rd rfl rfl (by decide) rfl (by decide) (by simp[*,-cJ,-cp]<;>first|exact⟨rfl,rfl⟩|exact rfl) ?_
  refine .wp rfl rfl rfl rfl rfl call146 (wY c.t (by omega)) ?_
  refine .ck rfl eQ ?_
  refine .ck rfl eQ ?_
  refine .rd rfl rfl (by decide) rfl (by decide) (by simp[*,-cJ,-cp]<;>first|exact⟨rfl,rfl⟩|exact rfl) ?_
  refine .wp rfl rfl rfl rfl rfl call146 (wY c.c (by omega)) ?_
  refine .ck rfl eQ ?_
  refine .wr rfl rfl (by decide) (.call rfl rfl rfl call147 (by decide) (((eN.zh (by simp) (xkx c.g (by omega) uf) rfl uf)).mono ?_))
  rintro _ _ ⟨rfl,rfl⟩
  refine .wr rfl rfl (by decide) (.dz (by simp[*,-cJ,-cp]<;>first|exact⟨rfl,rfl⟩|exact rfl) (by decide) ?_)
  refine .rd rfl rfl (by decide) rfl (by decide) (by simp[*,-cJ,-cp]<;>first|exact⟨rfl,rfl⟩|exact rfl) ?_
  refine .wr rfl rfl (by decide) (.dz (by simp[*,-cJ,-cp]<;>first|exact⟨rfl,rfl⟩|exact rfl) (by decide) ?_)
  refine .rd rfl rfl (by decide) rfl (by decide) (by simp[*,-cJ,-cp]<;>first|exact⟨rfl,rfl⟩|exact rfl) ?_
  refine .wr rfl rfl (by decide) (.dz (by simp[*,-cJ,-cp]<;>first|exact⟨rfl,rfl⟩|exact rfl) (by decide) ?_)
  refine .done (.seq (.seq ?_))
  refine .run ae (by simp[*,-cJ,-cp]<;>first|exact⟨rfl,rfl⟩|exact rfl) ?_
  refine .block ?_
  refine .cZ (fun k:Nat=>([(1,.ptr 0 0),(2,.ptr 1 0),(32,.int .i64 c.g.length),(33,.int .i64 k)],⟨3,[(2,.arr true 2 (pJ c.g)),(1,.box [.int .i64 0,.int .i64 0,.int .i64 0,.int .i64 0,.int .i64 0,.aJ,.aJ,.aJ,.aJ]),(0,.box [.int .i64 c.om,.int .i64 c.le,.int .i64 c.tw,.int .i64 c.gl,.int .i64 c.ad,.vec (c.mx.map bD),ints c.t,.sub 2 0 c.g.length,ints c.c])]⟩)) (fun k=>k≤c.g.length) (fun k=>c.g.length - k) 0 (by simp) (.mk [] [] (by repeat' (first|exact trivial|exact trivial|exact Alt.zi 2 2 _ _ 2 _ (bc rfl) rfl rfl (by simp) uf|exact W8 uf|refine And.intro (Exists.intro _ (And.intro rfl ?_)) ?_|(refine Alt.same _ ?_;first|rfl|(simp[*];done))|exact Alt.a6 _ _ (bc rfl) rfl|exact Alt.grow _ _ _ _ (bc rfl) rfl|(refine Alt.A4 _ _ _ _ _ ?_ (bc rfl) rfl;simp[*];done)|exact Alt.ptr _ _ _ (bc rfl) rfl|exact Alt.own _ _ _ _ _ (bc rfl) rfl|exact Alt.sub _ _ _ _ (bc rfl) rfl|exact Alt.cm _ _ (bc rfl) rfl|exact Alt.aJ _ _|(refine Alt.qE _ _ _ ?_;simp[*];done)|exact Alt.e0 _|exact Alt.eO aK.nil (aK.cons (Alt.ptr _ _ _ (bc rfl) rfl) aK.nil)|exact Alt.eH|exact Alt.pH _ _ _|(refine Alt.b9 _ _ _ _ _ rfl rfl ?_;simp[*];done)|exact Alt.ki _ _ _ _ _ _ _ _ rfl rfl rfl|exact Alt.eP _ _ rfl rfl|(refine Alt.A5 ?_;simp[*]<;>rfl)|(refine Alt.ofEq rfl ?_;simp[*];done))) (by repeat' (first|exact trivial|exact trivial|exact Alt.zi 2 2 _ _ 2 _ (bc rfl) rfl rfl (by simp) uf|exact W8 uf|refine And.intro (And.intro (bc rfl) (Or.inr (And.intro rfl (Exists.intro _ (And.intro rfl ?_))))) ?_|refine And.intro (And.intro (bc rfl) (Or.inl (Exists.intro _ (And.intro rfl (bc rfl))))) ?_|refine And.intro (And.intro (bc rfl) (Or.inl (Exists.intro _ (And.intro (congrArg (aO.grow _) (by simp[*])) (bc rfl))))) ?_|rfl|exact aK.nil|(refine congrArg (aO.grow _) ?_;simp[*];done)|(refine congrArg aO.map ?_;simp[*];done)|(refine congrArg (aO.arr _ _) ?_;simp[*];done)|refine uc.mk rfl rfl rfl rfl rfl ?_|refine And.intro (Exists.intro _ (And.intro rfl ?_)) ?_|refine aK.cons ?_ ?_|(refine Alt.same _ ?_;first|rfl|(simp[*];done))|exact Alt.a6 _ _ (bc rfl) rfl|exact Alt.grow _ _ _ _ (bc rfl) rfl|(refine Alt.A4 _ _ _ _ _ ?_ (bc rfl) rfl;simp[*];done)|exact Alt.ptr _ _ _ (bc rfl) rfl|exact Alt.own _ _ _ _ _ (bc rfl) rfl|exact Alt.sub _ _ _ _ (bc rfl) rfl|exact Alt.cm _ _ (bc rfl) rfl|exact Alt.aJ _ _|(refine Alt.qE _ _ _ ?_;simp[*];done)|exact Alt.e0 _|exact Alt.eO aK.nil (aK.cons (Alt.ptr _ _ _ (bc rfl) rfl) aK.nil)|exact Alt.eH|exact Alt.pH _ _ _|(refine Alt.b9 _ _ _ _ _ rfl rfl ?_;simp[*];done)|exact Alt.ki _ _ _ _ _ _ _ _ rfl rfl rfl|exact Alt.eP _ _ rfl rfl|(refine Alt.A5 ?_;simp[*]<;>rfl)|(refine Alt.ofEq rfl ?_;simp[*];done))) rfl rfl rfl) ?_
  rintro k im
  simp only at im ⊢
  refine .seq ?_
  refine .run ae (by simp[*,-cJ,-cp]<;>first|exact⟨rfl,rfl⟩|exact rfl) ?_
  refine .seq ?_
  refine .cs ?_ ?_<;>intro oa
  ·try simp at oa
   have tf:k<c.g.length:=oa
   obtain⟨y,hy⟩:∃y,c.g[k]?=some y:=⟨c.g[k],List.getElem?_eq_getElem tf⟩
   have hym:y∈c.g:=List.mem_of_getElem? hy
   have qV:=(aP.MU y hym).2.2.1
   have gN:=W9 hy
   have tm:=z5s hy
   have qb:k*2+1+1≤c.g.length*2:=by omega
   have cR:=iQ k
   refine .skip (.seq (.block (.seq ?_)))
   refine .run ae (by simp[*,-cJ,-cp]<;>first|exact⟨rfl,rfl⟩|exact rfl) ?_
   refine .drawn (ms:=[0,1,0,0,8,0,56,120,248,504,1023,2047,4095]) (W:=[9,12]) (items:=[.op 0,.op 1,.op 2,.op 3,.op 4,.op 5,.op 6,.op 7,.op 8,.op 9,.ck 1,.op 10,.op 11,.op 12]) rfl ae ae ae ?_
   refine .rd rfl rfl (by decide) rfl (by decide) (by simp[*,-cJ,-cp]<;>first|exact⟨rfl,rfl⟩|exact rfl) ?_
   refine .rd rfl rfl (by decide) rfl (by decide) (by simp[*,-cJ,-cp]<;>first|exact⟨rfl,rfl⟩|exact rfl) ?_
   refine .rd rfl rfl (by decide) rfl (by decide) (by simp[*,-cJ,-cp]<;>first|exact⟨rfl,rfl⟩|exact rfl) ?_
   refine .rd rfl rfl (by decide) rfl (by decide) (by simp[*,-cJ,-cp]<;>first|exact⟨rfl,rfl⟩|exact rfl) ?_
   refine .rd rfl rfl (by decide) rfl (by decide) (by simp[*,-cJ,-cp]<;>first|exact⟨rfl,rfl⟩|exact rfl) ?_
   refine .rd rfl rfl (by decide) rfl (by decide) (by simp[*,-cJ,-cp]<;>first|exact⟨rfl,rfl⟩|exact rfl) ?_
   refine .rd rfl rfl (by decide) rfl (by decide) (by simp[*,-cJ,-cp]<;>first|exact⟨rfl,rfl⟩|exact rfl) ?_
   refine .rd rfl rfl (by decide) rfl (by decide) (by simp[*,-cJ,-cp]<;>first|exact⟨rfl,rfl⟩|exact rfl) ?_
   refine .rd rfl rfl (by decide) rfl (by decide) (by simp[*,-cJ,-cp]<;>first|exact⟨rfl,rfl⟩|exact rfl) ?_
   refine .wp rfl rfl rfl rfl rfl call146 (wY y.ws (by omega)) ?_
   refine .ck rfl eQ ?_
   refine .rd rfl rfl (by decide) rfl (by decide) (by simp[*,-cJ,-cp]<;>first|exact⟨rfl,rfl⟩|exact rfl) ?_
   refine .rd rfl rfl (by decide) rfl (by decide) (by simp[*,-cJ,-cp]<;>first|exact⟨rfl,rfl⟩|exact rfl) ?_
   refine .wr rfl rfl (by decide) (.dz (by simp[*,-cJ,-cp]<;>first|exact⟨rfl,rfl⟩|exact rfl) (by decide) ?_)
   refine .done ?_
   refine .run ae (by simp[*,-cJ,-cp]<;>first|exact⟨rfl,rfl⟩|exact rfl) ?_
   refine⟨k+1,ba,ba,aX⟩
  try simp at oa
  refine .exit (.seq ?_)
  refine .rec (aF:=[(1,.ptr 0 0),(2,.ptr 1 0)]) (aZ:=⟨2,[(1,.box [.int .i64 0,.int .i64 0,.int .i64 0,.int .i64 0,.int .i64 0,.aJ,.aJ,.aJ,.aJ]),(0,.box (cQ c))]⟩) (.mk [2] [] Rh Ri rfl rfl rfl) ?_
  refine .run ae (by simp[*,-cJ,-cp]<;>first|exact⟨rfl,rfl⟩|exact rfl) ?_
  refine .ret (ax ?_)
  exact zk
end Go.Am.Sl
end
