/-
 What is used in the proof of a statement (part SlD); no condition.
-/
import Derived.Shelf.RegionOpenPlain
import Derived.WalkKit
import Derived.Deep.RegionLaw
import Derived.Lib.Walk
import Derived.Lib.SliceRun
import Derived.Test.YthnmgbgmlhackaaGreatDoorSlZ
import Derived.Test.YthnmgbgmlhackaaGreatDoorVm2
import Derived.Test.YthnmgbgmlhackaaGreatDoorSlT
import Derived.Test.YthnmgbgmlhackaaGreatDoorSlA
import Derived.Test.YthnmgbgmlhackaaGreatDoorSlC
import Derived.Test.YthnmgbgmlhackaaGreatDoorSlB
set_option linter.all false
set_option maxHeartbeats 40000000
set_option maxRecDepth 100000
section
namespace Go.Am.Sl
open Go Go.Am Go.Proofs Tryz
attribute [local simp] eQ ij pV dH gk mz ai.back cS fW lg bm Nat.testBit_eq_decide_div_mod_eq cC iE mw vO ph gF pj iP cU nG nF pe gG pf n4 lZ pT n3 pg o7 o4 o8 o5 o6 o9 pa mR eZ jW eP pn nH oc po pq mQ pR pS gE my fK fy fL kV gg nS nv ny jF oR bj nZ fx bP bK lD ai.get ai.alloc ai.put ai.drop ai.empty bt cZ iw jn gA cz chunk List.range List.range.loop lh pW l9 bI b6 PV.aG PV.aF PV.dc PV.fu gY gH od PV.one PV.ids PV.cF gI beq_eq qD rE
attribute [local simp] cQ bQ fN gJ fI
section
variable [bF]
theorem Ih (a:Int):aN prog 179 [.int .i64 a] fun r=>r=.bool false:=by
 refine .bT func179 rfl rfl ?_
 refine .sr ?_
 refine .sr ?_
 refine .ret (au ?_)
 exact zk
theorem xY (a b:Int):aN prog 157 [.int .i64 a,.int .i64 b] fun r=>r=.int .i64 (jA a b):=by
 have hc:jA a b=if a<b then -1 else if b<a then 1 else 0:=rfl
 refine .bT func157 rfl rfl ?_
 refine .sr ?_
 refine .seq (.ay [0,1,2] rfl ae (.rn [0] _ ?_))
 refine .pc rfl rfl rfl rfl rfl call179 (Ih _) ?_
 refine .rn [2] [] ?_
 refine .done (.seq (.ay [0,1,2] rfl ae ?_))
 refine .rn [0] _ ?_
 refine .pc rfl rfl rfl rfl rfl call179 (Ih _) ?_
 refine .rn [2] [] ?_
 refine .done (.seq (.sr ?_))
 refine .cs ?_ ?_<;>intro lI
 ·try simp at lI
 try simp at lI
 refine .skip (.seq (.sr ?_))
 refine .cs ?_ ?_<;>intro jz
 ·try simp at jz
 try simp at jz
 refine .skip (.seq (.sr ?_))
 refine .cs ?_ ?_<;>intro qE
 ·try simp at qE
  rw[if_pos qE] at hc
  refine .sr ?_
  refine .ret (au ?_)
  exact zk
 try simp at qE
 rw[if_neg (by omega)] at hc
 refine .skip (.seq (.sr ?_))
 refine .cs ?_ ?_<;>intro iU
 ·try simp at iU
  rw[if_pos iU] at hc
  refine .sr ?_
  refine .ret (au ?_)
  exact zk
 try simp at iU
 rw[if_neg (by omega)] at hc
 refine .skip (.sr ?_)
 refine .ret (au ?_)
 exact zk
theorem OO (l:List Int)(hl:l.length<4294967296):aN prog 156 [ints l] fun r=>r=.int .i64 (vi l):=by
 refine .bT func156 rfl rfl ?_
 refine .sr ?_
 refine .sr ?_
 refine .seq (.sr ?_)
 refine .block ?_
 refine .dw (fun i:Nat=>([(3,.int .i64 0),(6,ints l),(7,.int .i64 l.length),(8,.int .i64 i)],ai.empty)) (fun i=>i≤l.length∧∀x∈l.take i,x=0) (fun i=>l.length - i) 0 (by simp) (.pure (by simp[*]) (by simp)) ?_
 rintro i ⟨hi,hz⟩
 simp only at hi hz ⊢
 refine .sr ?_
 refine .seq ?_
 refine .cs ?_ ?_<;>intro c9
 ·try simp at c9
  have et:=fA i
  have qG:i<l.length:=by omega
  refine .skip (.seq (.block (.sr ?_)))
  refine .sr ?_
  refine .cs ?_ ?_<;>intro iy
  ·try simp at iy
   have l8:=z5n qG hz iy
   refine .sr ?_
   refine .ret (au ?_)
   rw[l8]
  try simp at iy
  have kG:∀x∈l.take (i+1),x=0:=fun x hx=>by
   rw[List.take_succ_eq_append_getElem qG,List.mem_append,List.mem_singleton] at hx
   rcases hx with h|h
   ·exact hz x h
   rw[h];exact iy
  refine .skip (.rn ?_)
  refine⟨i+1,⟨bp,kG⟩,bp,.pure (by simp[*]) (by simp)⟩
 try simp at c9
 have:i=l.length:=by omega
 have l8:=z4z (l:=l) (fun x hx=>hz x (by rw[this,List.take_length];exact hx))
 refine .exit (.sr ?_)
 refine .ret (au ?_)
 rw[l8]
theorem OP (a b:aq):aN prog 118 [encS a,encS b] fun r=>r=.int .i64 (oz a b):=by
 unfold encS oz
 have Ii:=OO [jA a.a b.a,jA a.i b.i,jA a.k b.k,jA a.l b.l,jA a.w b.w] (by simp)
 simp only[ints,List.map] at Ii
 refine .bT func118 rfl rfl ?_
 refine .sr ?_
 refine .seq ?_
 refine .drawn (ms:=[0,1,0,4,15,0,32,0,128,511,0,1024,0,4096,16383,0,32768,0,131072,524287,0,1048576,0,4194304,16777215,33554431,67108863,134217727]) (W:=[4,9,14,19,24,25,26]) (items:=[.op 0,.op 1,.op 2,.op 3,.op 5,.op 6,.op 7,.op 8,.op 10,.op 11,.op 12,.op 13,.op 15,.op 16,.op 17,.op 18,.op 20,.op 21,.op 22,.op 23,.op 4,.ck 23,.ck 21,.ck 18,.ck 16,.ck 13,.ck 11,.ck 8,.ck 6,.op 9,.ck 23,.ck 21,.ck 18,.ck 16,.ck 13,.ck 11,.op 14,.ck 23,.ck 21,.ck 18,.ck 16,.op 19,.ck 23,.ck 21,.op 24,.op 25,.op 26,.op 27]) rfl ae ae ae ?_
 iterate 20 refine .rx ?_
 refine .wp rfl rfl rfl rfl rfl call157 (xY _ _) ?_
 refine .ck rfl dO ?_
 refine .ck rfl dO ?_
 refine .ck rfl dO ?_
 refine .ck rfl dO ?_
 refine .ck rfl dO ?_
 refine .ck rfl dO ?_
 refine .ck rfl dO ?_
 refine .ck rfl dO ?_
 refine .wp rfl rfl rfl rfl rfl call157 (xY _ _) ?_
 refine .ck rfl dO ?_
 refine .ck rfl dO ?_
 refine .ck rfl dO ?_
 refine .ck rfl dO ?_
 refine .ck rfl dO ?_
 refine .ck rfl dO ?_
 refine .wp rfl rfl rfl rfl rfl call157 (xY _ _) ?_
 refine .ck rfl dO ?_
 refine .ck rfl dO ?_
 refine .ck rfl dO ?_
 refine .ck rfl dO ?_
 refine .wp rfl rfl rfl rfl rfl call157 (xY _ _) ?_
 refine .ck rfl dO ?_
 refine .ck rfl dO ?_
 refine .wp rfl rfl rfl rfl rfl call157 (xY _ _) ?_
 refine .wv ?_
 refine .wr rfl rfl (by decide) (.Ln rfl rfl rfl call156 (by decide) (by first|(simp<;>rfl)|(simp[*]<;>rfl)|(simp[*];done)) (Ii) ?_)
 rintro _ rfl
 refine .rx ?_
 refine .done (.ret (au ?_))
 exact zk
end
end Go.Am.Sl
end
section
namespace Go.Am.Sl
open Go Go.Am Go.Proofs Tryz Go.Shelf Go.Sort
def z3w:Ren where
  f := fun x => match x with
    |6=>117
    |15=>155
    |14=>154
    |28=>177
    |29=>178
    |20=>169
    |21=>170
    |22=>171
    |23=>172
    |24=>173
    |25=>174
    |26=>175
    |27=>176
    |46=>183
    |47=>184
    |48=>185
    |49=>186
    |50=>187
    |57=>191
    |n=>n
  t := fun x => match x with
    |22=>31
    |24=>48
    |25=>192
    |3=>3
    |39=>228
    |0=>0
    |53=>256
    |55=>258
    |4=>4
    |46=>250
    |45=>249
    |50=>147
    |5=>5
    |9=>9
    |66=>260
    |70=>174
    |76=>269
    |77=>270
    |n=>n
  g:=fun n=>n
theorem OQ:SlLaysF0.n6 prog z3w where
  mixed:=rfl
  f6:=⟨ "slices.SortFunc[[]pecia/api.Slip,pecia/api.Slip]", by decide,func117⟩
  f14:=⟨ "slices.pdqsortCmpFunc[pecia/api.Slip]", by decide,func154⟩
  f15:=func155
  f20:=⟨ "slices.insertionSortCmpFunc[pecia/api.Slip]", by decide,func169⟩
  f21:=⟨ "slices.heapSortCmpFunc[pecia/api.Slip]", by decide,func170⟩
  f22:=⟨ "slices.breakPatternsCmpFunc[pecia/api.Slip]", by decide,func171⟩
  f23:=⟨ "slices.choosePivotCmpFunc[pecia/api.Slip]", by decide,func172⟩
  f24:=⟨ "slices.reverseRangeCmpFunc[pecia/api.Slip]", by decide,func173⟩
  f25:=⟨ "slices.partialInsertionSortCmpFunc[pecia/api.Slip]", by decide,func174⟩
  f26:=⟨ "slices.partitionEqualCmpFunc[pecia/api.Slip]", by decide,func175⟩
  f27:=⟨ "slices.partitionCmpFunc[pecia/api.Slip]", by decide,func176⟩
  f28:=func177
  f29:=func178
  f46:=⟨ "slices.siftDownCmpFunc[pecia/api.Slip]", by decide,func183⟩
  f47:=func184
  f48:=func185
  f49:=⟨ "slices.medianAdjacentCmpFunc[pecia/api.Slip]", by decide,func186⟩
  f50:=⟨ "slices.medianCmpFunc[pecia/api.Slip]", by decide,func187⟩
  f57:=⟨ "slices.order2CmpFunc[pecia/api.Slip]", by decide,func191⟩
  t0:=underlying0
  a0:=isAgg0
  z0:=sizeOf0
  v0:=zeroValue0
  t3:=underlying3
  a3:=isAgg3
  z3:=sizeOf3
  v3:=zeroValue3
  t4:=underlying4
  a4:=isAgg4
  z4:=sizeOf4
  v4:=zeroValue4
  t5:=underlying5
  a5:=isAgg5
  z5:=sizeOf5
  v5:=zeroValue5
  t9:=underlying9
  a9:=isAgg9
  z9:=sizeOf9
  v9:=zeroValue9
  t22:=underlying31
  a22:=isAgg31
  z22:=sizeOf31
  v22:=zeroValue31
  t25:=underlying192
  a25:=isAgg192
  z25:=sizeOf192
  v25:=zeroValue192
  t39:=underlying228
  a39:=isAgg228
  z39:=sizeOf228
  v39:=zeroValue228
  t45:=underlying249
  a45:=isAgg249
  z45:=sizeOf249
  v45:=zeroValue249
  t46:=underlying250
  a46:=isAgg250
  z46:=sizeOf250
  v46:=zeroValue250
  t50:=underlying147
  a50:=isAgg147
  z50:=sizeOf147
  v50:=zeroValue147
  t53:=underlying256
  a53:=isAgg256
  z53:=sizeOf256
  v53:=zeroValue256
  t55:=underlying258
  a55:=isAgg258
  z55:=sizeOf258
  v55:=zeroValue258
  t66:=underlying260
  a66:=isAgg260
  z66:=sizeOf260
  v66:=zeroValue260
  t70:=underlying174
  a70:=isAgg174
  z70:=sizeOf174
  v70:=zeroValue174
  t76:=underlying269
  a76:=isAgg269
  z76:=sizeOf269
  v76:=zeroValue269
  t77:=underlying270
  a77:=isAgg270
  z77:=sizeOf270
  v77:=zeroValue270
instance:Inhabited aq:=⟨⟨0,0,0,0,0⟩⟩
def lS (s:aq):List Int:=[s.k,s.a,s.i,s.l,s.w]
theorem Ij (a b:aq):ltOf oz a b=decide (a.lt b):=by
 unfold ltOf
 exact decide_eq_decide.2 xa7
theorem OR:SWO (ltOf oz) where
  irrefl x:=by rw[Ij,decide_eq_false_iff_not];exact aq.Ik x
  trans x y z h1 h2:=by rw[Ij,decide_eq_true_eq] at *;exact aq.lt_trans h1 h2
  ntrans x y z h1 h2:=by
    rw[Ij,decide_eq_false_iff_not] at *
    unfold aq.lt at *
    omega
theorem xhk:CD oz=F5:=by
 funext a b
 unfold CD F5
 rw[Ij]
theorem OS (x y:aq)(h1:ltOf oz x y=false)(h2:ltOf oz y x=false):x=y:=by
 rw[Ij,decide_eq_false_iff_not] at *
 rcases aq.Uk x y with h|h|h
 ·exact absurd h h1
 ·exact h
 exact absurd h h2
variable [bF] in
theorem OT {vh:ai}{i n:Nat}{nl:Bool}{zs:List aq}(hg:vh.get i=some (.grow 5 (zs.map encS)))(hn:zs.length=n) :
  dP prog 117 [.grow i n nl,.func 118 [] []] vh fun r ao=>r=.bx []∧ao=vh.put i (.grow 5 ((zs.mergeSort F5).map encS)):=by
 have:=dP.zra OQ (α:=aq) (k:=5) (by decide) (fun w=>isAgg48 w) (fun w=>sizeOf48 w) lS (fun _=>rfl) oz OR OS 118 call118 (fun x y w=>aN.cmp (a:=lS x) (b:=lS y) (@OP bF.no x y) w) (vh:=vh) (i:=i) (n:=n) (nl:=nl) (zs:=zs) hg hn
 rw[xhk] at this
 exact this
abbrev iB:Int:=1099511627776
theorem z4t {p:aK→Bool}(l:List aK):∀ {o:lJ} {k:Nat},lK o k→100*(k:Int)+100*(l.length:Int)+100≤iB→(∀x∈l,0≤x.n∧x.n≤100)→l.foldl (eS p) (val iB o)=val iB (zN o (l.filter p)):=by
 generalize hF:iB=F
 have Ul:F=1099511627776:=hF.symm
 induction l with
 |nil=>exact fun _ _ _=>rfl
 |cons x r ih=>
  intro o k h hf hx
  have h1:=hx x List.mem_cons_self
  have Lu:=fun y hy=>hx y (List.mem_cons_of_mem _ hy)
  simp only[List.length_cons] at hf
  have Um:100*((k+1:Nat):Int)+100*(r.length:Int)+100≤F:=by omega
  have hs:100*(k:Int)+100≤F:=by omega
  have hl:100*(k:Int)<F:=by omega
  rw[List.foldl_cons,List.filter_cons]
  cases hp:p x with
  |false=>
   have:eS p (val F o) x=val F o:=by unfold eS;rw[if_neg (by simp[hp])]
   rw[this]
   exact ih (h.mono (Nat.le_succ k)) Um Lu
  |true=>
   have:eS p (val F o) x=val F (mF o x):=by
    unfold eS
    by_cases hv:val F o x.i x.j<F
    ·rw[if_pos ⟨by rw[← Ul];exact hv,hp⟩,Un h hs h1.1 h1.2]
    rw[if_neg (fun hh=>hv (by rw[Ul] at *;exact hh.1)),z2m h hl hv]
   rw[this]
   exact ih (h.mF h1.1 h1.2) Um Lu
theorem zyg:bB (fun _ _=>(1099511627776:Int)) 0 0 0=val iB start:=by
 funext a b
 unfold bB val start
 split<;>rfl
theorem Uo {c:aj}(hr:Rt c)(p:aK→Bool):fwd c p=val iB (mg ((graph c).filter p)):=by
 unfold fwd
 rw[zyg]
 have:=Il hr
 exact z4t (graph c) lK.start (by simp only[iB];omega) (Im hr)
theorem z2q {c:aj}(hr:Rt c)(p:aK→Bool):lK (mg ((graph c).filter p)) 139258:=by
 have h:=(lK.foldl (l:=(graph c).filter p) lK.start fun x hx=>Im hr x (List.mem_filter.1 hx).1)
 refine h.mono ?_
 have h1:=Il hr
 have h2:=List.length_filter_le p (graph c)
 omega
theorem z4q {c:aj}(hr:Rt c):aX c=val iB (mg (graph c)):=by
 have:=Uo hr fun _=>true
 rwa [List.filter_eq_self.2 fun _ _=>rfl] at this
theorem zyi {c:aj}(hr:Rt c):lK (mg (graph c)) 139258:=by
 have:=z2q hr fun _=>true
 rwa [List.filter_eq_self.2 fun _ _=>rfl] at this
theorem Lv {c:aj}:∀(l:List (Nat×Nat)) {D:Nat→Nat→Int} {i j:Nat},Rt c→(∀q∈l,¬(i=c.t.length - q.1∧j=c.c.length - q.2))→l.foldl (qL c) D i j=D i j
 |[],_,_,_,_,_=>rfl
 |q::r,D,i,j,hr,h=>by
  rw[List.foldl_cons,Lv r hr fun q' cm=>h q' (List.mem_cons_of_mem _ cm)]
  have hq:=h q List.mem_cons_self
  unfold qL
  split
  ·rfl
  have:∀(l:List aK) (D:Nat→Nat→Int),(∀x∈l,x.i=c.t.length - q.1∧x.j=c.c.length - q.2)→l.foldl jw D i j=D i j:=by
   intro l
   induction l with
   |nil=>exact fun _ _=>rfl
   |cons x r ih=>
    intro D hx
    rw[List.foldl_cons,ih _ fun y hy=>hx y (List.mem_cons_of_mem _ hy)]
    have:=hx x List.mem_cons_self
    unfold jw bB
    rw[if_neg (by rw[this.1,this.2];exact hq)]
  rw[this _ _ fun x hx=>⟨(ib hr hx).fi,(ib hr hx).fj⟩]
  unfold bB
  rw[if_neg hq]
theorem Up {i j:Nat}:∀(l:List aK) (D:Nat→Nat→Int),(∀x∈l,x.i=i∧x.j=j∧¬(x.i'=i∧x.j'=j))→l.foldl jw D i j=l.foldl (fun m x=>min m (D x.i' x.j'+x.n)) (D i j)
 |[],_,_=>rfl
 |x::r,D,h=>by
  obtain⟨h1,h2,h3⟩:=h x List.mem_cons_self
  rw[List.foldl_cons,Up r _ fun y hy=>h y (List.mem_cons_of_mem _ hy),List.foldl_cons]
  have e1:jw D x i j=min (D i j) (D x.i' x.j'+x.n):=by unfold jw bB;rw[h1,h2,if_pos ⟨rfl,rfl⟩]
  rw[e1]
  have:∀(l:List aK) (m:Int),(∀y∈l,¬(y.i'=i∧y.j'=j))→l.foldl (fun m y=>min m (jw D x y.i' y.j'+y.n)) m=l.foldl (fun m y=>min m (D y.i' y.j'+y.n)) m:=by
   intro l
   induction l with
   |nil=>exact fun _ _=>rfl
   |cons y r ih=>
    intro m hy
    rw[List.foldl_cons,List.foldl_cons,ih _ fun z hz=>hy z (List.mem_cons_of_mem _ hz)]
    have e2:jw D x y.i' y.j'=D y.i' y.j':=by unfold jw bB;rw[h1,h2,if_neg (hy y List.mem_cons_self)]
    rw[e2]
  exact this r _ fun y hy=>(h y (List.mem_cons_of_mem _ hy)).2.2
theorem F6 {c:aj}(hr:Rt c):bwd c c.t.length c.c.length=0:=by
 obtain⟨r,hp⟩:=OG c (Nat.zero_le _) (Nat.zero_le _)
 have hp:places c=(0,0)::r:=by rw[hp];rfl
 have hl:=Lx c
 rw[hp,List.pairwise_cons] at hl
 unfold bwd
 rw[hp,List.foldl_cons]
 have e0:qL c (bB (fun _ _=>1099511627776) c.t.length c.c.length 0) (0,0)=bB (fun _ _=>1099511627776) c.t.length c.c.length 0:=by unfold qL;rw[if_pos ⟨rfl,rfl⟩]
 rw[e0,Lv r hr fun q hq=>?_]
 ·unfold bB;rw[if_pos ⟨rfl,rfl⟩]
 have h1:=hl.1 q hq
 have h2:q∈places c:=by rw[hp];exact List.mem_cons_of_mem _ hq
 have h3:=uq.1 (show (q.1,q.2)∈places c from h2)
 unfold vj at h1
 simp only at h1
 omega
theorem Uq {c:aj}(hr:Rt c){i j:Nat}(hi:i≤c.t.length)(hj:j≤c.c.length)(he:¬(i=c.t.length∧j=c.c.length)) :
  bwd c i j=(steps c i j).foldl (fun m x=>min m (bwd c x.i' x.j'+x.n)) iB:=by
 obtain⟨a,ha⟩:∃a,a=c.t.length - i:=⟨_,rfl⟩
 obtain⟨b,hb⟩:∃b,b=c.c.length - j:=⟨_,rfl⟩
 obtain⟨kD,hp⟩:=OG c (i:=a) (j:=b) (by omega) (by omega)
 obtain⟨pre,uR⟩:∃pre,pre=kC (c.c.length+1) a b:=⟨_,rfl⟩
 rw[← uR] at hp
 have hl:=Lx c
 rw[hp,List.pairwise_append,List.pairwise_cons] at hl
 obtain⟨_,⟨mq,_⟩,DM⟩:=hl
 obtain⟨D,hD⟩:∃D,pre.foldl (qL c) (bB (fun _ _=>1099511627776) c.t.length c.c.length 0)=D:=⟨_,rfl⟩
 have kf:bwd c=kD.foldl (qL c) (qL c D (a,b)):=by unfold bwd;rw[hp,List.foldl_append,List.foldl_cons,hD]
 have cT:bwd c=((a,b)::kD).foldl (qL c) D:=kf
 have dx:∀q∈kD,q.1≤c.t.length∧q.2≤c.c.length:=fun q hq=>uq.1 (show (q.1,q.2)∈places c by rw[hp];exact List.mem_append_right _ (List.mem_cons_of_mem _ hq))
 have h1:bwd c i j=qL c D (a,b) i j:=by
  rw[kf]
  refine Lv kD hr fun q hq=>?_
  have:=mq q hq
  have:=dx q hq
  unfold vj at *
  simp only at *
  omega
 have iL:¬(a=0∧b=0):=by omega
 have ei:c.t.length - a=i:=by omega
 have ej:c.c.length - b=j:=by omega
 rw[h1]
 unfold qL
 rw[if_neg iL]
 simp only[ei,ej]
 have hx:∀x∈steps c i j,x.i=i∧x.j=j∧¬(x.i'=i∧x.j'=j):=fun x hx=>by
  have:=ib hr hx
  have h1:=this.vc;have h2:=this.vd;have h3:=this.on
  exact⟨this.fi,this.fj,by omega⟩
 rw[Up _ _ hx]
 have e0:bB D i j 1099511627776 i j=iB:=by unfold bB;rw[if_pos ⟨rfl,rfl⟩]
 rw[e0]
 have:∀(l:List aK) (m:Int),(∀x∈l,x∈steps c i j)→l.foldl (fun m x=>min m (bB D i j 1099511627776 x.i' x.j'+x.n)) m=l.foldl (fun m x=>min m (bwd c x.i' x.j'+x.n)) m:=by
  intro l
  induction l with
  |nil=>exact fun _ _=>rfl
  |cons x r ih=>
   intro m hm
   rw[List.foldl_cons,List.foldl_cons,ih _ fun y hy=>hm y (List.mem_cons_of_mem _ hy)]
   have ra:=hm x List.mem_cons_self
   have ho:=ib hr ra
   have h1:=ho.vc;have h2:=ho.vd;have h3:=ho.on;have h4:=ho.it;have h5:=ho.jt
   have e1:bB D i j 1099511627776 x.i' x.j'=D x.i' x.j':=by unfold bB;rw[if_neg (hx x ra).2.2]
   have e2:bwd c x.i' x.j'=D x.i' x.j':=by
    rw[cT]
    refine Lv _ hr fun q hq=>?_
    rcases List.mem_cons.1 hq with rfl|hq
    ·simp only;omega
    have:=mq q hq
    have:=dx q hq
    unfold vj at *
    simp only at *
    omega
   rw[e1,e2]
 exact this _ _ fun x hx=>hx
theorem Ur {f:aK→Int}:∀(l:List aK) (m:Int),l.foldl (fun m x=>min m (f x)) m≤m∧∀x∈l,l.foldl (fun m x=>min m (f x)) m≤f x
 |[],m=>⟨Int.le_refl _,fun x hx=>by cases hx⟩
 |a::r,m=>by
  obtain⟨h1,h2⟩:=Ur (f:=f) r (min m (f a))
  rw[List.foldl_cons]
  refine⟨by omega,fun x hx=>?_⟩
  rcases List.mem_cons.1 hx with rfl|hx
  ·omega
  exact h2 x hx
theorem Us {f:aK→Int}:∀(l:List aK) (m:Int),l.foldl (fun m x=>min m (f x)) m=m∨∃x∈l,l.foldl (fun m x=>min m (f x)) m=f x
 |[],m=>.inl rfl
 |a::r,m=>by
  rw[List.foldl_cons]
  rcases Us (f:=f) r (min m (f a)) with h|⟨x,hx,h⟩
  ·rw[h]
   rcases Int.le_total m (f a) with hm|hm
   ·exact .inl (by omega)
   exact .inr ⟨a,List.mem_cons_self,by omega⟩
  exact .inr ⟨x,List.mem_cons_of_mem _ hx,h⟩
theorem Ut {c:aj}(hr:Rt c){i j:Nat}(hi:i<c.t.length)(hj:j≤c.c.length):(⟨i,j,i+1,j,c.om,some ⟨2,i,j,0,0⟩⟩:aK)∈steps c i j:=by
 unfold steps
 refine List.mem_append_right _ (List.mem_filterMap.2 ⟨⟨2,i,j,0,0⟩,?_,?_⟩)
 ·unfold lG;simp
 have hd:aJ c ⟨2,i,j,0,0⟩=some (c.om,i+1,[]):=by
  unfold aJ
  rw[if_pos (by simp;omega)]
  simp[hi]
 have hb:hasB c j []=true:=by unfold hasB;simp;exact hj
 unfold stepOf
 rw[hd]
 simp only[hb,if_true]
 rfl
theorem Uu {c:aj}(hr:Rt c){i j:Nat}(hi:i≤c.t.length)(hj:j<c.c.length):(⟨i,j,i,j+1,c.ad,some ⟨6,i,j,0,c.c.getD j 0⟩⟩:aK)∈steps c i j:=by
 have hw:dB (c.c.getD j 0)=true:=hr.cok _ (OU hj)
 unfold steps
 refine List.mem_append_right _ (List.mem_filterMap.2 ⟨⟨6,i,j,0,c.c.getD j 0⟩,?_,?_⟩)
 ·unfold lG;simp[hj]
 have hd:aJ c ⟨6,i,j,0,c.c.getD j 0⟩=some (c.ad,i,[c.c.getD j 0]):=by
  unfold aJ
  rw[if_pos (by simp;omega)]
  simp only[show ¬((6:Int)=1) by decide,show ¬((6:Int)=2) by decide,show ¬((6:Int)=3) by decide,show ¬((6:Int)=4) by decide,show ¬((6:Int)=5) by decide,if_false,if_true]
  rw[if_pos ⟨hw,by simp⟩,Int.toNat_natCast]
 have hb:hasB c j [c.c.getD j 0]=true:=by
  unfold hasB
  rw[bS,decide_eq_true_eq,decide_eq_true_eq]
  refine⟨by simp;omega,?_⟩
  rw[List.getD_eq_getElem?_getD,List.getElem?_eq_getElem hj]
  simp only[List.length_singleton,Option.getD_some]
  rw[List.drop_eq_getElem_cons hj,List.take_succ_cons,List.take_zero]
 unfold stepOf
 rw[hd]
 simp only[hb,if_true]
 rfl
theorem zO {c:aj}{i j:Nat}{x:aK}(hi:i≤c.t.length)(hj:j≤c.c.length)(h:x∈steps c i j):x∈graph c:=Io.2 ⟨i,j,hi,hj,h⟩
theorem wu {c:aj}(hr:Rt c){x:aK}(h:x∈graph c):x∈steps c x.i x.j∧x.i≤c.t.length∧x.j≤c.c.length:=by
 obtain⟨i,j,hi,hj,hx⟩:=Io.1 h
 have h1:=ib hr hx
 have e1:=h1.fi;have e2:=h1.fj
 subst e1;subst e2
 exact⟨hx,hi,hj⟩
theorem OV {c:aj}(hr:Rt c){x:aK}(h:x∈graph c):bwd c x.i x.j≤bwd c x.i' x.j'+x.n:=by
 obtain⟨h1,h2,h3⟩:=wu hr h
 have ho:=ib hr h1
 by_cases he:x.i=c.t.length∧x.j=c.c.length
 ·have:=ho.vc;have:=ho.vd;have:=ho.on;have:=ho.it;have:=ho.jt
  omega
 rw[Uq hr h2 h3 he]
 exact(Ur (f:=fun x=>bwd c x.i' x.j'+x.n) _ _).2 x h1
theorem Ly {c:aj}(hr:Rt c):∀(k i j:Nat),i≤c.t.length→j≤c.c.length→(c.t.length - i)+(c.c.length - j)=k→bwd c i j≤100*(k:Int)
 |0,i,j,hi,hj,hk=>by
  obtain rfl:i=c.t.length:=by omega
  obtain rfl:j=c.c.length:=by omega
  rw[F6 hr];simp
 |k+1,i,j,hi,hj,hk=>by
  by_cases h:i<c.t.length
  ·have h1:=OV hr (zO hi hj (Ut hr h hj))
   have h2:=Ly hr k (i+1) j (by omega) hj (by omega)
   have h3:=hr.om
   simp only at h1
   omega
  have mn:j<c.c.length:=by omega
  have h1:=OV hr (zO hi hj (Uu hr hi mn))
  have h2:=Ly hr k i (j+1) hi (by omega) (by omega)
  have h3:=hr.ad
  simp only at h1
  omega
theorem Uv {c:aj}(hr:Rt c){i j:Nat}(hi:i≤c.t.length)(hj:j≤c.c.length)(he:¬(i=c.t.length∧j=c.c.length)):∃x∈steps c i j,bwd c i j=bwd c x.i' x.j'+x.n:=by
 have h1:=Uq hr hi hj he
 rcases Us (f:=fun x=>bwd c x.i' x.j'+x.n) (steps c i j) iB with h|⟨x,hx,h⟩
 ·exfalso
  rw[h] at h1
  have:=Ly hr _ i j hi hj rfl
  have:=hr.tl;have:=hr.cl
  simp only[iB] at h1
  omega
 exact⟨x,hx,h1.trans h⟩
theorem Lz {c:aj}(hr:Rt c):∀(k i j:Nat),i≤c.t.length→j≤c.c.length→(c.t.length - i)+(c.c.length - j)≤k→∃w,Way (graph c) i j c.t.length c.c.length (bwd c i j) w
 |0,i,j,hi,hj,hk=>by
  obtain rfl:i=c.t.length:=by omega
  obtain rfl:j=c.c.length:=by omega
  rw[F6 hr];exact⟨[],.nil _ _⟩
 |k+1,i,j,hi,hj,hk=>by
  by_cases he:i=c.t.length∧j=c.c.length
  ·obtain⟨rfl,rfl⟩:=he
   rw[F6 hr];exact⟨[],.nil _ _⟩
  obtain⟨x,hx,h⟩:=Uv hr hi hj he
  have ho:=ib hr hx
  have h1:=ho.vc;have h2:=ho.vd;have h3:=ho.on;have h4:=ho.it;have h5:=ho.jt
  obtain⟨w,hw⟩:=Lz hr k x.i' x.j' h4 h5 (by omega)
  refine⟨x::w,?_⟩
  have:=Way.cons x (zO hi hj hx) hw
  rw[ho.fi,ho.fj] at this
  rw[h,Int.add_comm]
  exact this
theorem z9a {c:aj}(hr:Rt c){i j:Nat}{n:Int}{w:List aK}(h:Way (graph c) i j c.t.length c.c.length n w):bwd c i j≤n:=by
 have:∀ {i j a b:Nat} {n:Int} {w:List aK},Way (graph c) i j a b n w→bwd c i j≤bwd c a b+n:=by
  intro i j a b n w h
  induction h with
  |nil i j=>omega
  |cons x hx h ih=>have:=OV hr hx;omega
 have:=this h
 rw[F6 hr] at this
 omega
theorem OW {c:aj}(hr:Rt c):∀(k i j:Nat),i≤c.t.length→j≤c.c.length→i+j=k→∃n w,Way (graph c) 0 0 i j n w∧n≤100*(k:Int)
 |0,i,j,hi,hj,hk=>by
  obtain rfl:i=0:=by omega
  obtain rfl:j=0:=by omega
  exact⟨0,[],.nil 0 0,by simp⟩
 |k+1,i,j,hi,hj,hk=>by
  by_cases h:0<i
  ·obtain⟨a,rfl⟩:∃a,i=a+1:=⟨i - 1,by omega⟩
   obtain⟨n,w,hw,hn⟩:=OW hr k a j (by omega) hj (by omega)
   have hs:=zO (by omega) hj (Ut hr (show a<c.t.length by omega) hj)
   have h3:=hr.om
   exact⟨n+c.om,_,hw.snoc hs rfl rfl,by omega⟩
  obtain rfl:i=0:=by omega
  obtain⟨b,rfl⟩:∃b,j=b+1:=⟨j - 1,by omega⟩
  obtain⟨n,w,hw,hn⟩:=OW hr k 0 b hi (by omega) (by omega)
  have hs:=zO hi (by omega) (Uu hr hi (show b<c.c.length by omega))
  have h3:=hr.ad
  exact⟨n+c.ad,_,hw.snoc hs rfl rfl,by omega⟩
theorem Bf {c:aj}(hr:Rt c){i j:Nat}(hi:i≤c.t.length)(hj:j≤c.c.length):mg (graph c) i j=some (aX c i j)∧0≤aX c i j∧aX c i j≤100*((i:Int)+j):=by
 obtain⟨n,w,hw,hn⟩:=OW hr _ i j hi hj rfl
 obtain⟨v,h1,h2⟩:=Uw (OX hr) hw
 have h3:=zyi hr i j v h1
 rw[z4q hr,F7 h1]
 exact⟨h1,h3.1,by omega⟩
theorem LA {c:aj}(hr:Rt c){i j:Nat}(hi:i≤c.t.length)(hj:j≤c.c.length):∃w,Way (graph c) 0 0 i j (aX c i j) w:=Ux (Bf hr hi hj).1
theorem OY {c:aj}(hr:Rt c){i j a b:Nat}{n:Int}{w:List aK}(h:Way (graph c) i j a b n w):i≤c.t.length→j≤c.c.length→a≤c.t.length∧b≤c.c.length:=by
 induction h with
 |nil i j=>exact fun h1 h2=>⟨h1,h2⟩
 |cons x hx h ih=>exact fun _ _=>ih (ib hr (wu hr hx).1).it (ib hr (wu hr hx).1).jt
theorem Er {c:aj}(hr:Rt c){i j:Nat}{n:Int}{w:List aK}(h:Way (graph c) 0 0 i j n w):aX c i j≤n:=by
 obtain⟨hi,hj⟩:=OY hr h (Nat.zero_le _) (Nat.zero_le _)
 obtain⟨v,h1,h2⟩:=Uw (OX hr) h
 rw[(Bf hr hi hj).1] at h1
 injection h1 with h1
 omega
theorem Uy {c:aj}(hr:Rt c){x:aK}(h:x∈graph c):aX c x.i' x.j'≤aX c x.i x.j+x.n:=by
 obtain⟨h1,h2,h3⟩:=wu hr h
 obtain⟨w,hw⟩:=LA hr h2 h3
 exact Er hr (hw.snoc h rfl rfl)
theorem Uz {c:aj}(hr:Rt c):aX c 0 0=0:=by
 have h1:=Er hr (.nil 0 0)
 have h2:=(Bf hr (Nat.zero_le _) (Nat.zero_le _)).2.1
 omega
def du (c:aj):Int:=aX c c.t.length c.c.length
theorem OZ {c:aj}(hr:Rt c):du c=bwd c 0 0:=by
 obtain⟨w,hw⟩:=LA hr (Nat.le_refl c.t.length) (Nat.le_refl c.c.length)
 have h1:=z9a hr hw
 obtain⟨w2,et⟩:=Lz hr _ 0 0 (Nat.zero_le _) (Nat.zero_le _) (Nat.le_refl _)
 have h2:=Er hr et
 unfold du
 omega
theorem UA {c:aj}(hr:Rt c){i j:Nat}(hi:i≤c.t.length)(hj:j≤c.c.length):du c≤aX c i j+bwd c i j:=by
 obtain⟨w,hw⟩:=LA hr hi hj
 obtain⟨w2,et⟩:=Lz hr _ i j hi hj (Nat.le_refl _)
 exact Er hr (hw.append et)
theorem z4n {c:aj}(hr:Rt c){x:aK}(h:x∈graph c):du c≤aX c x.i x.j+x.n+bwd c x.i' x.j':=by
 obtain⟨h1,h2,h3⟩:=wu hr h
 have h4:=UA hr (ib hr h1).it (ib hr h1).jt
 have h5:=Uy hr h
 omega
theorem UB {c:aj}(hr:Rt c){i j:Nat}(hi:i≤c.t.length)(hj:j≤c.c.length)(he:¬(i=c.t.length∧j=c.c.length))(ht:aX c i j+bwd c i j=du c):∃x∈steps c i j,jy c x=true:=by
 obtain⟨x,hx,h⟩:=Uv hr hi hj he
 refine⟨x,hx,?_⟩
 have ho:=ib hr hx
 unfold jy
 rw[decide_eq_true_eq,ho.fi,ho.fj]
 show _=du c
 omega
theorem UC {c:aj}(hr:Rt c){x:aK}(h:x∈graph c)(ht:jy c x=true):aX c x.i' x.j'+bwd c x.i' x.j'=du c:=by
 unfold jy at ht
 rw[decide_eq_true_eq] at ht
 have h1:=Uy hr h
 obtain⟨h2,_,_⟩:=wu hr h
 have h4:=UA hr (ib hr h2).it (ib hr h2).jt
 unfold du at *
 omega
def wx (c:aj)(i j:Nat):Option aK:=(steps c i j).find? (jy c)
def CE (c:aj):Nat→Nat→Nat→List aK
 |0,_,_=>[]
 |n+1,i,j=>match wx c i j with
  |some x=>x::CE c n x.i' x.j'
  |none=>[]
def Bg (c:aj):List aK:=CE c (c.t.length+c.c.length) 0 0
def iG (l:List aK):List aq:=l.filterMap (·.s)
def vk (c:aj):List aq:=iG (Bg c)
theorem zza {c:aj}(hr:Rt c):steps c c.t.length c.c.length=[]:=by
 refine List.eq_nil_iff_forall_not_mem.2 fun x hx=>?_
 have h:=ib hr hx
 have:=h.vc;have:=h.vd;have:=h.on;have:=h.it;have:=h.jt
 omega
theorem O0 {c:aj}(hr:Rt c):wx c c.t.length c.c.length=none:=by unfold wx;rw[zza hr];rfl
theorem O1 {c:aj}{i j:Nat}{x:aK}(h:wx c i j=some x):x∈steps c i j∧jy c x=true:=⟨List.mem_of_find?_eq_some h,List.find?_some h⟩
theorem zx7 {c:aj}{i j:Nat}{pre kD:List aK}{x:aK}(h:steps c i j=pre++x::kD)(hp:∀y∈pre,jy c y=false)(hx:jy c x=true):wx c i j=some x:=by
 unfold wx
 rw[h,List.find?_append,List.find?_eq_none.2 fun y hy=>by simp[hp y hy]]
 simp[hx]
theorem z4d {c:aj}(hr:Rt c){i j:Nat}(hi:i≤c.t.length)(hj:j≤c.c.length)(he:¬(i=c.t.length∧j=c.c.length))(ht:aX c i j+bwd c i j=du c):wx c i j≠none:=fun h=>by
 obtain⟨x,hx,h2⟩:=UB hr hi hj he ht
 unfold wx at h
 have:=List.find?_eq_none.1 h x hx
 exact this h2
theorem F8 (c:aj)(n i j:Nat):CE c (n+1) i j=match wx c i j with|some x=>x::CE c n x.i' x.j'|none=>[]:=rfl
theorem UD {c:aj}(hr:Rt c):∀(n m i j:Nat),i≤c.t.length→j≤c.c.length→(c.t.length - i)+(c.c.length - j)≤n→(c.t.length - i)+(c.c.length - j)≤m→CE c n i j=CE c m i j
 |0,0,_,_,_,_,_,_=>rfl
 |0,m+1,i,j,hi,hj,h1,h2=>by
  obtain rfl:i=c.t.length:=by omega
  obtain rfl:j=c.c.length:=by omega
  rw[F8,O0 hr];rfl
 |n+1,0,i,j,hi,hj,h1,h2=>by
  obtain rfl:i=c.t.length:=by omega
  obtain rfl:j=c.c.length:=by omega
  rw[F8,O0 hr];rfl
 |n+1,m+1,i,j,hi,hj,h1,h2=>by
  rw[F8,F8]
  cases hx:wx c i j with
  |none=>rfl
  |some x=>
   have ho:=ib hr (O1 hx).1
   have:=ho.vc;have:=ho.vd;have:=ho.on;have:=ho.it;have:=ho.jt
   simp only
   rw[UD hr n m x.i' x.j' ho.it ho.jt (by omega) (by omega)]
def Es (c:aj)(i j:Nat):List aK:=CE c ((c.t.length - i)+(c.c.length - j)) i j
theorem xhh (c:aj):Es c 0 0=Bg c:=rfl
theorem xbu (c:aj):Es c c.t.length c.c.length=[]:=by unfold Es;rw[Nat.sub_self,Nat.sub_self];rfl
theorem z2k {c:aj}(hr:Rt c){i j:Nat}{x:aK}(hi:i≤c.t.length)(hj:j≤c.c.length)(h:wx c i j=some x):Es c i j=x::Es c x.i' x.j':=by
 have ho:=ib hr (O1 h).1
 have:=ho.vc;have:=ho.vd;have:=ho.on;have:=ho.it;have:=ho.jt
 obtain⟨n,hn⟩:∃n,(c.t.length - i)+(c.c.length - j)=n+1:=⟨(c.t.length - i)+(c.c.length - j) - 1,by omega⟩
 unfold Es
 rw[hn,F8,h]
 simp only
 rw[UD hr n _ x.i' x.j' ho.it ho.jt (by omega) (Nat.le_refl _)]
theorem UE {c:aj}(hr:Rt c):∀(n i j:Nat),i≤c.t.length→j≤c.c.length→(c.t.length - i)+(c.c.length - j)≤n→aX c i j+bwd c i j=du c→Way (graph c) i j c.t.length c.c.length (bwd c i j) (CE c n i j)
 |0,i,j,hi,hj,hn,ht=>by
  obtain rfl:i=c.t.length:=by omega
  obtain rfl:j=c.c.length:=by omega
  rw[F6 hr];exact .nil _ _
 |n+1,i,j,hi,hj,hn,ht=>by
  rw[F8]
  by_cases he:i=c.t.length∧j=c.c.length
  ·obtain⟨rfl,rfl⟩:=he
   rw[O0 hr,F6 hr];exact .nil _ _
  cases hx:wx c i j with
  |none=>exact absurd hx (z4d hr hi hj he ht)
  |some x=>
   obtain⟨h1,h2⟩:=O1 hx
   have ho:=ib hr h1
   have:=ho.vc;have:=ho.vd;have:=ho.on;have:=ho.it;have:=ho.jt
   have hg:=zO hi hj h1
   have h3:=UC hr hg h2
   have hw:=Way.cons x hg (UE hr n x.i' x.j' ho.it ho.jt (by omega) h3)
   unfold jy at h2
   rw[decide_eq_true_eq,ho.fi,ho.fj] at h2
   rw[ho.fi,ho.fj] at hw
   have e:x.n+bwd c x.i' x.j'=bwd c i j:=by unfold du at ht;omega
   rwa [e] at hw
theorem LB {c:aj}(hr:Rt c):Way (graph c) 0 0 c.t.length c.c.length (du c) (Bg c):=by
 have:=UE hr (c.t.length+c.c.length) 0 0 (Nat.zero_le _) (Nat.zero_le _) (by omega) (by rw[Uz hr,OZ hr];omega)
 rw[OZ hr];exact this
theorem z6t {c:aj}(hr:Rt c){i j a b:Nat}{n:Int}{w:List aK}(h:Way (graph c) i j a b n w):i+j+w.length≤a+b:=by
 induction h with
 |nil i j=>simp
 |cons x hx h ih=>
  have ho:=ib hr (wu hr hx).1
  have:=ho.vc;have:=ho.vd;have:=ho.on
  rw[List.length_cons];omega
theorem xaq (l:List aK):(iG l).length≤l.length:=List.length_filterMap_le _ _
theorem UF {c:aj}(hr:Rt c){n:Int}{w:List aK}(h:Way (graph c) 0 0 c.t.length c.c.length n w):(iG w).length≤96:=by
 have h1:=z6t hr h
 have h2:=xaq w
 have:=hr.tl;have:=hr.cl
 omega
theorem UG {α:Type}[Inhabited α]{l:List α}{d:α}{i k:Nat}(h:i+k<l.length):(l.drop i).take (k+1)=(l.drop i).take k++[l.getD (i+k) d]:=by
 have h1:k<(l.drop i).length:=by rw[List.length_drop];omega
 rw[List.take_succ_eq_append_getElem h1]
 congr 2
 rw[List.getElem_drop,List.getD_eq_getElem?_getD,List.getElem?_eq_getElem h];rfl
theorem z2y {c:aj}{i j:Nat}(hi:i<c.t.length)(hj:j<c.c.length)(h:c.t.getD i 0=c.c.getD j 0):(⟨i,j,i+1,j+1,0,none⟩:aK)∈steps c i j:=by
 unfold steps;rw[if_pos ⟨hi,hj,h⟩];simp
theorem UH {c:aj}(hr:Rt c){i j:Nat}{x:aK}(h:x∈steps c i j) :
  (x=⟨i,j,i+1,j+1,0,none⟩∧i<c.t.length∧j<c.c.length∧c.t.getD i 0=c.c.getD j 0)∨
  ∃s n i' w,x=⟨i,j,i',j+w.length,n,some s⟩∧s∈lG c i j∧aJ c s=some (n,i',w)∧hasB c j w=true:=by
 unfold steps at h
 rcases List.mem_append.1 h with h|h
 ·split at h
  ·rename_i hc
   rw[List.mem_singleton] at h
   exact .inl ⟨h,hc.1,hc.2.1,hc.2.2⟩
  cases h
 obtain⟨s,hs,he⟩:=List.mem_filterMap.1 h
 unfold stepOf at he
 split at he
 ·rename_i n i' w hd
  split at he
  ·rename_i hb
   injection he with he
   exact .inr ⟨s,n,i',w,he.symm,hs,hd,hb⟩
  cases he
 cases he
theorem zzd {c:aj}{j:Nat}{w:List Int}(h:hasB c j w=true):c.c.take (j+w.length)=c.c.take j++w∧j+w.length≤c.c.length:=by
 unfold hasB at h
 rw[bS,decide_eq_true_eq,decide_eq_true_eq] at h
 exact⟨by rw[List.take_add,h.2],h.1⟩
theorem zwh {c:aj}(hr:Rt c){a b a' b':Nat}{n:Int}{w:List aK}(h:Way (graph c) a b a' b' n w):a'=c.t.length→b'=c.c.length→∀(out:List Int) (i:Nat) (sum:Int),i≤a→out++(c.t.drop i).take (a - i)=c.c.take b→a≤c.t.length→b≤c.c.length→lL c (iG w) out i sum=some (c.c,sum+n):=by
 induction h with
 |nil a b=>
  rintro rfl rfl out i sum hi hb _ _
  show some (out++c.t.drop i,sum)=_
  have e:(c.t.drop i).take (c.t.length - i)=c.t.drop i:=List.take_of_length_le (by rw[List.length_drop];omega)
  rw[e,List.take_of_length_le (Nat.le_refl _)] at hb
  rw[hb,Int.add_zero]
 | @cons x hx a' b' n w h ih=>
  rintro h1 h2 out i sum hi hb ha Tq
  obtain⟨ra,_,_⟩:=wu hr hx
  rcases UH hr ra with⟨e,kz,gh,ki⟩|⟨s,m,i',ws,e,hs,hd,hh⟩
  ·obtain⟨dD,mn,mo,Av⟩:x.i'=x.i+1∧x.j'=x.j+1∧x.n=0∧x.s=none:=by rw[e];exact⟨rfl,rfl,rfl,rfl⟩
   have fU:iG (x::w)=iG w:=by unfold iG;rw[List.filterMap_cons,Av]
   rw[fU,mo,Int.zero_add]
   refine ih h1 h2 out i sum (by omega) ?_ (by omega) (by omega)
   rw[dD,mn]
   have e1:x.i+1 - i=(x.i - i)+1:=by omega
   rw[e1,UG (d:=0) (by omega),← List.append_assoc,hb,show i+(x.i - i)=x.i by omega,ki]
   have:=UG (l:=c.c) (d:=0) (i:=0) (k:=x.j) (by omega)
   rw[List.drop_zero,Nat.zero_add] at this
   exact this.symm
  obtain⟨dD,mn,mo,Av⟩:x.i'=i'∧x.j'=x.j+ws.length∧x.n=m∧x.s=some s:=by rw[e];exact⟨rfl,rfl,rfl,rfl⟩
  obtain⟨f1,f2⟩:=Et hs
  have fU:iG (x::w)=s::iG w:=by unfold iG;rw[List.filterMap_cons,Av]
  rw[fU]
  unfold lL
  rw[if_pos (by rw[f1];omega),hd]
  simp only
  have e2:s.a.toNat=x.i:=by rw[f1];simp
  rw[e2,hb,f2,List.length_take,Nat.min_eq_left (by omega),if_pos rfl]
  obtain⟨g1,g2⟩:=zzd hh
  have ho:=ib hr ra
  rw[ih h1 h2 (c.c.take x.j++ws) i' (sum+m) (by omega) (by rw[dD,Nat.sub_self,List.take_zero,List.append_nil,mn,g1]) ho.it ho.jt,mo,Int.add_assoc]
theorem UI {c:aj}(hr:Rt c){n:Int}{w:List aK}(h:Way (graph c) 0 0 c.t.length c.c.length n w):cJ c (iG w)=some n:=by
 have h1:=zwh hr h rfl rfl [] 0 0 (Nat.le_refl _) (by simp) (Nat.zero_le _) (Nat.zero_le _)
 have h2:=UF hr h
 unfold cJ eE
 rw[if_neg (by omega),h1]
 simp
theorem O2 {c:aj}:∀(k i j:Nat),i+k≤c.t.length→j+k≤c.c.length→(c.t.drop i).take k=(c.c.drop j).take k→∃w,Way (graph c) i j (i+k) (j+k) 0 w∧iG w=[]
 |0,i,j,_,_,_=>⟨[],.nil _ _,rfl⟩
 |k+1,i,j,hi,hj,h=>by
  have h1:c.t.getD i 0=c.c.getD j 0:=by
   have:=congrArg (fun l:List Int=>l.getD 0 0) h
   simp only[List.getD_eq_getElem?_getD] at this ⊢
   rw[List.getElem?_take_of_lt (by omega),List.getElem?_take_of_lt (by omega),List.getElem?_drop,List.getElem?_drop] at this
   simpa using this
  have h2:(c.t.drop (i+1)).take k=(c.c.drop (j+1)).take k:=by
   have:=congrArg List.tail h
   rw[List.drop_eq_getElem_cons (show i<c.t.length by omega),List.drop_eq_getElem_cons (show j<c.c.length by omega),List.take_succ_cons,List.take_succ_cons] at this
   exact this
  obtain⟨w,hw,hs⟩:=O2 k (i+1) (j+1) (by omega) (by omega) h2
  have:=Way.cons ⟨i,j,i+1,j+1,0,none⟩ (zO (by omega) (by omega) (z2y (by omega) (by omega) h1)) hw
  refine⟨_,by simpa[Nat.add_assoc,Nat.add_comm 1 k] using this,?_⟩
  unfold iG at hs ⊢
  rw[List.filterMap_cons,hs]
theorem z0s {c:aj}{s:aq}{n:Int}{i':Nat}{w:List Int}(hd:aJ c s=some (n,i',w))(hh:hasB c s.i.toNat w=true):s∈lG c s.a.toNat s.i.toNat:=by
 have one:∀x:Int,hasB c s.i.toNat [x]=true→s.i.toNat<c.c.length∧c.c.getD s.i.toNat 0=x:=fun x hx=>by
  unfold hasB at hx
  rw[bS,decide_eq_true_eq,decide_eq_true_eq] at hx
  have hl:s.i.toNat<c.c.length:=by have:=hx.1;simp at this;omega
  refine⟨hl,?_⟩
  have:=hx.2
  rw[List.drop_eq_getElem_cons hl] at this
  simp only[List.length_singleton,List.take_succ_cons,List.take_zero,List.cons.injEq,and_true] at this
  rw[List.getD_eq_getElem?_getD,List.getElem?_eq_getElem hl];exact this
 unfold aJ at hd
 split at hd
 ·rename_i dx
  obtain⟨h1,h2,h3⟩:=dx
  simp only at hd
  have ea:((s.a.toNat:Nat):Int)=s.a:=by omega
  have ei:((s.i.toNat:Nat):Int)=s.i:=by omega
  unfold lG
  rw[ea,ei]
  simp only[List.mem_append,List.mem_map,List.mem_range,List.mem_singleton]
  obtain⟨k,a,i,l,ww⟩:=s
  simp only at *
  split at hd
  ·rename_i hk;subst hk
   split at hd
   ·rename_i hc
    obtain⟨m,hm,he⟩:=Option.map_eq_some_iff.1 hd
    injection he with e1 e2;injection e2 with e2 e3
    subst e3
    obtain⟨g1,g2⟩:=one _ hh
    refine .inl (.inl (.inl (.inl (.inl ?_))))
    rw[if_pos g1,g2,hc.2];simp
   cases hd
  split at hd
  ·rename_i hk;subst hk
   split at hd
   ·rename_i hc
    refine .inl (.inl (.inl (.inl (.inr ?_))))
    rw[hc.2.1,hc.2.2]
   cases hd
  split at hd
  ·rename_i hk;subst hk
   split at hd
   ·rename_i hc
    refine .inl (.inl (.inl (.inr ⟨l.toNat - 1,by omega,?_⟩)))
    rw[hc.2.2.2.1];congr 1;omega
   cases hd
  split at hd
  ·rename_i hk;subst hk
   split at hd
   ·rename_i hc
    refine .inl (.inl (.inr ⟨l.toNat - 1,by omega,?_⟩))
    rw[hc.2.2];congr 1;omega
   cases hd
  split at hd
  ·rename_i hk;subst hk
   split at hd
   ·rename_i hc
    refine .inl (.inr ⟨l.toNat,by omega,?_⟩)
    rw[hc.2.2.1];congr 1;omega
   cases hd
  split at hd
  ·rename_i hk;subst hk
   split at hd
   ·rename_i hc
    injection hd with he;injection he with e1 e2;injection e2 with e2 e3
    subst e3
    obtain⟨g1,g2⟩:=one _ hh
    refine .inr ?_
    rw[if_pos g1,g2,hc.2];simp
   cases hd
  cases hd
 cases hd
theorem UJ {c:aj}{s:aq}{n:Int}{i':Nat}{w:List Int}(hd:aJ c s=some (n,i',w))(hh:hasB c s.i.toNat w=true):(⟨s.a.toNat,s.i.toNat,i',s.i.toNat+w.length,n,some s⟩:aK)∈steps c s.a.toNat s.i.toNat:=by
 unfold steps
 refine List.mem_append_right _ (List.mem_filterMap.2 ⟨s,z0s hd hh,?_⟩)
 unfold stepOf
 rw[hd];simp only[hh,if_true]
theorem UK {c:aj}:∀(l:List aq) (out:List Int) (i:Nat) (sum:Int) {o:List Int} {m:Int},lL c l out i sum=some (o,m)→∃r,o=out++r
 |[],out,i,sum,o,m,h=>by
  unfold lL at h;injection h with h;injection h with h1 h2;exact⟨_,h1.symm⟩
 |s::r,out,i,sum,o,m,h=>by
  unfold lL at h
  split at h
  ·split at h
   ·rename_i n i' w hd
    split at h
    ·obtain⟨q,hq⟩:=UK r _ _ _ h
     exact⟨(c.t.drop i).take (s.a.toNat - i)++(w++q),by rw[hq];simp only[List.append_assoc]⟩
    cases h
   cases h
  cases h
theorem UL {c:aj}(hr:Rt c):∀(l:List aq) (out:List Int) (i:Nat) (sum m:Int),i≤c.t.length→lL c l out i sum=some (c.c,m)→∃w,Way (graph c) i out.length c.t.length c.c.length (m - sum) w∧iG w=l
 |[],out,i,sum,m,hi,h=>by
  unfold lL at h;injection h with h;injection h with h1 h2
  have hl:out.length+(c.t.length - i)=c.c.length:=by rw[← h1];simp
  obtain⟨w,hw,hs⟩:=O2 (c:=c) (c.t.length - i) i out.length (by omega) (by omega) (by rw[← h1];simp)
  refine⟨w,?_,hs⟩
  rw[show i+(c.t.length - i)=c.t.length by omega,hl] at hw
  rw[h2,Int.sub_self];exact hw
 |s::r,out,i,sum,m,hi,h=>by
  unfold lL at h
  split at h
  ·rename_i dx
   split at h
   ·rename_i n i' ws hd
    split at h
    ·rename_i nX
     obtain⟨q,hq⟩:=UK r _ _ _ h
     obtain⟨d1,d2,d3,d4,d5,d6⟩:=kN hr hd
     obtain⟨w,hw,hs⟩:=UL hr r _ i' (sum+n) m d4 h
     have eG:((c.t.drop i).take (s.a.toNat - i)).length=s.a.toNat - i:=by rw[List.length_take,List.length_drop];omega
     have ec:s.i.toNat=out.length+(s.a.toNat - i):=by rw[nX,List.length_append,eG];omega
     have eM:=congrArg List.length hq
     simp only[List.length_append,eG] at eM
     have e1:(c.t.drop i).take (s.a.toNat - i)=(c.c.drop out.length).take (s.a.toNat - i):=by
      rw[hq]
      simp only[List.append_assoc,List.drop_left']
      rw[List.take_left' eG]
     have hb:hasB c s.i.toNat ws=true:=by
      unfold hasB
      rw[bS,decide_eq_true_eq,decide_eq_true_eq,ec]
      refine⟨by omega,?_⟩
      rw[hq,List.append_assoc (out++_) ws q,List.drop_left' (by rw[List.length_append,eG]),List.take_left' rfl]
     obtain⟨w1,lX,rp⟩:=O2 (c:=c) (s.a.toNat - i) i out.length (by omega) (by omega) e1
     have cN:=UJ hd hb
     have hsg:(⟨s.a.toNat,s.i.toNat,i',s.i.toNat+ws.length,n,some s⟩:aK)∈graph c:=zO (by omega) (by omega) cN
     rw[show (out++(c.t.drop i).take (s.a.toNat - i)++ws).length=s.i.toNat+ws.length by simp only[List.length_append,eG];omega] at hw
     have h2:=Way.cons _ hsg hw
     simp only at h2
     rw[show i+(s.a.toNat - i)=s.a.toNat by omega,← ec] at lX
     have h3:=lX.append h2
     refine⟨_,by rw[show 0+(n+(m - (sum+n)))=m - sum by omega] at h3;exact h3,?_⟩
     unfold iG at hs rp ⊢
     rw[List.filterMap_append,rp,List.filterMap_cons,hs];rfl
    cases h
   cases h
  cases h
theorem UM {c:aj}(hr:Rt c){l:List aq}{n:Int}:cJ c l=some n↔∃w,Way (graph c) 0 0 c.t.length c.c.length n w∧iG w=l:=by
 constructor
 ·intro h
  unfold cJ at h
  split at h
  ·cases h
  split at h
  ·rename_i o m hw
   split at h
   ·rename_i ho
    injection h with h
    subst h;subst ho
    unfold eE at hw
    obtain⟨w,h1,h2⟩:=UL hr l [] 0 0 m (Nat.zero_le _) hw
    rw[Int.sub_zero] at h1
    exact⟨w,h1,h2⟩
   cases h
  cases h
 rintro⟨w,h1,rfl⟩
 exact UI hr h1
theorem z4f {c:aj}(hr:Rt c):cJ c (vk c)=some (du c):=UI hr (LB hr)
theorem UN {c:aj}(hr:Rt c){l:List aq}{n:Int}(h:cJ c l=some n):du c≤n:=by
 obtain⟨w,hw,_⟩:=(UM hr).1 h
 exact Er hr hw
theorem UO (l m:List aK):iG (l++m)=iG l++iG m:=List.filterMap_append
theorem z3o {c:aj}{i j:Nat}{s:aq}(hs:s∈lG c i j):((stepOf c i j s).bind (·.s))=if mX c s=true then some s else none:=by
 obtain⟨_,hi⟩:=Et hs
 unfold stepOf mX
 cases aJ c s with
 |none=>rfl
 |some y=>
  obtain⟨n,i',w⟩:=y
  simp only[hi,Int.toNat_natCast]
  split<;>rfl
theorem zzl (c:aj)(i j:Nat):iG (steps c i j)=pB c i j:=by
 unfold steps pB
 rw[UO]
 have e1:iG (if i<c.t.length∧j<c.c.length∧c.t.getD i 0=c.c.getD j 0 then [(⟨i,j,i+1,j+1,0,none⟩:aK)] else [])=[]:=by split<;>rfl
 rw[e1,List.nil_append]
 unfold iG
 rw[List.filterMap_filterMap]
 have:∀l:List aq,(∀s∈l,s∈lG c i j)→l.filterMap (fun s=>(stepOf c i j s).bind (·.s))=l.filter (mX c):=by
  intro l
  induction l with
  |nil=>exact fun _=>rfl
  |cons s r ih=>
   intro h
   rw[List.filterMap_cons,z3o (h s List.mem_cons_self),List.filter_cons]
   cases mX c s with
   |true=>simp only[if_true];rw[ih fun x hx=>h x (List.mem_cons_of_mem _ hx)]
   |false=>simp only[Bool.false_eq_true,if_false];exact ih fun x hx=>h x (List.mem_cons_of_mem _ hx)
 exact this _ fun _ h=>h
theorem z3j (c:aj)(l:List (Nat×Nat)):iG (l.flatMap fun p=>steps c p.1 p.2)=l.flatMap fun p=>pB c p.1 p.2:=by
 induction l with
 |nil=>rfl
 |cons p r ih=>rw[List.flatMap_cons,UO,zzl,ih,List.flatMap_cons]
theorem ztk (c:aj):(iG (graph c)).Pairwise aq.lt:=by
 unfold graph
 rw[z3j,List.pairwise_flatMap]
 refine⟨fun p _=>(UP c p.1 p.2).filter _,(Lx c).imp fun {p q} h x hx y hy=>?_⟩
 obtain⟨a1,a2⟩:=Et (List.mem_filter.1 hx).1
 obtain⟨b1,b2⟩:=Et (List.mem_filter.1 hy).1
 unfold aq.lt
 unfold vj at h
 omega
theorem zzh {c:aj}{l:List aK}(h:l.Sublist (graph c)):(iG l).Pairwise aq.lt:=(ztk c).sublist (h.filterMap _)
open Go Go.Am Go.Proofs Tryz
attribute [local simp] eQ ij pV dH gk mz ai.back cS fW lg bm Nat.testBit_eq_decide_div_mod_eq cC iE mw vO ph gF pj iP cU nG nF pe gG pf n4 lZ pT n3 pg o7 o4 o8 o5 o6 o9 pa mR eZ jW eP pn nH oc po pq mQ pR pS gE my fK fy fL kV gg nS nv ny jF oR bj nZ fx bP bK lD ai.get ai.alloc ai.put ai.drop ai.empty bt cZ iw jn gA cz chunk List.range List.range.loop lh pW l9 bI b6 PV.aG PV.aF PV.dc PV.fu gY gH od PV.one PV.ids PV.cF gI beq_eq qD rE
attribute [local simp] cQ bQ fN pZ ti p7 p9 pw gJ fI
attribute [local simp ↓ high] sD rJ
def UQ (c:aj)(s:aq):Bool:=!decide (nO c s<1099511627776)||decide (0<nO c s - aX c c.t.length c.c.length)
def Ip (c:aj)(x:aK):Bool:=match x.s with|some s=>UQ c s|none=>false
def sL (q:aK→Bool)(d:List aq)(x:aK):List aq:=match x.s with|some s=>if q x then d++[s] else d|none=>d
def wy (c:aj)(q:aK→Bool):List aq:=(qg c).foldl (sL q) []
theorem UR (q:aK→Bool):∀(l:List aK) (d:List aq),l.foldl (sL q) d=d++iG (l.filter q)
 |[],d=>by simp[iG]
 |x::r,d=>by
  rw[List.foldl_cons,UR q r,List.filter_cons]
  unfold sL
  cases hs:x.s with
  |none=>
   cases hq:q x with
   |true=>simp[iG,hs]
   |false=>simp
  |some s=>
   cases hq:q x with
   |true=>simp[iG,hs]
   |false=>simp
theorem xdj (c:aj)(q:aK→Bool):wy c q=iG ((qg c).filter q):=by unfold wy;rw[UR];rfl
theorem z8e (c:aj)(q:aK→Bool):(wy c q).mergeSort F5=wy c q:=by
 rw[xdj]
 exact z4e (zzh (List.filter_sublist.trans List.filter_sublist))
theorem z6s (q:aK→Bool)(d:List aq)(x:aK):(sL q d x).length≤d.length+1:=by
 unfold sL
 split
 ·split<;>simp
 exact Nat.le_succ _
theorem US (q:aK→Bool):∀(l:List aK) (d:List aq),(l.foldl (sL q) d).length≤d.length+l.length
 |[],d=>Nat.le_refl _
 |x::r,d=>by
  rw[List.foldl_cons,List.length_cons]
  have h1:=US q r (sL q d x)
  have h2:=z6s q d x
  omega
theorem zyl {c:aj}(hr:Rt c){pre kD:List aK}{x:aK}(h:qg c=pre++x::kD):pre.length<139258:=by
 have h1:=Il hr
 have h2:(qg c).length≤(graph c).length:=List.length_filter_le _ _
 rw[h,List.length_append,List.length_cons] at h2
 omega
theorem UT {x:aK}{s:aq}(h:x.s=some s):dh x=.agg [.int .i64 x.i,.int .i64 x.j,.int .i64 x.i',.int .i64 x.j',.int .i64 s.k,.int .i64 s.a,.int .i64 s.i,.int .i64 s.l,.int .i64 s.w,.int .i64 x.n,.bool false]:=by
 unfold dh;rw[h];rfl
theorem UU {x:aK}(h:x.s=none):dh x=.agg [.int .i64 x.i,.int .i64 x.j,.int .i64 x.i',.int .i64 x.j',.int .i64 0,.int .i64 0,.int .i64 0,.int .i64 0,.int .i64 0,.int .i64 x.n,.bool true]:=by
 unfold dh;rw[h];rfl
variable [bF] in
theorem O3 (c:aj)(ps:List (Nat×Nat))(f:FuncId)(q:aK→Bool)(dM:∀cs w,(callFunc f cs).run prog w=.ok (.enter f cs) w)(n g:Nat)(d:List aq)(x:aK)(hn:900≤n)(hg:3<g)(zP:g<n)(hl:d.length<200000)(hp:∀s,x.s=some s→aN prog f [ve c ps,dh x] fun r=>r=.bool (q x)):dP prog 141 [dh x,.ptr 1 0,.ptr 2 0,.ptr 3 0] ⟨n,[(3,.box [.grow g (d).length true]),(2,.box (bQ c (.aC (be (places c) (aX c))) (.aC (be ps (bwd c))) (.int .i64 (aX c c.t.length c.c.length)))),(1,.box [.func f [] []]),(0,.box (cQ c)),(g,.grow 5 ((d).map encS))]⟩ fun v ao=>∃g',(g'=g∨(n+2≤g'∧g'<ao.next))∧bN [(3,.box [.grow g' (sL q d x).length true]),(2,.box (bQ c (.aC (be (places c) (aX c))) (.aC (be ps (bwd c))) (.int .i64 (aX c c.t.length c.c.length)))),(1,.box [.func f [] []]),(0,.box (cQ c)),(g',.grow 5 ((sL q d x).map encS))] ao.bq∧n≤ao.next∧jZ n [(3,.box [.grow g (d).length true]),(2,.box (bQ c (.aC (be (places c) (aX c))) (.aC (be ps (bwd c))) (.int .i64 (aX c c.t.length c.c.length)))),(1,.box [.func f [] []]),(0,.box (cQ c)),(g,.grow 5 ((d).map encS))] [(3,.box [.grow g' (sL q d x).length true]),(2,.box (bQ c (.aC (be (places c) (aX c))) (.aC (be ps (bwd c))) (.int .i64 (aX c c.t.length c.c.length)))),(1,.box [.func f [] []]),(0,.box (cQ c)),(g',.grow 5 ((sL q d x).map encS))]:=by
  obtain⟨m,rfl⟩:∃m,n=m+900:=⟨n - 900,by omega⟩
  have g0:¬g=0:=by omega
  have g1:¬g=1:=by omega
  have g2:¬g=2:=by omega
  have g3:¬g=3:=by omega
  have h0:¬0=g:=by omega
  have h1:¬1=g:=by omega
  have h2:¬2=g:=by omega
  have h3:¬3=g:=by omega
  have gm:¬g=m+900:=by omega
  have gm1:¬g=m+900+1:=by omega
  have gm2:¬g=m+900+2:=by omega
  have hm:¬m+900=g:=by omega
  have qy:d.length≤4294967295:=by omega
  have Ao:∀s:aq,ma [PV.agg [.int .i64 s.k,.int .i64 s.a,.int .i64 s.i,.int .i64 s.l,.int .i64 s.w]]=true:=fun _=>rfl
  have qh:sL q d x=match x.s with|some s=>if q x then d++[s] else d|none=>d:=rfl
  have hE:∀s:aq,encS s=.agg [.int .i64 s.k,.int .i64 s.a,.int .i64 s.i,.int .i64 s.l,.int .i64 s.w]:=fun _=>rfl
  refine .bT func141 rfl rfl ?_
  rcases hs:x.s with _|s
  ·
    rw[hs] at qh
    simp only at qh
    rw[UU hs]
    refine .sr ?_
    refine .seq (.ay rF rfl ae (.rn eD _ ?_))
    refine .split (t:=8) rfl (fun c8=>?_) (fun c8=>?_)
    · try subst c8
      try simp at c8
    try subst c8
    try simp at c8
    refine .rn [4,5,6,7,8] [] ?_
    refine .done (.fD rfl (.skip ?_))
    refine⟨_,iT,g,.inl rfl,?_,by simp,?_⟩
    · rw[qh]
      exact bR
    rw[qh]
    exact lq
  ·
    rw[hs] at qh
    simp only at qh
    have hp:=hp s hs
    rw[uu] at hp
    rw[UT hs] at hp ⊢
    obtain⟨b,hb⟩:∃b,q x=b:=⟨_,rfl⟩
    rw[hb] at hp qh
    refine .sr ?_
    refine .seq (.ay rF rfl ae (.rn eD _ ?_))
    refine .split (t:=8) rfl (fun c8=>?_) (fun c8=>?_)
    · try subst c8
      try simp at c8
      refine .rn [4,5,6] _ ?_
      refine .step rfl rfl (.pure rfl rfl rfl dM (by decide) (hp) (by first|rfl|simp[*]) ?_)
      rintro _ rfl
      refine .rn [8] [] ?_
      refine .done ?_
      refine .cs ?_ ?_<;>intro jz
      · try simp at jz
        refine .rn ?_
        subst jz
        first
        | (rw [if_pos rfl] at qh
           refine⟨_,iT,m+902,.inr ⟨by omega,by simp⟩,?_,by simp,?_⟩
           · rw[qh,List.length_append,List.map_append]
             simp only[List.map_cons,List.map_nil,List.length_cons,List.length_nil,hE]
             exact bR
           rw[qh]
           exact lq)
        | (rw [if_neg (by decide)] at qh
           refine⟨_,iT,g,.inl rfl,?_,by simp,?_⟩
           · rw[qh]
             exact bR
           rw[qh]
           exact lq)
      try simp at jz
      refine .skip ?_
      subst jz
      first
      | (rw [if_pos rfl] at qh
         refine⟨_,iT,m+902,.inr ⟨by omega,by simp⟩,?_,by simp,?_⟩
         · rw[qh,List.length_append,List.map_append]
           simp only[List.map_cons,List.map_nil,List.length_cons,List.length_nil,hE]
           exact bR
         rw[qh]
         exact lq)
      | (rw [if_neg (by decide)] at qh
         refine⟨_,iT,g,.inl rfl,?_,by simp,?_⟩
         · rw[qh]
           exact bR
         rw[qh]
         exact lq)
    try subst c8
    try simp at c8
theorem xgw (c:aj)(ps:List (Nat×Nat))(f:FuncId)(d:List aq){n g:Nat}(hg:g=4∨(902≤g∧g<n)):∃g',(g'=4∨(902≤g'∧g'<1000))∧D9 [(3,.box [.grow g' (d).length true]),(2,.box (bQ c (.aC (be (places c) (aX c))) (.aC (be ps (bwd c))) (.int .i64 (aX c c.t.length c.c.length)))),(1,.box [.func f [] []]),(0,.box (cQ c)),(g',.grow 5 ((d).map encS))]∧∀i j:Nat,Wk 900 [(2,.ptr 900 0),(3,.ptr 901 0),(4,.int .i64 i),(11,.int .i64 ((c.t.length:Int)+1)),(12,.int .i64 i),(19,.int .i64 ((c.c.length:Int)+1)),(20,.int .i64 j)] ⟨n,(901,.box [.func 141 [] [.ptr 1 0,.ptr 2 0,.ptr 3 0]])::(900,.box (bQ c (.aC (be (places c) (aX c))) (.aC (be ps (bwd c))) (.int .i64 (aX c c.t.length c.c.length))))::[(3,.box [.grow g (d).length true]),(2,.box (bQ c (.aC (be (places c) (aX c))) (.aC (be ps (bwd c))) (.int .i64 (aX c c.t.length c.c.length)))),(1,.box [.func f [] []]),(0,.box (cQ c)),(g,.grow 5 ((d).map encS))]⟩ [(2,.ptr 900 0),(3,.ptr 901 0),(4,.int .i64 i),(11,.int .i64 ((c.t.length:Int)+1)),(12,.int .i64 i),(19,.int .i64 ((c.c.length:Int)+1)),(20,.int .i64 j)] ⟨1000,(901,.box [.func 141 [] [.ptr 1 0,.ptr 2 0,.ptr 3 0]])::(900,.box (bQ c (.aC (be (places c) (aX c))) (.aC (be ps (bwd c))) (.int .i64 (aX c c.t.length c.c.length))))::[(3,.box [.grow g' (d).length true]),(2,.box (bQ c (.aC (be (places c) (aX c))) (.aC (be ps (bwd c))) (.int .i64 (aX c c.t.length c.c.length)))),(1,.box [.func f [] []]),(0,.box (cQ c)),(g',.grow 5 ((d).map encS))]⟩:=by
 rcases hg with rfl|⟨hg,zP⟩
 ·exact⟨4,.inl rfl,⟨rfl,rfl⟩,fun i j=>Rec.wk (.mk [] [] Iq Ir rfl rfl rfl)⟩
 have gX:∀X1 X0,(⟨n,(901,X1)::(900,X0)::[(3,.box [.grow g (d).length true]),(2,.box (bQ c (.aC (be (places c) (aX c))) (.aC (be ps (bwd c))) (.int .i64 (aX c c.t.length c.c.length)))),(1,.box [.func f [] []]),(0,.box (cQ c)),(g,.grow 5 ((d).map encS))]⟩:ai).get g=some (.grow 5 (d.map encS)):=fun X1 X0=>by
  simp[show ¬g=901 by omega,show ¬g=900 by omega,show ¬g=3 by omega,show ¬g=2 by omega,show ¬g=1 by omega,show ¬g=0 by omega]
 refine⟨902,.inr ⟨Nat.le_refl _,by decide⟩,⟨rfl,rfl⟩,fun i j=>Rec.wk (.mk [] [(902,g)] O4 (by refine⟨?_,?_,?_,?_,?_,?_,⟨⟨(aY rfl),.inr ⟨rfl,_,gX _ _,rfl⟩⟩,trivial⟩⟩<;>(refine⟨(aY rfl),.inr ⟨rfl,_,rfl,?_⟩⟩)<;>repeat' (first|exact trivial|exact Alt.dQ aD.nil (aD.cons (Alt.ptr _ _ _ (aY rfl) rfl) (aD.cons (Alt.ptr _ _ _ (aY rfl) rfl) (aD.cons (Alt.ptr _ _ _ (aY rfl) rfl) aD.nil)))|refine And.intro (And.intro (aY rfl) (Or.inr (And.intro rfl (Exists.intro _ (And.intro rfl ?_))))) ?_|refine And.intro (And.intro (aY rfl) (Or.inl (Exists.intro _ (And.intro rfl (aY rfl))))) ?_|refine And.intro (And.intro (aY rfl) (Or.inl (Exists.intro _ (And.intro (congrArg (aM.grow _) (by simp[*])) (aY rfl))))) ?_|rfl|exact aD.nil|(refine congrArg (aM.grow _) ?_;simp[*];done)|(refine congrArg aM.map ?_;simp[*];done)|(refine congrArg (aM.arr _ _) ?_;simp[*];done)|refine sM.mk rfl rfl rfl rfl rfl ?_|refine And.intro (Exists.intro _ (And.intro rfl ?_)) ?_|refine aD.cons ?_ ?_|(refine Alt.same _ ?_;first|rfl|(simp[*];done))|exact Alt.aW _ _ (aY rfl) rfl|exact Alt.grow _ _ _ _ (aY rfl) rfl|(refine Alt.zQ _ _ _ _ _ ?_ (aY rfl) rfl;simp[*];done)|exact Alt.ptr _ _ _ (aY rfl) rfl|exact Alt.own _ _ _ _ _ (aY rfl) rfl|exact Alt.sub _ _ _ _ (aY rfl) rfl|exact Alt.bY _ _ (aY rfl) rfl|exact Alt.aI _ _|(refine Alt.oA _ _ _ ?_;simp[*];done)|exact Alt.e0 _|exact Alt.dQ aD.nil (aD.cons (Alt.ptr _ _ _ (aY rfl) rfl) aD.nil)|exact Alt.dC|exact Alt.mY _ _ _|(refine Alt.bW _ _ _ _ _ rfl rfl ?_;simp[*];done)|exact Alt.iV _ _ _ _ _ _ _ _ rfl rfl rfl|exact Alt.dS _ _ rfl rfl|(refine Alt.zR ?_;simp[*]<;>rfl)|(refine Alt.ofEq rfl ?_;simp[*];done))) ?_ rfl rfl)⟩
 simp[xZ,wz,Nat.beq_eq]
 omega
section
variable [bF]
theorem UW (c:aj)(f:FuncId)(q:aK→Bool)(hB:BC c)(dM:∀cs w,(callFunc f cs).run prog w=.ok (.enter f cs) w)(hp:bl c=0→∀ps x s,x.s=some s→aN prog f [ve c ps,dh x] fun r=>r=.bool (q x)):aN prog 87 [aH c,.func f [] []] fun r=>eR r (.bx [.vec ((if bl c=0 then wy c q else []).map encS),.int .i64 (bl c)]):=by
 have ct:=sB c hB
 have fY:=Bd c
 have hC:cR c=(cQ c):=rfl
 obtain⟨e,he⟩:∃e,bl c=e:=⟨_,rfl⟩
 have dz:=he
 rw[he] at ct fY hp ⊢
 unfold aH at ct fY ⊢
 rw[hC] at ct fY ⊢
 refine .bT func87 rfl rfl ?_
 refine .sr ?_
 refine .seq (.seq (.ay [0,1,2] rfl ae (.rn [0] _ ?_)))
 refine .pc rfl rfl rfl rfl rfl call55 (ct) ?_
 refine .rn [2] [] ?_
 refine .done (.sr ?_)
 refine .cs ?_ ?_<;>intro wm
 ·try simp at wm
  refine .sr ?_
  refine .ret (au ?_)
  rw[if_neg wm];exact D8 rfl
 try simp at wm
 subst wm
 have bo:=gR dz
 refine .skip (.seq (.ay eD rfl ae (.rn [0] _ ?_)))
 refine .step rfl rfl (.pure rfl rfl rfl call77 (by decide) (fY rfl) (by first|rfl|simp[*]) ?_)
 rintro _ ⟨ps,gr,rfl⟩
 have hp:=hp rfl ps
 have tz:=Be c ps dz gr 141 [] [.ptr 1 0,.ptr 2 0,.ptr 3 0] call141 [(3,.box [.grow 4 (([]:List aq)).length true]),(2,.box (bQ c (.aC (be (places c) (aX c))) (.aC (be ps (bwd c))) (.int .i64 (aX c c.t.length c.c.length)))),(1,.box [.func f [] []]),(0,.box (cQ c)),(4,.grow 5 ((([]:List aq)).map encS))] (fun pre n L=>∃g,(g=4∨(902≤g∧g<n))∧L=[(3,.box [.grow g (pre.foldl (sL q) []).length true]),(2,.box (bQ c (.aC (be (places c) (aX c))) (.aC (be ps (bwd c))) (.int .i64 (aX c c.t.length c.c.length)))),(1,.box [.func f [] []]),(0,.box (cQ c)),(g,.grow 5 ((pre.foldl (sL q) []).map encS))]) ⟨4,.inl rfl,rfl⟩ (fun _ _ _ _ ⟨g,h1,h2⟩ h=>⟨g,by omega,h2⟩) (fun pre x kD n L iA hn ⟨g,hg,hL⟩=>by
 subst hL
 have qy:=zyl bo iA
 have mq:=US q pre []
 exact(O3 c ps f q dM n g _ x hn (by omega) (by omega) (by simp at mq;omega) (hp x)).mono fun v ao ⟨g',hg',h2,h3,h4⟩=>⟨_,h2,h3,h4,g',by omega,by rw[List.foldl_append];rfl⟩) (fun pre n L ⟨g,hg,hL⟩ hn hd=>by
 subst hL
 obtain⟨g2,h1,h2,h3⟩:=xgw c ps f (pre.foldl (sL q) []) hg
 exact⟨_,⟨g2,h1,rfl⟩,h2,h3⟩)
 rw[uu] at tz ⊢
 refine .rn [2,3] [] ?_
 refine .done (.sr ?_)
 refine .seq (.ay [0,1,2] rfl ae (.rn [0,1] _ ?_))
 refine .step rfl rfl (.vf (aA:=[(2,.ptr 0 0),(3,.ptr 1 0),(7,.ptr 2 0),(8,.ptr 3 0),(16,.agg (bQ c (.aC (be (places c) (aX c))) (.aC (be ps (bwd c))) (.int .i64 (aX c c.t.length c.c.length)))),(17,.func 141 [] [.ptr 1 0,.ptr 2 0,.ptr 3 0])]) (aV:=⟨900,[(3,.box [.grow 4 (([]:List aq)).length true]),(2,.box (bQ c (.aC (be (places c) (aX c))) (.aC (be ps (bwd c))) (.int .i64 (aX c c.t.length c.c.length)))),(1,.box [.func f [] []]),(0,.box (cQ c)),(4,.grow 5 ((([]:List aq)).map encS))]⟩) (.mk [] [] Iq Ir rfl rfl rfl) (.call rfl rfl rfl call81 (by decide) (((tz)).mono ?_)))
 rintro _ _ ⟨n,L,⟨g,hg,rfl⟩,rfl⟩
 have g0:¬g=0:=by omega
 have g1:¬g=1:=by omega
 have g2:¬g=2:=by omega
 have g3:¬g=3:=by omega
 have h3:¬3=g:=by omega
 have h2:¬2=g:=by omega
 have h1:¬1=g:=by omega
 have h0:¬0=g:=by omega
 obtain⟨d,hd⟩:∃d,(qg c).foldl (sL q) []=d:=⟨_,rfl⟩
 have lf:wy c q=d:=hd
 have rm:=z8e c q
 rw[lf] at rm
 rw[hd]
 clear tz hd
 refine .done (.seq (.ay [0,1] rfl ae ?_))
 refine .rn [0] _ ?_
 refine .step rfl rfl (.call rfl rfl rfl call117 (by decide) (((OT (zs:=d) (i:=g) (nl:=true) (n:=d.length) (by simp[*]) rfl)).mono ?_))
 rintro _ _ ⟨rfl,rfl⟩
 rw[rm]
 refine .done (.sr ?_)
 refine .ret ?_
 refine⟨_,_,iT,(by simp[*]<;>rfl),?_⟩
 rw[if_pos rfl,lf];exact oB (by simp[PV.aG,PV.aF])
theorem p26 (c:aj)(hB:BC c):aN prog 26 [aH c] fun r=>eR r (.bx [.vec ((if bl c=0 then wy c (Ip c) else []).map encS),.int .i64 (bl c)]):=by
 have Eu:=aN.soft (UW c 88 (Ip c) hB call88 (fun hk ps x s hs=>by
  rw[show Ip c x=UQ c s by unfold Ip;rw[hs]]
  obtain⟨i,j,i',j',n,s0⟩:=x
  simp only at hs
  subst hs
  exact p88 c ps hk i j i' j' n s)) (by simp[PV.aG,PV.aF])
 have hC:cR c=(cQ c):=rfl
 unfold aH at Eu ⊢
 rw[hC] at Eu ⊢
 refine .bT func26 rfl rfl ?_
 refine .sr ?_
 refine .seq (.ay kg rfl ae (.rn [0] _ ?_))
 refine .pc rfl rfl rfl rfl rfl call87 (Eu) ?_
 refine .rn [2,3,4,5] [] ?_
 refine .done (.ret (au ?_))
 exact oB (by simp[PV.aG,PV.aF])
theorem p28 (c:aj)(hB:BC c):aN prog 28 [aH c] fun r=>eR r (.bx [.vec ((if bl c=0 then wy c (fun _=>true) else []).map encS),.int .i64 (bl c)]):=by
 have Eu:=aN.soft (UW c 94 (fun _=>true) hB call94 (fun hk ps x s hs=>p94 c ps x)) (by simp[PV.aG,PV.aF])
 have hC:cR c=(cQ c):=rfl
 unfold aH at Eu ⊢
 rw[hC] at Eu ⊢
 refine .bT func28 rfl rfl ?_
 refine .sr ?_
 refine .seq (.ay kg rfl ae (.rn [0] _ ?_))
 refine .pc rfl rfl rfl rfl rfl call87 (Eu) ?_
 refine .rn [2,3,4,5] [] ?_
 refine .done (.ret (au ?_))
 exact oB (by simp[PV.aG,PV.aF])
end
def gK (n:Nat)(F:Nat→Bool):List PV:=(List.range n).map fun (i:Nat)=>PV.bool (F i)
@[simp] theorem z3x (n:Nat)(F:Nat→Bool):(gK n F).length=n:=by simp[gK,-List.range,-List.range.loop]
@[simp] theorem xfl (n:Nat)(F:Nat→Bool):(gK n F).all PV.one=true:=by simp[gK,PV.one]
@[simp] theorem xds (n:Nat)(F:Nat→Bool):PV.aF (gK n F)=true:=by
 unfold gK
 generalize List.range n=l
 induction l with
 |nil=>rfl
 |cons a r ih=>simp only[List.map_cons,PV.aF,PV.aG,Bool.true_and];exact ih
theorem LC (n:Nat)(F:Nat→Bool)(i:Nat)(h:i<n):(gK n F)[i]?=some (PV.bool (F i)):=by
 simp[gK,h,-List.range,-List.range.loop]
theorem z3h (n:Nat):List.replicate n (PV.bool false)=gK n fun _=>false:=by
 simp[gK,List.map_const',-List.range,-List.range.loop]
theorem z8k (n:Nat)(F:Nat→Bool)(i:Nat)(h:i<n):(gK n F)[i]'(by simpa using h)=PV.bool (F i):=by
 have:=LC n F i h
 rw[List.getElem?_eq_getElem (by simpa using h)] at this
 injection this
def rR (F:Nat→Bool)(x:aK):Nat→Bool:=fun i=>F i||(x.s.isNone&&decide (x.i=i))
theorem z5o (n:Nat)(F:Nat→Bool)(i:Nat)(h:i<n):(gK n F).take i++PV.bool true::(gK n F).drop (i+1)=gK n (fun j=>F j||decide (i=j)):=by
 refine List.ext_getElem? fun j=>?_
 by_cases hj:j<n
 ·rw[LC n _ j hj,List.getElem?_append]
  simp only[List.length_take,z3x,Nat.min_eq_left (Nat.le_of_lt h)]
  by_cases h1:j<i
  ·rw[if_pos h1,List.getElem?_take_of_lt h1,LC n _ j hj]
   simp[show ¬i=j by omega]
  rw[if_neg h1]
  by_cases h2:j=i
  ·subst h2;simp
  rw[show j - i=(j - i - 1)+1 by omega,List.getElem?_cons_succ,List.getElem?_drop,show i+1+(j - i - 1)=j by omega,LC n _ j hj]
  simp[show ¬i=j by omega]
 rw[List.getElem?_eq_none (by simp;omega),List.getElem?_eq_none (by simp;omega)]
def Ev (c:aj):Nat→Bool:=(qg c).foldl rR fun _=>false
def F9 (c:aj)(i:Nat):Int:=fwd c (fun x=>!decide (x.s=none∧x.i=i)) c.t.length c.c.length
def Ga (c:aj)(i:Nat):Bool:=Bool.or (!decide (F9 c i<1099511627776)) (decide (0<F9 c i - aX c c.t.length c.c.length))
def wA (c:aj):Nat→List Int
 |0=>[]
 |k+1=>wA c k++if Ev c k=true then [(k:Int)] else []
def wB (c:aj):Nat→List Int
 |0=>[]
 |k+1=>wB c k++if Ev c k=true∧Ga c k=true then [(k:Int)] else []
theorem UX (c:aj):∀k,(wA c k).length≤k
 |0=>Nat.le_refl _
 |k+1=>by have:=UX c k;unfold wA;rw[List.length_append];split<;>simp<;>omega
theorem UY (c:aj):∀k,(wB c k).length≤k
 |0=>Nat.le_refl _
 |k+1=>by have:=UY c k;unfold wB;rw[List.length_append];split<;>simp<;>omega
theorem z9p {c:aj}(hr:Rt c){x:aK}(h:x∈graph c)(hs:x.s=none):x.i<c.t.length:=by
 obtain⟨h1,h2,h3⟩:=wu hr h
 rcases UH hr h1 with⟨_,h,_⟩|⟨s,n,i',w,e,_⟩
 ·exact h
 rw[e] at hs;cases hs
section
variable [bF]
theorem p82 (c:aj)(ps:List (Nat×Nat))(n:Nat)(F:Nat→Bool)(x:aK)(hn:900≤n)(hl:c.t.length≤48)(hx:x.s=none→x.i<c.t.length):dP prog 82 [dh x,.ptr 3 0] ⟨n,[(3,.box [.own 2 0 c.t.length c.t.length]),(2,.arr false 1 (gK c.t.length (F))),(1,.box (bQ c (.aC (be (places c) (aX c))) (.aC (be ps (bwd c))) (.int .i64 (aX c c.t.length c.c.length)))),(0,.box (cQ c))]⟩ fun v ao=>bN [(3,.box [.own 2 0 c.t.length c.t.length]),(2,.arr false 1 (gK c.t.length (rR F x))),(1,.box (bQ c (.aC (be (places c) (aX c))) (.aC (be ps (bwd c))) (.int .i64 (aX c c.t.length c.c.length)))),(0,.box (cQ c))] ao.bq∧n≤ao.next:=by
 obtain⟨m,rfl⟩:∃m,n=m+900:=⟨n - 900,by omega⟩
 refine .bT func82 rfl rfl ?_
 rcases hs:x.s with _|s
 ·
  have hx:=hx hs
  rw[UU hs]
  have UZ:x.i+1≤c.t.length:=hx
  have rS:=z5o c.t.length F x.i hx
  have hG:rR F x=fun j=>F j||decide (x.i=j):=by unfold rR;rw[hs];rfl
  refine .sr ?_
  refine .sr ?_
  refine .cs ?_ ?_<;>intro c4
  ·try simp at c4
   refine .rn ?_
   refine⟨_,iT,?_,by simp⟩
   rw[hG]
   exact bR
  try simp at c4
 ·
  rw[UT hs]
  have hG:rR F x=F:=by funext i;unfold rR;rw[hs];simp
  refine .sr ?_
  refine .sr ?_
  refine .cs ?_ ?_<;>intro c4
  ·try simp at c4
  try simp at c4
  refine .skip ?_
  refine⟨_,iT,?_,by simp⟩
  rw[hG]
  exact bR
theorem p22 (c:aj)(hB:BC c):aN prog 22 [aH c] fun r=>eR r (.bx [ints (if bl c=0 then wB c c.t.length else []),ints (if bl c=0 then wA c c.t.length else []),.int .i64 (bl c)]):=by
 have ct:=sB c hB
 have fY:=Bd c
 have hC:cR c=(cQ c):=rfl
 obtain⟨e,he⟩:∃e,bl c=e:=⟨_,rfl⟩
 have dz:=he
 rw[he] at ct fY ⊢
 unfold aH at ct fY ⊢
 rw[hC] at ct fY ⊢
 have vl:=z3h c.t.length
 have Oz:wB c 0=[]:=rfl
 have hS0:wA c 0=[]:=rfl
 refine .bT func22 rfl rfl ?_
 refine .sr ?_
 refine .seq (.seq (.ay [0,1,2] rfl ae (.rn [0] _ ?_)))
 refine .pc rfl rfl rfl rfl rfl call55 (ct) ?_
 refine .rn [2] [] ?_
 refine .done (.sr ?_)
 refine .cs ?_ ?_<;>intro gT
 ·try simp at gT
  refine .sr ?_
  refine .ret (au ?_)
  rw[if_neg gT,if_neg gT];exact zJ (.cons .dC (.cons .dC (.cons (.same _ rfl) .nil)))
 try simp at gT
 subst gT
 have bo:=gR dz
 have oh:=bo.tl
 have yag:c.t.length≤4294967296:=by omega
 have yah:(c.t.length:Int)≤4294967296:=by omega
 refine .skip (.seq (.ay eD rfl ae (.rn [0] _ ?_)))
 refine .step rfl rfl (.pure rfl rfl rfl call77 (by decide) (fY rfl) (by first|rfl|simp[*]) ?_)
 rintro _ ⟨ps,gr,rfl⟩
 have tz:=Be c ps dz gr 82 [] [.ptr 3 0] call82 [(3,.box [.own 2 0 c.t.length c.t.length]),(2,.arr false 1 (gK c.t.length (fun _=>false))),(1,.box (bQ c (.aC (be (places c) (aX c))) (.aC (be ps (bwd c))) (.int .i64 (aX c c.t.length c.c.length)))),(0,.box (cQ c))] (fun pre n L=>L=[(3,.box [.own 2 0 c.t.length c.t.length]),(2,.arr false 1 (gK c.t.length (pre.foldl rR fun _=>false))),(1,.box (bQ c (.aC (be (places c) (aX c))) (.aC (be ps (bwd c))) (.int .i64 (aX c c.t.length c.c.length)))),(0,.box (cQ c))]) rfl (fun _ _ _ _ h _=>h) (fun pre x kD n L iA hn hL=>by
 subst hL
 exact(p82 c ps n _ x hn oh (z9p bo (List.mem_filter.1 (show x∈qg c by rw[iA];simp)).1)).mono fun v ao ⟨h2,h3⟩=>⟨_,h2,h3,lq,by rw[List.foldl_append];rfl⟩) (fun pre n L hL hn hd=>by
 subst hL
 exact⟨_,rfl,⟨rfl,rfl⟩,fun i j=>Rec.wk bn⟩)
 rw[uu] at tz ⊢
 refine .rn [2,3] [] ?_
 refine .done (.sr ?_)
 refine .seq (.ay [0,1,2] rfl ae (.rn [0,1] _ ?_))
 refine .step rfl rfl (.vf (aA:=[(6,.ptr 1 0),(7,.ptr 3 0),(25,.agg (bQ c (.aC (be (places c) (aX c))) (.aC (be ps (bwd c))) (.int .i64 (aX c c.t.length c.c.length)))),(26,.func 82 [] [.ptr 3 0])]) (aV:=⟨900,[(3,.box [.own 2 0 c.t.length c.t.length]),(2,.arr false 1 (gK c.t.length (fun _=>false))),(1,.box (bQ c (.aC (be (places c) (aX c))) (.aC (be ps (bwd c))) (.int .i64 (aX c c.t.length c.c.length)))),(0,.box (cQ c))]⟩) bn (.call rfl rfl rfl call81 (by decide) (((tz)).mono ?_)))
 rintro _ _ ⟨n,L,rfl,rfl⟩
 rw[show (qg c).foldl rR (fun _=>false)=Ev c from rfl]
 clear tz
 refine .done (.sr ?_)
 refine .seq (.sr ?_)
 refine .block ?_
 refine .dw (fun k:Nat=>([(6,.ptr 1 0),(8,.grow 4 (wB c k).length true),(9,.grow 5 (wA c k).length true),(28,.own 2 0 c.t.length c.t.length),(29,.int .i64 c.t.length),(30,.int .i64 k)],⟨6,[(5,.grow 1 ((wA c k).map (.int .i64))),(4,.grow 1 ((wB c k).map (.int .i64))),(2,.arr false 1 (gK c.t.length (Ev c))),(1,.box (bQ c (.aC (be (places c) (aX c))) (.aC (be ps (bwd c))) (.int .i64 (aX c c.t.length c.c.length))))]⟩)) (fun k=>k≤c.t.length) (fun k=>c.t.length - k) 0 (by simp) bn ?_
 rintro k hk
 simp only at hk ⊢
 refine .sr ?_
 refine .seq ?_
 refine .cs ?_ ?_<;>intro vm
 ·try simp at vm
  have eG:k<c.t.length:=by omega
  have et:=fA k
  have oT:=z8k c.t.length (Ev c) k eG
  have qy:=UX c k
  have mq:=UY c k
  have DM:(wA c k).length+1≤4294967296:=by omega
  have Is:(wB c k).length+1≤4294967296:=by omega
  have It:(wA c k).length≤4294967295:=by omega
  have hl6:(wB c k).length≤4294967295:=by omega
  have CF:wA c (k+1)=wA c k++if Ev c k=true then [(k:Int)] else []:=rfl
  have qe:wB c (k+1)=wB c k++if Ev c k=true∧Ga c k=true then [(k:Int)] else []:=rfl
  have Ao:ma [PV.int .i64 (k:Int)]=true:=rfl
  have qM:=OF c ps (fun x=>decide (x.s=none∧x.i=k)) 84 [] [.vp [.int .i64 k]] dz rfl (by simp[PV.aF,PV.aG]) call84 (fun x=>p84 k x)
  rw[show fwd c (fun x=>!decide (x.s=none∧x.i=k)) c.t.length c.c.length=F9 c k from rfl,uu] at qM
  have qA:Ga c k=Bool.or (!decide (F9 c k<1099511627776)) (decide (0<F9 c k - aX c c.t.length c.c.length)):=rfl
  obtain⟨wo,sK⟩:∃w,F9 c k=w:=⟨_,rfl⟩
  rw[sK] at qM qA
  obtain⟨lt,aP⟩:∃b,decide (wo<1099511627776)=b:=⟨_,rfl⟩
  rw[aP] at qM qA
  obtain⟨df,hdf⟩:∃d,wo - aX c c.t.length c.c.length=d:=⟨_,rfl⟩
  rw[hdf] at qM qA
  refine .skip (.seq (.block (.sr ?_)))
  refine .seq (.sr ?_)
  refine .cs ?_ ?_<;>intro kP
  ·try simp at kP
   rw[kP] at CF qe
   simp only[Bool.false_eq_true,false_and,if_false,List.append_nil] at CF qe
   refine .exit (.rn ?_)
   refine⟨k+1,bp,bp,by rw[CF,qe];exact bn⟩
  try simp at kP
  rw[kP] at CF qe
  simp only[true_and,if_true] at CF qe
  refine .skip (.sr ?_)
  refine .seq (.ay mC rfl ae (.rn [0,1] _ ?_))
  refine .step rfl rfl (.borrow rfl rfl rfl call83 (by decide) (by first|(simp<;>rfl)|(simp[*]<;>rfl)|(simp[*];done)) (qM) (by rintro _ rfl<;>first|(simp;done)|rfl) ?_)
  rintro _ rfl
  refine .rn [3,4,5,6,7] [] ?_
  refine .done (.seq (.ay kg rfl ae ?_))
  refine .rn [0,1,2] _ ?_
  refine .split (t:=49) rfl (fun p6=>?_) (fun p6=>?_)
  ·try subst p6
   try simp at p6
   refine .rn [3,4,5] [] ?_
   refine .done (.eA rfl (.rn ?_))
   refine .rn ?_
   have Bh:Ga c k=true:=by rw[qA];simp[*]
   rw[if_pos Bh] at qe
   refine⟨k+1,bp,bp,by rw[CF,qe];exact(.mk [] [(4,10),(5,8)] ia ix rfl rfl rfl)⟩
  try subst p6
  try simp at p6
  refine .rn [3,4,5] [] ?_
  refine .done ?_
  refine .cs ?_ ?_<;>intro vn
  ·try simp at vn
   refine .rn ?_
   refine .rn ?_
   have Bh:Ga c k=true:=by rw[qA];simp[*]
   rw[if_pos Bh] at qe
   refine⟨k+1,bp,bp,by rw[CF,qe];exact(.mk [] [(4,10),(5,8)] ia ix rfl rfl rfl)⟩
  try simp at vn
  refine .skip (.rn ?_)
  have Bh:¬Ga c k=true:=by rw[qA];simp[*]
  rw[if_neg Bh,List.append_nil] at qe
  refine⟨k+1,bp,bp,by rw[CF,qe];exact(.mk [] [(5,8)] ia ix rfl rfl rfl)⟩
 try simp at vm
 obtain rfl:k=c.t.length:=by omega
 refine .exit (.sr ?_)
 refine .ret (au ?_)
 simp only[if_true];exact oB (by simp[PV.aG,PV.aF])
end
theorem LD (w:List Int):(w=[]∧eW w=.aI)∨eW w=ints w:=by
 cases w with
 |nil=>exact .inl ⟨rfl,rfl⟩
 |cons a r=>exact .inr rfl
theorem Bi (c:aj)(s:aq)(r:List aq)(out:List Int)(i:Nat)(sum:Int):lL c (s::r) out i sum=if (i:Int)≤s.a∧s.a≤(c.t.length:Int) then
  match aJ c s with
  |some (n,i',w)=>if s.i=((out++(c.t.drop i).take (s.a.toNat - i)).length:Int) then lL c r (out++(c.t.drop i).take (s.a.toNat - i)++w) i' (sum+n) else none
  |none=>none
 else none:=rfl
theorem U0 (c:aj)(out:List Int)(i:Nat)(sum:Int):lL c [] out i sum=some (out++c.t.drop i,sum):=rfl
theorem O5 {c:aj}(hr:Rt c):∀(l:List aq) (out:List Int) (i:Nat) (sum:Int) {o:List Int} {m:Int},lL c l out i sum=some (o,m)→o.length≤out.length+96*l.length+48∧sum≤m∧m≤sum+100*(l.length:Int)
 |[],out,i,sum,o,m,h=>by
  rw[U0] at h
  injection h with h;injection h with h1 h2
  subst h1;subst h2
  have:=hr.tl
  simp only[List.length_append,List.length_drop,List.length_nil]
  omega
 |s::r,out,i,sum,o,m,h=>by
  rw[Bi] at h
  split at h
  ·split at h
   ·rename_i n i' w hd
    split at h
    ·obtain⟨e1,e2,e3⟩:=O5 hr r _ _ _ h
     obtain⟨d1,d2,d3,d4,d5,d6⟩:=kN hr hd
     have:=hr.tl
     simp only[List.length_append,List.length_take,List.length_drop,List.length_cons] at e1 ⊢
     omega
    cases h
   cases h
  cases h
theorem U1 {c:aj}(hr:Rt c){l:List aq}{o:List Int}{m:Int}(h:eE c l=some (o,m)):o.length≤96*l.length+48∧0≤m∧m≤100*(l.length:Int):=by
 have:=O5 hr l [] 0 0 h
 simp only[List.length_nil] at this
 omega
structure WI (c:aj) (l:List aq) (k:Nat) (out:List Int) (i:Nat) (sum:Int):Prop where
  hk:k≤l.length
  hw:lL c (l.drop k) out i sum=eE c l
  hi:i≤c.t.length
  h0:0≤sum
  h1:sum≤100*(k:Int)
  ho:out.length≤96*k
theorem WI.start (c:aj)(l:List aq):WI c l 0 [] 0 0:=⟨Nat.zero_le _,rfl,Nat.zero_le _,by decide,by simp,by simp⟩
theorem WI.bad {c:aj}{l:List aq}{k:Nat}{out:List Int}{i:Nat}{sum:Int}(h:WI c l k out i sum){s:aq}(hs:l[k]?=some s)(hn:¬((i:Int)≤s.a∧s.a≤(c.t.length:Int))∨aJ c s=none∨s.i≠((out++(c.t.drop i).take (s.a.toNat - i)).length:Int)):eE c l=none:=by
 obtain⟨hk,rfl⟩:=List.getElem?_eq_some_iff.1 hs
 rw[← h.hw,List.drop_eq_getElem_cons hk,Bi]
 rcases hn with h1|h1|h1
 ·rw[if_neg h1]
 ·split<;>simp[h1]
 split
 ·cases aJ c l[k] with
  |none=>rfl
  |some y=>obtain⟨n,i',w⟩:=y;simp[h1]
 rfl
theorem WI.next {c:aj}(hr:Rt c){l:List aq}{k:Nat}{out:List Int}{i:Nat}{sum:Int}(h:WI c l k out i sum){s:aq}(hs:l[k]?=some s){n:Int}{i':Nat}{w:List Int}(h1:(i:Int)≤s.a∧s.a≤(c.t.length:Int))(hd:aJ c s=some (n,i',w))(h2:s.i=((out++(c.t.drop i).take (s.a.toNat - i)).length:Int)) :
  WI c l (k+1) (out++(c.t.drop i).take (s.a.toNat - i)++w) i' (sum+n):=by
 obtain⟨hk,rfl⟩:=List.getElem?_eq_some_iff.1 hs
 obtain⟨d1,d2,d3,d4,d5,d6⟩:=kN hr hd
 have e0:=h.h0;have e1:=h.h1;have e2:=h.ho
 have oh:=hr.tl
 refine⟨hk,?_,d4,by omega,by rw[Int.natCast_add];omega,?_⟩
 ·rw[← h.hw,List.drop_eq_getElem_cons hk,Bi,if_pos h1,hd]
  simp only
  rw[if_pos h2]
 simp only[List.length_append,List.length_take,List.length_drop]
 omega
theorem WI.stop {c:aj}{l:List aq}{out:List Int}{i:Nat}{sum:Int}(h:WI c l l.length out i sum):eE c l=some (out++c.t.drop i,sum):=by
 rw[← h.hw,List.drop_length,U0]
def x6 (c:aj)(l:List aq):PV:=match eE c l with
 |some (o,n)=>.bx [ints o,.int .i64 n,.bool true]
 |none=>.bx [ints [],.int .i64 0,.bool false]
theorem O6 {a b:PV}(ha:a.aG=true)(hb:b.aG=true):eR (.bx [.aI,a,b]) (.bx [.vec [],a,b]):=zJ (.cons .dC (.cons (.same _ ha) (.cons (.same _ hb) .nil)))
def LF (c:aj)(l:List aq):List Int:=if bl c=0 then (if 100<l.length then [] else match eE c l with|some (o,_)=>o|none=>[]) else []
def LG (c:aj)(l:List aq):Int:=if bl c=0 then (if 100<l.length then 2 else match eE c l with|some _=>0|none=>7) else bl c
def x7 (c:aj)(s:aq):Int:=if bl c=0 then (match aJ c s with|some (n,_,_)=>if s.i≤(c.c.length:Int) then n else 0|none=>0) else 0
def Iu (c:aj)(s:aq):Int:=if bl c=0 then (match aJ c s with|some _=>if s.i≤(c.c.length:Int) then 0 else 5|none=>5) else bl c
theorem O7 (c:aj)(l:List aq):(x6 c l).aG=true:=by
 unfold x6
 split<;>simp[PV.aG,PV.aF]
section
variable [bF]
theorem Ew (c:aj)(l:List aq)(hk:bl c=0)(fc:l.length≤200):aN prog 110 [aH c,.vec (l.map encS)] fun r=>eR r (x6 c l):=by
 have bo:=gR hk
 have oh:=bo.tl
 have hC:cR c=(cQ c):=rfl
 have hE:∀s:aq,encS s=.agg [.int .i64 s.k,.int .i64 s.a,.int .i64 s.i,.int .i64 s.l,.int .i64 s.w]:=fun _=>rfl
 have cK:=fun s=>FP c s hk
 have kh:=fun a i:Int=>xz a i (c.t.length:Int)
 have uv:=WI.start c l
 unfold aH at cK ⊢
 rw[hC] at cK ⊢
 have xH:eE c l=none→x6 c l=.bx [.vec [],.int .i64 0,.bool false]:=fun h=>by unfold x6;rw[h];rfl
 refine .bT func110 rfl rfl ?_
 refine .sr ?_
 refine .sr ?_
 refine .sr ?_
 refine .seq (.sr ?_)
 refine .block ?_
 refine .dw (fun z:Nat×List Int×Nat×Int=>([(2,.ptr 0 0),(7,.grow 1 z.2.1.length true),(8,.int .i64 z.2.2.1),(9,.int .i64 z.2.2.2),(16,.vec (l.map encS)),(17,.int .i64 l.length),(18,.int .i64 z.1)],⟨2,[(1,.grow 1 (z.2.1.map (.int .i64))),(0,.box (cQ c))]⟩)) (fun z=>WI c l z.1 z.2.1 z.2.2.1 z.2.2.2) (fun z=>l.length - z.1) (0,[],0,0) uv bn ?_
 clear uv
 rintro⟨k,out,i,sum⟩ hI
 simp only at hI ⊢
 have eG:=hI.hk
 have dy:=hI.hi
 have Aw:=hI.h0
 have rp:=hI.h1
 have Dk:=hI.ho
 refine .sr ?_
 refine .seq ?_
 refine .cs ?_ ?_<;>intro iU
 ·try simp at iU
  have et:=fA k
  have fO:k<l.length:=by omega
  obtain⟨s,hs⟩:∃s,l[k]?=some s:=⟨l[k],List.getElem?_eq_getElem fO⟩
  have gy:l[k]=s:=(List.getElem?_eq_some_iff.1 hs).2
  have kh:=kh s.a i
  obtain⟨wi,fg⟩:∃b,(decide ((i:Int)≤s.a)&&decide (s.a≤(c.t.length:Int)))=b:=⟨_,rfl⟩
  rw[fg] at kh
  have cK:=cK s
  rw[hE] at cK
  refine .skip (.seq (.block (.sr ?_)))
  refine .seq (.seq (.ay mC rfl ae (.rn kg _ ?_)))
  refine .pc rfl rfl rfl rfl rfl call85 (kh) ?_
  refine .rn [7] [] ?_
  refine .done ?_
  refine .cs ?_ ?_<;>intro zS
  ·try simp at zS
   have hb:=hI.bad hs (.inl (fun hh=>by rw[zS] at fg;simp[hh.1,hh.2] at fg))
   refine .sr ?_
   refine .ret (au ?_)
   rw[xH hb];exact O6 rfl rfl
  try simp at zS
  have dx:(i:Int)≤s.a∧s.a≤(c.t.length:Int):=by rw[zS] at fg;simpa using fg
  obtain⟨a,ha⟩:∃a:Nat,s.a=a:=⟨s.a.toNat,by omega⟩
  have rz:s.a.toNat=a:=by omega
  have qG:i≤a:=by omega
  have eU:a≤c.t.length:=by omega
  have kE:=@WI.bad c l k out i sum hI s hs
  have fJ:=@WI.next c bo l k out i sum hI s hs
  rw[rz] at kE fJ
  have jB:(a:Int)≤(c.t.length:Int):=by omega
  have O8:(i:Int)≤(a:Int):=by omega
  rw[ha] at cK
  have aP:((c.t.drop i).take (a - i)).length=a - i:=by rw[List.length_take,List.length_drop];omega
  have q9:List.take (a - i) (List.drop i (c.t.map (PV.int .i64)))=((c.t.drop i).take (a - i)).map (PV.int .i64):=by rw[List.map_take,List.map_drop]
  obtain⟨Q,hQ⟩:∃Q,(c.t.drop i).take (a - i)=Q:=⟨_,rfl⟩
  rw[hQ] at aP q9 kE fJ
  have hlq:out.length+Q.length≤4294967296:=by omega
  have O9:out.length+Q.length≤20000:=by omega
  clear aP
  rcases hd:aJ c s with _|⟨n,i',w⟩
  ·skip
   refine .skip (.sr ?_)
   refine .seq (.ay jq rfl ae (.rn [0,1] _ ?_))
   refine .step rfl rfl (.pure rfl rfl rfl call95 (by decide) (cK) (by first|rfl|simp[*]) ?_)
   intro _ e;rw[A3 hd] at e;subst e;unfold iF;have wC:=kE (.inr (.inl hd))
   refine .rn [3,4,5,6,7,8,9,10,11,12] [] ?_
   refine .done (.seq (.seq (.ay rF rfl ae ?_)))
   refine .rn [0,1,2] _ ?_
   refine .split (t:=48) rfl (fun jK=>?_) (fun jK=>?_)
   ·try subst jK
    try simp at jK
    refine .rn [3,4,5,6,7,8] [] ?_
    refine .done (.eA rfl (.sr ?_))
    refine .ret (au ?_)
    rw[xH wC];exact O6 rfl rfl
   try subst jK
   try simp at jK
  skip
  refine .skip (.sr ?_)
  refine .seq (.ay jq rfl ae (.rn [0,1] _ ?_))
  refine .step rfl rfl (.pure rfl rfl rfl call95 (by decide) (cK) (by first|rfl|simp[*]) ?_)
  intro _ e;rw[zD hd] at e;subst e;unfold iF;obtain⟨d1,d2,d3,d4,d5,d6⟩:=kN bo hd;have hws:IntKind.i64.wrap (sum+n)=sum+n:=wrap64 (by omega) (by omega);have hlw:out.length+Q.length+w.length≤4294967296:=by omega
  refine .rn [3,4,5,6,7,8,9,10,11,12] [] ?_
  refine .done (.seq (.seq (.ay rF rfl ae ?_)))
  refine .rn [0,1,2] _ ?_
  refine .split (t:=48) rfl (fun jK=>?_) (fun jK=>?_)
  ·try subst jK
   try simp at jK
  try subst jK
  try simp at jK
  refine .rn [3,4,5,6,7,8] [] ?_
  refine .done ?_
  refine .cs ?_ ?_<;>intro sI
  ·try simp at sI
   have wC:=kE (.inr (.inr (fun e=>sI (by rw[e];simp))))
   refine .sr ?_
   refine .ret (au ?_)
   rw[xH wC];exact O6 rfl rfl
  try simp at sI
  have te:=fJ dx hd (by rw[sI];simp)
  rcases LD w with⟨rfl,hw⟩|hw<;>simp only[hw]
  ·skip
   refine .skip (.sr ?_)
   refine .rn ?_
   refine .rn ?_
   refine⟨(k+1,out++Q++[],i',sum+n),te,bp,(.mk [] [(1,5)] ia ix rfl rfl rfl)⟩
  skip
  refine .skip (.sr ?_)
  refine .rn ?_
  refine .rn ?_
  have Pa:=Nat.add_assoc out.length Q.length w.length
  refine⟨(k+1,out++Q++w,i',sum+n),te,bp,(.mk [] [(1,5)] ia ix rfl rfl rfl)⟩
 try simp at iU
 obtain rfl:k=l.length:=by omega
 have cN:=hI.stop
 obtain⟨D,hD⟩:∃D,c.t.drop i=D:=⟨_,rfl⟩
 have hE4:List.drop i (c.t.map (PV.int .i64))=D.map (PV.int .i64):=by rw[← hD,List.map_drop]
 have zT:List.take (c.t.length - i) (D.map (PV.int .i64))=D.map (PV.int .i64):=List.take_of_length_le (by rw[← hD];simp)
 have x8:D.length≤48:=by rw[← hD,List.length_drop];omega
 have b7:out.length+D.length≤4294967296:=by omega
 rw[hD] at cN
 clear hD
 have Pb:(i:Int)≤(c.t.length:Int):=by omega
 have uQ:x6 c l=.bx [ints (out++D),.int .i64 sum,.bool true]:=by unfold x6;rw[cN]
 refine .exit (.sr ?_)
 refine .ret (au ?_)
 rw[uQ];simp only[ints,List.map_append];exact oB rfl
theorem Iv (c:aj)(l:List aq)(hk:bl c=0)(fc:l.length≤200):aN prog 100 [aH c,.vec (l.map encS)] fun r=>r=.bx [.int .i64 ((cJ c l).getD 0),.bool (cJ c l).isSome]:=by
 have bo:=gR hk
 have hC:cR c=(cQ c):=rfl
 have er:=aN.soft (Ew c l hk fc) (O7 c l)
 have hx:cJ c l=if 100<l.length then none else match eE c l with|some (o,n)=>if o=c.c then some n else none|none=>none:=rfl
 unfold aH at er ⊢
 rw[hC] at er ⊢
 unfold x6 at er
 refine .bT func100 rfl rfl ?_
 rcases hw:eE c l with _|⟨o,n⟩
 ·
  rw[hw] at hx er
  simp only at hx er
  have oC:cJ c l=none:=by rw[hx];split<;>rfl
  rw[oC]
  refine .sr ?_
  refine .seq (.sr ?_)
  refine .cs ?_ ?_<;>intro lI
  ·try simp at lI
   skip
   refine .sr ?_
   refine .ret (au ?_)
   exact zk
  try simp at lI
  refine .skip (.seq (.ay fM rfl ae (.rn [0,1] _ ?_)))
  refine .pc rfl rfl rfl rfl rfl call110 (er) ?_
  refine .rn [3,4,5,6,7,8,9] [] ?_
  refine .done (.seq (.seq (.ay rF rfl ae ?_)))
  refine .rn [0,1,2] _ ?_
  refine .split (t:=21) rfl (fun dm=>?_) (fun dm=>?_)
  ·try subst dm
   try simp at dm
   refine .rn [3,4,5,6,7,8] [] ?_
   refine .done (.eA rfl (.sr ?_))
   refine .ret (au ?_)
   exact zk
  try subst dm
  try simp at dm
 ·
  rw[hw] at hx er
  simp only at hx er
  have rA:=U1 bo hw
  have eM:=bo.cl
  have Iw:=HN o c.c (by omega) (by omega)
  obtain⟨eb,sN⟩:∃b,decide (o=c.c)=b:=⟨_,rfl⟩
  rw[sN] at Iw
  refine .sr ?_
  refine .seq (.sr ?_)
  refine .cs ?_ ?_<;>intro lI
  ·try simp at lI
   rw[if_pos (show 100<l.length by omega)] at hx
   refine .sr ?_
   refine .ret (au ?_)
   first|(rw[hx];rfl)|(rw[oC];rfl)
  try simp at lI
  rw[if_neg (by omega)] at hx
  refine .skip (.seq (.ay fM rfl ae (.rn [0,1] _ ?_)))
  refine .pc rfl rfl rfl rfl rfl call110 (er) ?_
  refine .rn [3,4,5,6,7,8,9] [] ?_
  refine .done (.seq (.seq (.ay rF rfl ae ?_)))
  refine .rn [0,1,2] _ ?_
  refine .split (t:=21) rfl (fun dm=>?_) (fun dm=>?_)
  ·try subst dm
   try simp at dm
  try subst dm
  try simp at dm
  refine .rn [3,4,5] _ ?_
  refine .pc rfl rfl rfl rfl rfl call144 (Iw) ?_
  refine .rn [7,8] [] ?_
  refine .done ?_
  refine .cs ?_ ?_<;>intro eV
  ·try simp at eV
   have oC:cJ c l=none:=by rw[hx,if_neg (fun hh=>by rw[hh] at sN;simp[eV] at sN)]
   refine .sr ?_
   refine .ret (au ?_)
   first|(rw[hx];rfl)|(rw[oC];rfl)
  try simp at eV
  have oC:cJ c l=some n:=by rw[hx,if_pos (by rw[eV] at sN;simpa using sN)]
  refine .skip (.sr ?_)
  refine .ret (au ?_)
  first|(rw[hx];rfl)|(rw[oC];rfl)
theorem U2 (c:aj)(l:List aq)(hB:BC c)(fc:l.length≤200):aN prog 40 [aH c,.vec (l.map encS)] fun r=>r=.bx [.int .i64 (if bl c=0 then (cJ c l).getD 0 else 0),.bool (if bl c=0 then (cJ c l).isSome else false),.int .i64 (bl c)]:=by
 have ct:=sB c hB
 have oD:=Iv c l
 have hC:cR c=(cQ c):=rfl
 obtain⟨e,he⟩:∃e,bl c=e:=⟨_,rfl⟩
 rw[he] at ct oD ⊢
 unfold aH at ct oD ⊢
 rw[hC] at ct oD ⊢
 refine .bT func40 rfl rfl ?_
 refine .sr ?_
 refine .seq (.seq (.ay [0,1,2] rfl ae (.rn [0] _ ?_)))
 refine .pc rfl rfl rfl rfl rfl call55 (ct) ?_
 refine .rn [2] [] ?_
 refine .done (.sr ?_)
 refine .cs ?_ ?_<;>intro jz
 ·try simp at jz
  refine .sr ?_
  refine .ret (au ?_)
  exact zk
 try simp at jz
 subst jz
 refine .skip (.seq (.ay mC rfl ae (.rn [0,1] _ ?_)))
 refine .pc rfl rfl rfl rfl rfl call100 (oD rfl fc) ?_
 refine .rn [3,4,5,6,7] [] ?_
 refine .done (.sr ?_)
 refine .ret (au ?_)
 exact zk
theorem p53 (c:aj)(l:List aq)(hB:BC c)(fc:l.length≤200):aN prog 53 [aH c,.vec (l.map encS)] fun r=>eR r (.bx [ints (LF c l),.int .i64 (LG c l)]):=by
 have ct:=sB c hB
 have er:=fun hk=>aN.soft (Ew c l hk fc) (O7 c l)
 have hC:cR c=(cQ c):=rfl
 have hO:LF c l=if bl c=0 then (if 100<l.length then [] else match eE c l with|some (o,_)=>o|none=>[]) else []:=rfl
 have hX:LG c l=if bl c=0 then (if 100<l.length then 2 else match eE c l with|some _=>0|none=>7) else bl c:=rfl
 obtain⟨e,he⟩:∃e,bl c=e:=⟨_,rfl⟩
 rw[he] at ct er hO hX
 unfold aH at ct er ⊢
 rw[hC] at ct er ⊢
 unfold x6 at er
 refine .bT func53 rfl rfl ?_
 rcases hw:eE c l with _|⟨o,n⟩
 ·
  rw[hw] at hO hX er
  simp only at hO hX er
  refine .sr ?_
  refine .seq (.seq (.ay [0,1,2] rfl ae (.rn [0] _ ?_)))
  refine .pc rfl rfl rfl rfl rfl call55 (ct) ?_
  refine .rn [2] [] ?_
  refine .done (.sr ?_)
  refine .cs ?_ ?_<;>intro jz
  ·try simp at jz
   rw[if_neg jz] at hO hX
   refine .sr ?_
   refine .ret (au ?_)
   rw[hO,hX];first|exact D8 rfl|exact oB rfl
  try simp at jz
  subst jz
  rw[if_pos rfl] at hO hX
  refine .skip (.seq (.sr ?_))
  refine .cs ?_ ?_<;>intro gT
  ·try simp at gT
   rw[if_pos (show 100<l.length by omega)] at hO hX
   refine .sr ?_
   refine .ret (au ?_)
   rw[hO,hX];first|exact D8 rfl|exact oB rfl
  try simp at gT
  rw[if_neg (by omega)] at hO hX
  refine .skip (.seq (.ay fM rfl ae (.rn [0,1] _ ?_)))
  refine .pc rfl rfl rfl rfl rfl call110 (er rfl) ?_
  refine .rn [3,4,5,6,7,8,9] [] ?_
  refine .done (.seq (.sr ?_))
  refine .cs ?_ ?_<;>intro jI
  ·try simp at jI
   refine .sr ?_
   refine .ret (au ?_)
   rw[hO,hX];first|exact D8 rfl|exact oB rfl
  try simp at jI
 ·
  rw[hw] at hO hX er
  simp only at hO hX er
  refine .sr ?_
  refine .seq (.seq (.ay [0,1,2] rfl ae (.rn [0] _ ?_)))
  refine .pc rfl rfl rfl rfl rfl call55 (ct) ?_
  refine .rn [2] [] ?_
  refine .done (.sr ?_)
  refine .cs ?_ ?_<;>intro jz
  ·try simp at jz
   rw[if_neg jz] at hO hX
   refine .sr ?_
   refine .ret (au ?_)
   rw[hO,hX];first|exact D8 rfl|exact oB rfl
  try simp at jz
  subst jz
  rw[if_pos rfl] at hO hX
  refine .skip (.seq (.sr ?_))
  refine .cs ?_ ?_<;>intro gT
  ·try simp at gT
   rw[if_pos (show 100<l.length by omega)] at hO hX
   refine .sr ?_
   refine .ret (au ?_)
   rw[hO,hX];first|exact D8 rfl|exact oB rfl
  try simp at gT
  rw[if_neg (by omega)] at hO hX
  refine .skip (.seq (.ay fM rfl ae (.rn [0,1] _ ?_)))
  refine .pc rfl rfl rfl rfl rfl call110 (er rfl) ?_
  refine .rn [3,4,5,6,7,8,9] [] ?_
  refine .done (.seq (.sr ?_))
  refine .cs ?_ ?_<;>intro jI
  ·try simp at jI
  try simp at jI
  refine .skip (.sr ?_)
  refine .ret (au ?_)
  rw[hO,hX];first|exact D8 rfl|exact oB rfl
theorem p52 (c:aj)(s:aq)(hB:BC c):aN prog 52 [aH c,encS s] fun r=>r=.bx [.int .i64 (x7 c s),.int .i64 (Iu c s)]:=by
 have ct:=sB c hB
 have cK:=FP c s
 have hC:cR c=(cQ c):=rfl
 have hE:encS s=.agg [.int .i64 s.k,.int .i64 s.a,.int .i64 s.i,.int .i64 s.l,.int .i64 s.w]:=rfl
 have hN:x7 c s=if bl c=0 then (match aJ c s with|some (n,_,_)=>if s.i≤(c.c.length:Int) then n else 0|none=>0) else 0:=rfl
 have hX:Iu c s=if bl c=0 then (match aJ c s with|some _=>if s.i≤(c.c.length:Int) then 0 else 5|none=>5) else bl c:=rfl
 obtain⟨e,he⟩:∃e,bl c=e:=⟨_,rfl⟩
 rw[he] at ct cK hN hX
 unfold aH at ct cK ⊢
 rw[hE] at cK ⊢
 rw[hC] at ct cK ⊢
 refine .bT func52 rfl rfl ?_
 rcases hd:aJ c s with _|⟨n,i',w⟩
 ·
  rw[hd] at hN hX
  rw[A3 hd] at cK
  unfold iF at cK
  simp only at hN hX
  refine .sr ?_
  refine .seq (.seq (.ay [0,1,2] rfl ae (.rn [0] _ ?_)))
  refine .pc rfl rfl rfl rfl rfl call55 (ct) ?_
  refine .rn [2] [] ?_
  refine .done (.sr ?_)
  refine .cs ?_ ?_<;>intro iy
  ·try simp at iy
   rw[if_neg iy] at hN hX
   refine .sr ?_
   refine .ret (au ?_)
   rw[hN,hX]
  try simp at iy
  subst iy
  rw[if_pos rfl] at hN hX
  refine .skip (.seq (.ay jq rfl ae (.rn [0,1] _ ?_)))
  refine .pc rfl rfl rfl rfl rfl call95 (cK rfl) ?_
  refine .rn [3,4,5,6,7,8,9,10,11,12] [] ?_
  refine .done (.seq (.seq (.ay fM rfl ae ?_)))
  refine .rn [0,1,2] _ ?_
  refine .split (t:=26) rfl (fun jI=>?_) (fun jI=>?_)
  ·try subst jI
   try simp at jI
   refine .rn [3,4,5,6,7,8,9] [] ?_
   refine .done (.eA rfl (.sr ?_))
   refine .ret (au ?_)
   rw[hN,hX]
  try subst jI
  try simp at jI
 ·
  rw[hd] at hN hX
  rw[zD hd] at cK
  unfold iF at cK
  simp only at hN hX
  refine .sr ?_
  refine .seq (.seq (.ay [0,1,2] rfl ae (.rn [0] _ ?_)))
  refine .pc rfl rfl rfl rfl rfl call55 (ct) ?_
  refine .rn [2] [] ?_
  refine .done (.sr ?_)
  refine .cs ?_ ?_<;>intro iy
  ·try simp at iy
   rw[if_neg iy] at hN hX
   refine .sr ?_
   refine .ret (au ?_)
   rw[hN,hX]
  try simp at iy
  subst iy
  rw[if_pos rfl] at hN hX
  refine .skip (.seq (.ay jq rfl ae (.rn [0,1] _ ?_)))
  refine .pc rfl rfl rfl rfl rfl call95 (cK rfl) ?_
  refine .rn [3,4,5,6,7,8,9,10,11,12] [] ?_
  refine .done (.seq (.seq (.ay fM rfl ae ?_)))
  refine .rn [0,1,2] _ ?_
  refine .split (t:=26) rfl (fun jI=>?_) (fun jI=>?_)
  ·try subst jI
   try simp at jI
  try subst jI
  try simp at jI
  refine .rn [3,4,5,6,7,8,9] [] ?_
  refine .done ?_
  refine .cs ?_ ?_<;>intro rG
  ·try simp at rG
   rw[if_neg (by omega)] at hN hX
   refine .sr ?_
   refine .ret (au ?_)
   rw[hN,hX]
  try simp at rG
  rw[if_pos (by omega)] at hN hX
  refine .skip (.sr ?_)
  refine .ret (au ?_)
  rw[hN,hX]
end
end Go.Am.Sl
end
section
namespace Go.Am.Sl
def vo (c:aj):Nat→List aq→Prop
 |_,[]=>True
 |i,s::r=>(i:Int)≤s.a∧s.a≤(c.t.length:Int)∧∃n i' w,aJ c s=some (n,i',w)∧vo c i' r
theorem vo.mono {c:aj}{i j:Nat}{l:List aq}(h:vo c j l)(fH:i≤j):vo c i l:=by
 cases l with
 |nil=>trivial
 |cons s r=>obtain⟨h1,h2⟩:=h;exact⟨by omega,h2⟩
theorem U3 {c:aj}:∀(l:List aq) {out:List Int} {i:Nat} {sum:Int} {o:List Int} {m:Int},lL c l out i sum=some (o,m)→vo c i l
 |[],_,_,_,_,_,_=>trivial
 |s::r,out,i,sum,o,m,h=>by
  rw[Bi] at h
  split at h
  ·rename_i dx
   split at h
   ·rename_i n i' w hd
    split at h
    ·exact⟨dx.1,dx.2,n,i',w,hd,U3 r h⟩
    cases h
   cases h
  cases h
theorem vo.erase {c:aj}(hr:Rt c):∀ {l:List aq} {i:Nat} (k:Nat),vo c i l→vo c i (l.eraseIdx k)
 |[],_,_,_=>trivial
 |s::r,i,0,h=>by
  obtain⟨h1,h2,n,i',w,hd,h3⟩:=h
  have:=(kN hr hd).2.2.1
  exact h3.mono (by omega)
 |s::r,i,k+1,h=>by
  obtain⟨h1,h2,n,i',w,hd,h3⟩:=h
  exact⟨h1,h2,n,i',w,hd,h3.erase hr k⟩
theorem U4 {c:aj}{l:List aq}{n:Int}(h:cJ c l=some n):l.length≤100∧eE c l=some (c.c,n):=by
 unfold cJ at h
 split at h
 ·cases h
 split at h
 ·rename_i o m hw
  split at h
  ·rename_i ho
   injection h with h
   subst h;subst ho
   exact⟨by omega,hw⟩
  cases h
 cases h
theorem U5 {c:aj}{l:List aq}{n:Int}(h:cJ c l=some n):vo c 0 l:=U3 l (U4 h).2
theorem U6 {c:aj}{s:aq}{x:Int}(hx:0≤x)(hs:0≤s.i):aJ c { s with i:=x }=aJ c s:=by
 unfold aJ
 simp only[hx,hs,and_true]
def x9 (c:aj):List aq→Nat→Nat→List aq
 |[],_,_=>[]
 |s::r,i,j=>match aJ c s with
  |some (_,i',w)=>{ s with i:=((j+(s.a.toNat - i):Nat):Int) }::x9 c r i' (j+(s.a.toNat - i)+w.length)
  |none=>[]
theorem U7 {c:aj}{s:aq}{r:List aq}{i j:Nat}{n:Int}{i':Nat}{w:List Int}(hd:aJ c s=some (n,i',w)):x9 c (s::r) i j={ s with i:=((j+(s.a.toNat - i):Nat):Int) }::x9 c r i' (j+(s.a.toNat - i)+w.length):=by
 show (match aJ c s with|some (_,i',w)=>_|none=>_)=_
 rw[hd]
theorem U8 {c:aj}(hr:Rt c):∀ {l:List aq} {i j:Nat} {out:List Int} {sum:Int},vo c i l→i≤c.t.length→out.length=j→∃o m,lL c (x9 c l i j) out i sum=some (o,m)
 |[],_,_,_,_,_,_,_=>⟨_,_,rfl⟩
 |s::r,i,j,out,sum,h,hi,ho=>by
  obtain⟨h1,h2,n,i',w,hd,h3⟩:=h
  obtain⟨d1,d2,d3,d4,d5,d6⟩:=kN hr hd
  rw[U7 hd,Bi]
  have hk:((c.t.drop i).take (s.a.toNat - i)).length=s.a.toNat - i:=by rw[List.length_take,List.length_drop];omega
  have rm:aJ c { s with i:=((j+(s.a.toNat - i):Nat):Int) }=some (n,i',w):=by rw[U6 (by omega) d2.2.2,hd]
  rw[if_pos ⟨h1,h2⟩,rm]
  simp only
  rw[if_pos (by rw[List.length_append,hk,ho])]
  exact U8 hr h3 d4 (by rw[List.length_append,List.length_append,hk,ho])
theorem zze {c:aj}(hr:Rt c){l:List aq}(h:vo c 0 l):∃o m,eE c (x9 c l 0 0)=some (o,m):=U8 hr h (Nat.zero_le _) rfl
def Bj:aj:=⟨0,0,0,0,0,[],[],[],[]⟩
def CG (c:aj)(l:List aq)(k:Int):List aq:=x9 c (l.eraseIdx k.toNat) 0 0
def Gb (c:aj)(l:List aq):List Int:=match eE c l with|some (o,_)=>o|none=>[]
def zU (c:aj)(l:List aq)(k:Int):Int:=if bl c≠0 then bl c else if cJ c l=none∨¬(0≤k∧k≤(l.length:Int) - 1) then 1 else if 48<(Gb c (CG c l k)).length then 2 else 0
def LH (c:aj)(l:List aq)(k:Int):aj:=if zU c l k=0 then { c with c:=Gb c (CG c l k) } else Bj
def LI (c:aj)(l:List aq)(k:Int):List aq:=if zU c l k=0 then CG c l k else []
structure MI (c:aj) (l:List aq) (D R:List aq) (i j:Nat):Prop where
  ch:vo c i R
  hi:i≤c.t.length
  hd:D++x9 c R i j=x9 c l 0 0
  hl:D.length+R.length=l.length
  hj:j≤96*D.length
theorem MI.start {c:aj}{l:List aq}(h:vo c 0 l):MI c l [] l 0 0:=⟨h,Nat.zero_le _,rfl,by simp,by simp⟩
theorem MI.next {c:aj}(hr:Rt c){l D R:List aq}{s:aq}{i j:Nat}(h:MI c l D (s::R) i j){n:Int}{i':Nat}{w:List Int}(hd:aJ c s=some (n,i',w)) :
  MI c l (D++[{ s with i:=((j+(s.a.toNat - i):Nat):Int) }]) R i' (j+(s.a.toNat - i)+w.length):=by
 obtain⟨⟨h1,h2,n',i'',w',vT,h3⟩,hi,h4,h5,h6⟩:=h
 rw[hd] at vT
 injection vT with e;injection e with e1 e;injection e with e2 e3
 subst e1;subst e2;subst e3
 obtain⟨d1,d2,d3,d4,d5,d6⟩:=kN hr hd
 have:=hr.tl
 refine⟨h3,d4,?_,by simp at h5 ⊢;omega,by rw[List.length_append,List.length_singleton];omega⟩
 rw[U7 hd] at h4
 rw[← h4,List.append_assoc];rfl
theorem MI.stop {c:aj}{l D:List aq}{i j:Nat}(h:MI c l D [] i j):D=x9 c l 0 0:=by
 have:=h.hd
 rw[show x9 c [] i j=[] from rfl,List.append_nil] at this
 exact this
open Go Go.Am Go.Proofs Tryz Go.RowKit Go.Lib
theorem xeq (w:World):(zeroValue 48).run prog w=.ok (.agg #[.int .i64 0,.int .i64 0,.int .i64 0,.int .i64 0,.int .i64 0]) w:=zeroValue48 w
theorem zwi (w:World)(ty:TypeId)(b o c:Nat)(hc:∀j,j<5→(w.cell? ⟨b,o+j,none⟩).isSome=true)(hf:∀j,j<5→w.frozen? ⟨b,o+j,none⟩=false) :
  (Builtin.clear_ #[31] ty #[.slice (some ⟨b,o,none⟩) 1 c]).run prog w=.ok (.tuple #[]) (w.setCells b o (List.replicate 5 (.int .i64 0))):=by
 have ht:prog.underlying 31=some (.slice 48):=underlying31
 have Kq:(Builtin.zeroCells (Value.agg #[.int .i64 0,.int .i64 0,.int .i64 0,.int .i64 0,.int .i64 0]).cells 1).toList=List.replicate 5 (.int .i64 0):=by
  exact range_zero #[.int .i64 0,.int .i64 0,.int .i64 0,.int .i64 0,.int .i64 0] 1
 have cN:=run_storeCells_cells (P:=prog) b o (List.replicate 5 (.int .i64 0)) 0 w (by simpa using hc) (by simpa using hf) (by intro v aQ;rw[List.eq_of_mem_replicate aQ];rfl)
 simp only[Nat.add_zero] at cN
 obtain⟨Z,hZ⟩:∃Z,List.replicate 5 (Value.int .i64 0)=Z:=⟨_,rfl⟩
 rw[hZ] at Kq cN ⊢
 simp[Builtin.clear_,run_underlying ht,xeq,Kq,cN]
theorem xev:(prog.info? 48).map (fun i=>(i.zero,i.size,i.bytes))=some (some (.agg #[.int .i64 0,.int .i64 0,.int .i64 0,.int .i64 0,.int .i64 0]),5,40):=by kernel_rfl
set_option maxHeartbeats 4000000 in
set_option maxRecDepth 1000000 in
theorem zrn (ke off cap i n:Nat)(F:List Value)(w:World)(hF:F.length=n*5)(h1:∀u∈F,u.oneCell'=true)(hc:∀t u,F[t]?=some u→w.cell? ⟨ke,off+t,none⟩=some u)(uG:∀t,w.frozen? ⟨ke,t,none⟩=false)
  (gB:n≤cap) (hi:i<n) :
  Calls prog 111 #[.slice (some ⟨ke,off,none⟩) n cap,.int .i64 i,.int .i64 ((i:Int)+1)] w fun e w'=>e=.returned (.slice (some ⟨ke,off,none⟩) (i+(n - (i+1))) cap)∧
   w'=(w.drew.setCells ke (off+i*5) (F.drop ((i+1)*5))).setCells ke (off+(i+(n - (i+1)))*5) (List.replicate 5 (.int .i64 0)):=by
 obtain⟨i0,Pc,km,lT,uf⟩:=info_parts xev
 have ht:prog.underlying 31=some (.slice 48):=underlying31
 have mixed:prog.follows .mixedOrders=true:=rfl
 obtain⟨news,rT⟩:∃news,news=F.drop ((i+1)*5):=⟨_,rfl⟩
 have hlen:news.length=(n - (i+1))*5:=by rw[rT,List.length_drop,hF,Nat.sub_mul]
 have gX:∀t u,news[t]?=some u→w.cell? ⟨ke,off+((i+1)*5+t),none⟩=some u:=fun t u hu=>by
  rw[rT,List.getElem?_drop] at hu
  exact hc _ u hu
 obtain⟨A,hA,s4⟩:∃A:Addr,(if cap=i+1 then some (⟨ke,off,none⟩:Addr) else some ⟨ke,off+(i+1)*5,none⟩)=some A∧Hid (∀t u,news[t]?=some u→w.drew.cell? (A.add t)=some u):=by
  by_cases h:cap=i+1
  ·refine⟨⟨ke,off,none⟩,by simp[h],fun t u hu=>?_⟩
   have h0:news.length=0:=by rw[hlen];omega
   rw[List.length_eq_zero_iff.1 h0] at hu
   simp at hu
  refine⟨⟨ke,off+(i+1)*5,none⟩,by simp[h],fun t u hu=>?_⟩
  rw[Addr.add_lit,Nat.add_assoc]
  exact gX t u hu
 have uw:∀t,t<n*5→(w.cell? ⟨ke,off+t,none⟩).isSome=true:=fun t ht=>by
  rw[hc t F[t] (List.getElem?_eq_getElem (by omega))];rfl
 have s1:Hid (news.length=(n - (i+1))*5):=hlen
 have s2:Hid (∀u∈news,u.oneCell'=true):=fun u hu=>h1 u (List.mem_of_mem_drop (by rw[← rT];exact hu))
 have s3:Hid (∀t,t<news.length→(w.drew.cell? ⟨ke,off+i*5+t,none⟩).isSome=true∧w.drew.frozen? ⟨ke,off+i*5+t,none⟩=false):=by
  intro t ht
  rw[hlen] at ht
  rw[Nat.add_assoc]
  exact⟨uw (i*5+t) (by omega),uG _⟩
 obtain⟨W1,Ix⟩:∃W1,W1=w.drew.setCells ke (off+i*5) news:=⟨_,rfl⟩
 have dx:∀t,t<n*5→(W1.cell? ⟨ke,off+t,none⟩).isSome=true:=fun t ht=>by
  rw[Ix]
  by_cases hr:i*5≤t∧t<i*5+news.length
  ·have:=World.cell?_setCells_in ke news (off+i*5) w.drew (fun j hj=>by rw[Nat.add_assoc];exact uw _ (by omega)) (t - i*5) (by omega)
   rw[show off+i*5+(t - i*5)=off+t by omega] at this
   rw[this];rfl
  rw[World.cell?_setCells_out ke news (off+i*5) w.drew _ (fun _ _=>by simp;omega)]
  exact uw t ht
 have eM:∀ty,(Builtin.clear_ #[31] ty #[.slice (some ⟨ke,off+(i+(n - (i+1)))*5,none⟩) (n - (i+(n - (i+1)))) (cap - (i+(n - (i+1))))]).run prog W1=.ok (.tuple #[]) (W1.setCells ke (off+(i+(n - (i+1)))*5) (List.replicate 5 (.int .i64 0))):=fun ty=>by
  rw[show n - (i+(n - (i+1)))=1 by omega]
  exact zwi W1 ty ke _ _ (fun j hj=>by rw[Nat.add_assoc];exact dx _ (by omega)) (fun j hj=>by rw[Ix,World.frozen?_setCells];exact uG _)
 have hW:Hid (W1=w.drew.setCells ke (off+i*5) news):=Ix
 have ox:i≤cap:=by omega
 have nI:i+1≤cap:=by omega
 have Lg:(0:Int)≤(i:Int)+1:=by omega
 have su:(i:Int)+1≤(n:Int):=by omega
 have rO:((i:Int)+1).toNat=i+1:=by omega
 have aP:¬((i:Int)=(i:Int)+1):=by omega
 rw[← rT,← Ix]
 clear Ix gX rT hlen hc uG dx uw h1
 go_enter func111,ntmps111
 go_wp2_with fail
 go_region_law_o (refine step_append_room rfl (.tmp 22) (.tmp 25) 31 rfl 48 i0 5 ht Pc lT ke off i cap (by simp[Act.eval,Act.put]) A (n - (i+1)) (cap - (i+1)) news (by simp[Act.eval,Act.put]) s1.out s4.out s2.out (by omega) s3.out ?_;rw[← hW.out])
 go_wp2
 go_ret
 exact⟨rfl,rfl⟩
theorem zxm (F:List Value)(n k m:Nat)(hF:F.length=n*m)(hk:k<n)(Z:List Value)(hZ:Z.length=m) :
  fT (fT F (k*m) (F.drop ((k+1)*m))) ((n - 1)*m) Z=F.take (k*m)++F.drop ((k+1)*m)++Z:=by
 obtain⟨d,rfl⟩:∃d,n=k+1+d:=⟨n - (k+1),by omega⟩
 have e1:(k+1+d)*m=k*m+m+d*m:=by rw[Nat.add_mul,Nat.add_mul,Nat.one_mul]
 have e2:(k+1)*m=k*m+m:=by rw[Nat.add_mul,Nat.one_mul]
 have e3:(k+1+d - 1)*m=k*m+d*m:=by rw[show k+1+d - 1=k+d by omega,Nat.add_mul]
 rw[e1] at hF
 rw[e2,e3]
 have hd:(F.drop (k*m+m)).length=d*m:=by rw[List.length_drop];omega
 have ht:(F.take (k*m)).length=k*m:=by rw[List.length_take];omega
 have h1:fT F (k*m) (F.drop (k*m+m))=F.take (k*m)++F.drop (k*m+m)++F.drop (k*m+d*m):=by
  unfold fT
  rw[hd]
 rw[h1]
 have hc:(F.drop (k*m+d*m)).length=m:=by rw[List.length_drop];omega
 generalize F.take (k*m)=A at *
 generalize F.drop (k*m+m)=B at *
 generalize F.drop (k*m+d*m)=C at *
 unfold fT
 rw[List.take_left' (by rw[List.length_append,ht,hd])]
 have h0:(A++B++C).drop (k*m+d*m+Z.length)=[]:=List.drop_eq_nil_of_le (by rw[List.length_append,List.length_append,ht,hd,hc,hZ];exact Nat.le_refl _)
 rw[h0,List.append_nil]
theorem U9 {α β:Type}{l:α→List β}{m:Nat}(hl:∀x,(l x).length=m):∀(zs:List α) (k:Nat),(zs.eraseIdx k).flatMap l=(zs.flatMap l).take (k*m)++(zs.flatMap l).drop ((k+1)*m)
 |[],k=>by simp
 |a::r,0=>by
  rw[List.eraseIdx_cons_zero,Nat.zero_mul,List.take_zero,List.nil_append,Nat.zero_add,Nat.one_mul,List.flatMap_cons,List.drop_left' (hl a)]
 |a::r,k+1=>by
  have t1:∀R,(l a++R).take ((k+1)*m)=l a++R.take (k*m):=fun R=>by
   rw[show (k+1)*m=(l a).length+k*m by rw[hl,Nat.add_mul,Nat.one_mul,Nat.add_comm],List.take_append,List.take_of_length_le (l:=l a) (Nat.le_add_right _ _),Nat.add_sub_cancel_left]
  have t2:∀R,(l a++R).drop ((k+1+1)*m)=R.drop ((k+1)*m):=fun R=>by
   rw[show (k+1+1)*m=(l a).length+(k+1)*m by rw[hl,Nat.add_mul (k+1),Nat.one_mul,Nat.add_comm],List.drop_append]
   have h0:(l a).drop ((l a).length+(k+1)*m)=[]:=List.drop_eq_nil_of_le (Nat.le_add_right _ _)
   rw[h0,Nat.add_sub_cancel_left,List.nil_append]
  rw[List.eraseIdx_cons_succ,List.flatMap_cons,U9 hl r k,List.flatMap_cons,t1,t2,List.append_assoc]
theorem Iy {α:Type}(u v:Option α):∀(n:Nat) (t:Tr α) (i:Nat),Tr.set v n (Tr.set u n t i) i=Tr.set v n t i
 |0,t,i=>rfl
 |n+1,.nil,i=>by
  cases h1:Nat.beq i 0 with
  |true=>simp[Tr.set,h1]
  |false=>
   cases h2:Nat.beq (i % 2) 1 with
   |true=>simp[Tr.set,h1,h2,Iy u v n]
   |false=>simp[Tr.set,h1,h2,Iy u v n]
 |n+1,.node l x r,i=>by
  cases h1:Nat.beq i 0 with
  |true=>simp[Tr.set,h1]
  |false=>
   cases h2:Nat.beq (i % 2) 1 with
   |true=>simp[Tr.set,h1,h2,Iy u v n]
   |false=>simp[Tr.set,h1,h2,Iy u v n]
theorem xaz (h:ah)(o:Nat)(x y:Option bc):(h.put o x).put o y=h.put o y:=by
 unfold ah.put
 simp only[Iy]
section
variable {lo:Nat} {h:ah}
variable [bF] in
theorem nU.delete {o n k kk s:Nat}{F:List Value}(hg:h.get o=some (.cells s F))(hl:lo≤o)(hF:F.length=n*5)(h1:∀u∈F,lQ u=true∧u.oneCell'=true)(hk:k<n)(nC:kk<dW) :
  nU prog lo 111 [.slice (some ⟨o,0,none⟩) n kk,.int .i64 k,.int .i64 ((k:Int)+1)] h fun r h'=>r=.slice (some ⟨o,0,none⟩) (n - 1) kk∧h'=h.put o (some (.cells s (F.take (k*5)++F.drop ((k+1)*5)++List.replicate 5 (.int .i64 0)))):=by
 refine .KU fun U w ba ha r=>?_
 obtain⟨v1,r1,iC,iS,pK⟩:=ha.dE
 obtain⟨v2,r2,gW,eN,jQ⟩:=pK.dE
 obtain⟨v3,r3,ji,CH,Ex⟩:=jQ.dE
 have:=Ex.jM;subst this
 cases eN;cases CH
 subst ji;subst gW
 have iN:ba=#[v1,.int .i64 k,.int .i64 ((k:Int)+1)]:=Array.ext' (by simpa using iC)
 subst iN
 cases iS with
 |slice _ _ _ _ b a C hm B4 kc=>
  have rA:=oP r hg hm
  have lM:∀t u,F[t]?=some u→w.cell? ⟨b,a+0+t,none⟩=some u:=fun t u hu=>by
   obtain⟨v',e1,e2⟩:=rA.2.1 t u hu
   rw[Hb (h1 u (List.mem_of_getElem? hu)).1 e2] at e1
   rw[Nat.add_zero];exact e1
  refine(zrn b (a+0) (ie C kk) k n F w hF (fun u hu=>(h1 u hu).2) lM (fun t=>r.eY o _ b a C hl hg hm t) B4 hk).mono fun e w' ⟨e1,e2⟩=>?_
  have self:∀l:List Value,(∀u∈l,u∈F∨u=.int .i64 0)→bA U l l:=fun l hl=>⟨rfl,fun i v hv=>⟨v,hv,by
   rcases hl v (List.mem_of_getElem? hv) with hm|rfl
   ·exact .Al (h1 v hm).1
   exact .int _ _⟩⟩
  have pQ:k*5+5+(n - (k+1))*5=n*5:=by omega
  obtain⟨r2,f2⟩:=Fj r.drew hg hl hm (k*5) (F.drop ((k+1)*5)) (F.drop ((k+1)*5)) (self _ fun u hu=>.inl (List.mem_of_mem_drop hu)) (by rw[List.length_drop];omega)
  have tc:(h.put o (some (.cells s (fT F (k*5) (F.drop ((k+1)*5)))))).get o=some (.cells s (fT F (k*5) (F.drop ((k+1)*5)))):=by rw[ah.dJ _ _ _ _ (ah.gx hg),if_pos rfl]
  have fU:(fT F (k*5) (F.drop ((k+1)*5))).length=n*5:=by rw[MR _ _ _ (by rw[List.length_drop];omega),hF]
  obtain⟨r3,f3⟩:=Fj r2 tc hl hm ((n - 1)*5) (List.replicate 5 (.int .i64 0)) (List.replicate 5 (.int .i64 0)) (self _ fun u hu=>.inr (List.eq_of_mem_replicate hu)) (by rw[fU,List.length_replicate];omega)
  rw[zxm F n k 5 hF hk _ (by rw[List.length_replicate])] at r3 f3
  rw[xaz] at r3 f3
  have ew:w'=(w.drew.setCells b (a+k*5) (F.drop ((k+1)*5))).setCells b (a+(n - 1)*5) (List.replicate 5 (.int .i64 0)):=by rw[e2,Nat.add_zero,show k+(n - (k+1))=n - 1 by omega]
  rw[← ew] at r3 f3
  refine⟨.slice (some ⟨o,0,none⟩) (n - 1) kk,.slice (some ⟨b,a+0,none⟩) (n - 1) (ie C kk),_,U,by rw[e1,show k+(n - (k+1))=n - 1 by omega],.slice _ _ _ _ _ _ _ hm (by omega) kc,r3,(Frame.drew lo U h w).trans (f2.trans f3),rfl,rfl⟩
 |bX=>exact absurd nC (Nat.lt_irrefl _)
 |cp=>omega
end
variable [bF] in
theorem Pd {vh:ai}{i n k:Nat}{nl:Bool}{zs:List aq}(hg:vh.get i=some (.grow 5 (zs.map encS)))(hn:zs.length=n)(hk:k<n) :
  dP prog 111 [.grow i n nl,.int .i64 k,.int .i64 ((k:Int)+1)] vh fun r ao=>r=.sub i 0 (n - 1)∧ao=vh.put i (.arr true 5 (((zs.eraseIdx k).flatMap lS++[0,0,0,0,0]).map (PV.int .i64))):=fun lo ga σ h aB ha s=>by
 subst hn
 obtain⟨v1,r1,rfl,hv,hr⟩:=ha.dE
 obtain⟨v2,r2,rfl,eN,jQ⟩:=hr.dE
 obtain⟨v3,r3,rfl,CH,Ex⟩:=jQ.dE
 have:=Ex.jM;subst this
 have e2:v2=.int .i64 k:=by cases eN with|fr _ _ h=>cases h;rfl
 have e3:v3=.int .i64 ((k:Int)+1):=by cases CH with|fr _ _ h=>cases h;rfl
 subst e2;subst e3
 have Pe:zs.map encS=zs.map fun x=>PV.agg ((lS x).map (PV.int .i64)):=rfl
 rw[Pe] at hg
 obtain⟨hi,Pf,eM,dx,l8⟩:=s.obj i _ hg
 have cY:zs≠[]:=fun e=>by subst e;simp at hk
 rcases l8 with vl|⟨s0,ar,h1,h2,h3,h4⟩
 ·exact absurd (by simpa using vl) cY
 rw[Pg] at h3
 have qX:=bh.ints h3
 generalize hm:zs.length=m at hv
 cases hv with
 |fr _ _ h=>cases h
 |b8=>omega
 |b9=>omega
 |grow _ _ o a kk _ dD hs hn=>
  subst hm
  have fZ:(aM.grow 5 (zs.map fun x=>PV.agg ((lS x).map (PV.int .i64)))).live=true:=by
   cases zs with
   |nil=>simp at hn
   |cons=>rfl
  have bJ:=s.low i _ hg fZ
  rw[hs] at h1 h2 h4 bJ;simp only at h1 h2 h4 bJ;subst h2
  subst qX
  have Bk:zs.length<4611686018427387904:=by
   have h6:(zs.map fun x=>PV.agg ((lS x).map (PV.int .i64))).length<4611686018427387904:=dx
   rw[List.length_map] at h6
   exact h6
  have dZ:kk+(zs.length - 1)<dW:=by
   show kk+(zs.length - 1)<9223372036854775808
   rcases h4 with⟨rfl,_⟩|rfl
   ·simp only[az];omega
   rw[List.length_map];omega
  have eG:zs.length - 1≤kk:=by
   rcases h4 with⟨rfl,_⟩|rfl
   ·simp only[az];omega
   rw[List.length_map];omega
  have hS:=nU.delete (h:=h) (lo:=lo) (kk:=kk) h1 bJ (by rw[List.length_map,Gc (fun _=>rfl) (k:=5)]) (fun u hu=>by obtain⟨x,_,rfl⟩:=List.mem_map.1 hu;exact⟨rfl,rfl⟩) hk (by omega)
  refine hS.mono fun r h' ⟨e1,e2⟩=>?_
  have mu:((zs.flatMap lS).map (Value.int .i64)).take (k*5)++((zs.flatMap lS).map (Value.int .i64)).drop ((k+1)*5)++List.replicate 5 (Value.int .i64 0)=(((zs.eraseIdx k).flatMap lS++[0,0,0,0,0]).map (Value.int .i64)):=by
   rw[U9 (l:=lS) (m:=5) (fun _=>rfl),List.map_append,List.map_append,List.map_take,List.map_drop];rfl
  rw[mu] at e2
  subst e1;subst e2
  have hw:=s.write hg fZ (x':=.arr true 5 (((zs.eraseIdx k).flatMap lS++[0,0,0,0,0]).map (PV.int .i64))) (.cells s0 (((zs.eraseIdx k).flatMap lS++[0,0,0,0,0]).map (Value.int .i64)))
   ⟨by decide,s0,_,by rw[ah.dJ _ _ _ _ (by rw[hs];exact ah.gx h1),if_pos rfl],by rw[hs],bh.Ph _⟩
  rw[hs] at hw
  refine⟨ga,σ,.sub i 0 (zs.length - 1),_,?_,hw.1,Fz.le_refl ga,fun _ _=>rfl,hw.2,Nat.le_refl _,dU.refl _ _ _ _,rfl,rfl⟩
  have:=VR.sub (g:=ga) (σ:=σ) (n:=vh.next) i 0 (zs.length - 1) kk o 0 _ dD hs eG dZ
  rw[Nat.zero_add] at this
  exact this
open Go Go.Am Go.Proofs Tryz
attribute [local simp] eQ ij pV dH gk mz ai.back cS fW lg bm Nat.testBit_eq_decide_div_mod_eq cC iE mw vO ph gF pj iP cU nG nF pe gG pf n4 lZ pT n3 pg o7 o4 o8 o5 o6 o9 pa mR eZ jW eP pn nH oc po pq mQ pR pS gE my fK fy fL kV gg nS nv ny jF oR bj nZ fx bP bK lD ai.get ai.alloc ai.put ai.drop ai.empty bt cZ iw jn gA cz chunk List.range List.range.loop lh pW l9 bI b6 PV.aG PV.aF PV.dc PV.fu gY gH od PV.one PV.ids PV.cF gI beq_eq qD rE
attribute [local simp] cQ bQ fN pZ ti p7 p9 pw gJ fI
attribute [local simp ↓ high] sD rJ
section
variable [bF]
theorem xdu:aN prog 146 [.vec []] fun r=>r=.vec []∨r=.aI:=by
 refine .bT func146 rfl rfl ?_
 refine .sr ?_
 refine .seq (.seq (.ay [0,1] rfl ae (.rn [0] _ ?_)))
 refine .step rfl rfl (.Iz ⟨_,rfl⟩ u25 rfl rfl (by decide) fun q=>?_)
 refine .done ?_
 cases q with
 |true=>
  refine .eA rfl (.sr ?_)
  refine .ret ?_
  exact⟨_,.aI,iT,(by simp),.inr rfl⟩
 |false=>
  refine .fD rfl (.skip (.sr ?_))
  refine .ret ?_
  first|exact⟨_,.vec [],iT,(by simp),.inl rfl⟩|exact⟨_,.aI,iT,(by simp),.inr rfl⟩
theorem xic:aN prog 146 [.vec []] fun r=>r=.vec []:=
 xdu.alt fun r h=>by
  rcases h with rfl|rfl
  ·exact⟨.vec [],.same _ rfl,rfl,rfl⟩
  exact⟨.vec [],.dC,rfl,rfl⟩
theorem xfb:aN prog 147 [.vec []] fun r=>r=.vec []∨r=.aI:=by
 refine .bT func147 rfl rfl ?_
 refine .sr ?_
 refine .seq (.seq (.ay [0,1] rfl ae (.rn [0] _ ?_)))
 refine .step rfl rfl (.Iz ⟨_,rfl⟩ u26 rfl rfl (by decide) fun q=>?_)
 refine .done ?_
 cases q with
 |true=>
  refine .eA rfl (.sr ?_)
  refine .ret ?_
  exact⟨_,.aI,iT,(by simp),.inr rfl⟩
 |false=>
  refine .fD rfl (.skip (.sr ?_))
  refine .ret ?_
  first|exact⟨_,.vec [],iT,(by simp),.inl rfl⟩|exact⟨_,.aI,iT,(by simp),.inr rfl⟩
theorem xgg:aN prog 147 [.vec []] fun r=>r=.vec []:=
 xfb.alt fun r h=>by
  rcases h with rfl|rfl
  ·exact⟨.vec [],.same _ rfl,rfl,rfl⟩
  exact⟨.vec [],.dC,rfl,rfl⟩
theorem xgt (l:List Int)(hl:l.length<4294967296)(h0:0<l.length):aN prog 146 [ints l] fun r=>r=ints l:=by
 obtain⟨a,r,rfl⟩:∃a r,l=a::r:=by cases l with|nil=>simp at h0|cons a r=>exact⟨a,r,rfl⟩
 have DM:r.length+1≤4294967296:=by simp at hl;omega
 have h1:lC 1 (PV.int .i64 a::r.map (PV.int .i64))=true:=zB (f:=PV.int .i64) (n:=1) (fun _=>rfl) (a::r)
 have h2:ma (PV.int .i64 a::r.map (PV.int .i64))=true:=zC (f:=PV.int .i64) (fun _=>rfl) (a::r)
 refine .bT func146 rfl rfl ?_
 refine .sr ?_
 refine .seq (.sr ?_)
 refine .cs ?_ ?_<;>intro c4
 ·try simp at c4
 try simp at c4
 refine .skip (.sr ?_)
 refine .ret (au ?_)
 exact zk
theorem xf6 (l:List lj)(hl:l.length<4294967296)(h0:0<l.length):dP prog 147 [.vec (l.map bV)] ai.empty fun v ao=>∃i nl,v=.grow i l.length nl∧ao.get i=some (.grow 2 (l.map bV)):=by
 obtain⟨a,r,rfl⟩:∃a r,l=a::r:=by cases l with|nil=>simp at h0|cons a r=>exact⟨a,r,rfl⟩
 have DM:r.length+1≤4294967296:=by simp at hl;omega
 have h1:lC 2 (bV a::r.map bV)=true:=zB (f:=bV) (n:=2) (fun _=>rfl) (a::r)
 have h2:ma (bV a::r.map bV)=true:=zC (f:=bV) (fun _=>rfl) (a::r)
 refine .bT func147 rfl rfl ?_
 refine .sr ?_
 refine .seq (.sr ?_)
 refine .cs ?_ ?_<;>intro c4
 ·try simp at c4
 try simp at c4
 refine .skip (.sr ?_)
 refine .ret ?_
 exact⟨_,iT,_,_,rfl,by simp⟩
theorem xh7 (l:List aq)(hl:l.length<4294967296)(h0:0<l.length):dP prog 112 [.vec (l.map encS)] ai.empty fun v ao=>∃i nl,v=.grow i l.length nl∧ao.get i=some (.grow 5 (l.map encS)):=by
 obtain⟨a,r,rfl⟩:∃a r,l=a::r:=by cases l with|nil=>simp at h0|cons a r=>exact⟨a,r,rfl⟩
 have DM:r.length+1≤4294967296:=by simp at hl;omega
 have h1:lC 5 (encS a::r.map encS)=true:=zB (f:=encS) (n:=5) (fun _=>rfl) (a::r)
 have h2:ma (encS a::r.map encS)=true:=zC (f:=encS) (fun _=>rfl) (a::r)
 refine .bT func112 rfl rfl ?_
 refine .sr ?_
 refine .seq (.sr ?_)
 refine .cs ?_ ?_<;>intro c4
 ·try simp at c4
 try simp at c4
 refine .skip (.sr ?_)
 refine .ret ?_
 exact⟨_,iT,_,_,rfl,by simp⟩
theorem vq (l:List Int)(hl:l.length<4294967296):aN prog 146 [ints l] fun r=>r=ints l:=by
 cases l with
 |nil=>exact xic
 |cons a r=>exact xgt (a::r) hl (by simp)
end
theorem Pj (l:List gZ):mh 3 (l.map bk):=.map (g:=fun m=>[.int .i64 m.f,.int .i64 m.t,.int .i64 m.c]) (fun _=>rfl) (fun _=>rfl) l
theorem Pk (l:List lj):mh 2 (l.map bV):=.map (g:=fun g=>[.int .i64 g.at_,ints g.ws]) (fun _=>rfl) (fun _=>rfl) l
theorem xh6 (l:List gZ):ma (l.map bk)=true:=zC (f:=bk) (fun _=>rfl) l
theorem Pl (l:List gZ):lC 3 (l.map bk)=true:=zB (f:=bk) (n:=3) (fun _=>rfl) l
def mZ (l:List lj):List PV:=(l.map bV).flatMap PV.cells
@[simp] theorem xft (l:List lj):(mZ l).length=l.length*2:=by unfold mZ;rw[(Pk l).len,List.length_map]
theorem Va:∀(l:List lj) (k:Nat) {y:lj},l[k]?=some y→∃A B,mZ l=A++.int .i64 y.at_::ints y.ws::B∧A.length=k*2
 |[],k,y,h=>by simp at h
 |a::r,0,y,h=>by
  simp only[List.getElem?_cons_zero,ax] at h
  subst h
  exact⟨[],mZ r,rfl,rfl⟩
 |a::r,k+1,y,h=>by
  obtain⟨A,B,h1,h2⟩:=Va r k (y:=y) (by simpa using h)
  refine⟨.int .i64 a.at_::ints a.ws::A,B,?_,by simp[h2];omega⟩
  show .int .i64 a.at_::ints a.ws::mZ r=_
  rw[h1];rfl
theorem Vb {l:List lj}(h:0<l.length){vh:ai}{n2:Nat}{D:Nat→Bool}{ρ:Nat→Nat}:mi vh n2 D ρ (.grow 2 (l.map bV)) (.arr true 2 (mZ l)):=by
 cases l with
 |nil=>simp at h
 |cons a r=>exact⟨rfl,⟨_,_,rfl⟩,rfl⟩
theorem Vc {l:List lj}{k:Nat}{y:lj}(h:l[k]?=some y):(mZ l)[k*2+1]?=some (ints y.ws):=by
 obtain⟨A,B,h1,h2⟩:=Va l k h
 rw[h1,← h2,List.getElem?_append_right (by omega)]
 simp
theorem z5q {l:List lj}{k:Nat}{y:lj}(h:l[k]?=some y):(mZ l).take (k*2+1)++ints y.ws::(mZ l).drop (k*2+1+1)=mZ l:=by
 have hg:=Vc h
 obtain⟨hl,he⟩:=List.getElem?_eq_some_iff.1 hg
 rw[← he,← List.drop_eq_getElem_cons hl,List.take_append_drop]
variable [bF] in
theorem Pm (c:aj)(hk:bl c=0):aN prog 101 [aH c] fun r=>r=aH c:=by
 have bo:=gR hk
 have oh:=bo.tl
 have eM:=bo.cl
 have iI:=bo.HI
 have hg6:=bo.wc
 have hC:cR c=(cQ c):=rfl
 unfold aH
 rw[hC]
 have cj:(c.mx.length:Int)≤4294967296:=by omega
 have hvc:=fun (vh:ai) (hg:vh.get 2=some (.arr true 3 (cz [.int .i64 0,.int .i64 0,.int .i64 0] c.mx.length)))=>z2h (P:=prog) (t:=22) (k:=c.mx.length) (z:=[.int .i64 0,.int .i64 0,.int .i64 0]) rfl (by decide) (Pj c.mx) (Pl c.mx) (xh6 c.mx) rfl (by simp) hg
 have yai:=fun l hl=>vq l hl
 refine .bT func101 rfl rfl ?_
 rcases Nat.eq_zero_or_pos c.g.length with sE|tA
 ·
  have zP:c.g=[]:=List.eq_nil_of_length_eq_zero sE
  unfold cQ
  rw[zP]
  refine .seq ?_
  refine .run ae (by simp[*,-cU,-cz]<;>first|exact⟨rfl,rfl⟩|exact rfl) ?_
  refine .seq ?_
  refine .run ae (by simp[*,-cU,-cz]<;>first|exact⟨rfl,rfl⟩|exact rfl) ?_
  refine .seq ?_
  refine .run ae (by simp[*,-cU,-cz]<;>first|exact⟨rfl,rfl⟩|exact rfl) ?_
  refine .seq ?_
  refine .run ae (by simp[*,-cU,-cz]<;>first|exact⟨rfl,rfl⟩|exact rfl) ?_
  refine .seq ?_
  refine .rec (aA:=[(1,.ptr 0 0),(2,.ptr 1 0)]) (aV:=⟨2,[(1,.box [.int .i64 0,.int .i64 0,.int .i64 0,.int .i64 0,.int .i64 0,.aI,.aI,.aI,.aI]),(0,.box (cQ c))]⟩) (.mk [2] [] IA IB rfl rfl rfl) ?_
  refine .drawn (ms:=[0,1,3,0,8,31,0,64,255,223,1023,2047,4095,8191,16383]) (W:=[2,5,8,10,12,14]) (items:=Vd) rfl ae ae ae ?_
  refine .rd rfl rfl (by decide) rfl (by decide) (by simp[*,-cU,-cz]<;>first|exact⟨rfl,rfl⟩|exact rfl) ?_
  refine .rd rfl rfl (by decide) rfl (by decide) (by simp[*,-cU,-cz]<;>first|exact⟨rfl,rfl⟩|exact rfl) ?_
  refine .rd rfl rfl (by decide) rfl (by decide) (by simp[*,-cU,-cz]<;>first|exact⟨rfl,rfl⟩|exact rfl) ?_
  refine .rd rfl rfl (by decide) rfl (by decide) (by simp[*,-cU,-cz]<;>first|exact⟨rfl,rfl⟩|exact rfl) ?_
  refine .rd rfl rfl (by decide) rfl (by decide) (by simp[*,-cU,-cz]<;>first|exact⟨rfl,rfl⟩|exact rfl) ?_
  refine .rd rfl rfl (by decide) rfl (by decide) (by simp[*,-cU,-cz]<;>first|exact⟨rfl,rfl⟩|exact rfl) ?_
  refine .wp rfl rfl rfl rfl rfl call146 (vq c.t (by omega)) ?_
  refine .ck rfl dO ?_
  refine .ck rfl dO ?_
  refine .rd rfl rfl (by decide) rfl (by decide) (by simp[*,-cU,-cz]<;>first|exact⟨rfl,rfl⟩|exact rfl) ?_
  refine .wp rfl rfl rfl rfl rfl call146 (vq c.c (by omega)) ?_
  refine .ck rfl dO ?_
  refine .wp rfl rfl rfl rfl rfl call147 (xgg) ?_
  refine .wr rfl rfl (by decide) (.dH (by simp[*,-cU,-cz]<;>first|exact⟨rfl,rfl⟩|exact rfl) (by decide) ?_)
  refine .rd rfl rfl (by decide) rfl (by decide) (by simp[*,-cU,-cz]<;>first|exact⟨rfl,rfl⟩|exact rfl) ?_
  refine .wr rfl rfl (by decide) (.dH (by simp[*,-cU,-cz]<;>first|exact⟨rfl,rfl⟩|exact rfl) (by decide) ?_)
  refine .rd rfl rfl (by decide) rfl (by decide) (by simp[*,-cU,-cz]<;>first|exact⟨rfl,rfl⟩|exact rfl) ?_
  refine .wr rfl rfl (by decide) (.dH (by simp[*,-cU,-cz]<;>first|exact⟨rfl,rfl⟩|exact rfl) (by decide) ?_)
  refine .done (.seq (.seq ?_))
  refine .run ae (by simp[*,-cU,-cz]<;>first|exact⟨rfl,rfl⟩|exact rfl) ?_
  refine .block ?_
  refine .dw (fun k:Nat=>([(1,.ptr 0 0),(2,.ptr 1 0),(32,.int .i64 0),(33,.int .i64 k)],⟨2,[(1,.box [.int .i64 0,.int .i64 0,.int .i64 0,.int .i64 0,.int .i64 0,.aI,.aI,.aI,.aI]),(0,.box [.int .i64 c.om,.int .i64 c.le,.int .i64 c.tw,.int .i64 c.gl,.int .i64 c.ad,.vec (c.mx.map bk),ints c.t,.vec [],ints c.c])]⟩)) (fun k=>k=0) (fun k=>0) 0 rfl bn ?_
  rintro k gh
  simp only at gh ⊢
  refine .seq ?_
  refine .run ae (by simp[*,-cU,-cz]<;>first|exact⟨rfl,rfl⟩|exact rfl) ?_
  refine .seq ?_
  refine .cs ?_ ?_<;>intro pA
  ·try simp at pA
  try simp at pA
  refine .exit (.seq ?_)
  refine .run ae (by simp[*,-cU,-cz]<;>first|exact⟨rfl,rfl⟩|exact rfl) ?_
  refine .ret (au ?_)
  exact zk
 ·
  refine .seq ?_
  refine .run ae (by simp[*,-cU,-cz]<;>first|exact⟨rfl,rfl⟩|exact rfl) ?_
  refine .seq ?_
  refine .run ae (by simp[*,-cU,-cz]<;>first|exact⟨rfl,rfl⟩|exact rfl) ?_
  refine .seq ?_
  refine .run ae (by simp[*,-cU,-cz]<;>first|exact⟨rfl,rfl⟩|exact rfl) ?_
  refine .seq ?_
  refine .run ae (by simp[*,-cU,-cz]<;>first|exact⟨rfl,rfl⟩|exact rfl) ?_
  refine .seq ?_
  refine .rec (aA:=[(1,.ptr 0 0),(2,.ptr 1 0)]) (aV:=⟨2,[(1,.box [.int .i64 0,.int .i64 0,.int .i64 0,.int .i64 0,.int .i64 0,.aI,.aI,.aI,.aI]),(0,.box (cQ c))]⟩) (.mk [2] [] IA IB rfl rfl rfl) ?_
  refine .drawn (ms:=[0,1,3,0,8,31,0,64,255,223,1023,2047,4095,8191,16383]) (W:=[2,5,8,10,12,14]) (items:=Vd) rfl ae ae ae ?_
  refine .rd rfl rfl (by decide) rfl (by decide) (by simp[*,-cU,-cz]<;>first|exact⟨rfl,rfl⟩|exact rfl) ?_
  refine .rd rfl rfl (by decide) rfl (by decide) (by simp[*,-cU,-cz]<;>first|exact⟨rfl,rfl⟩|exact rfl) ?_
  refine .rd rfl rfl (by decide) rfl (by decide) (by simp[*,-cU,-cz]<;>first|exact⟨rfl,rfl⟩|exact rfl) ?_
  refine .rd rfl rfl (by decide) rfl (by decide) (by simp[*,-cU,-cz]<;>first|exact⟨rfl,rfl⟩|exact rfl) ?_
  refine .rd rfl rfl (by decide) rfl (by decide) (by simp[*,-cU,-cz]<;>first|exact⟨rfl,rfl⟩|exact rfl) ?_
  refine .rd rfl rfl (by decide) rfl (by decide) (by simp[*,-cU,-cz]<;>first|exact⟨rfl,rfl⟩|exact rfl) ?_
  refine .wp rfl rfl rfl rfl rfl call146 (vq c.t (by omega)) ?_
  refine .ck rfl dO ?_
  refine .ck rfl dO ?_
  refine .rd rfl rfl (by decide) rfl (by decide) (by simp[*,-cU,-cz]<;>first|exact⟨rfl,rfl⟩|exact rfl) ?_
  refine .wp rfl rfl rfl rfl rfl call146 (vq c.c (by omega)) ?_
  refine .ck rfl dO ?_
  refine .wr rfl rfl (by decide) (.call rfl rfl rfl call147 (by decide) (((dP.yc (by simp) (xf6 c.g (by omega) tA) rfl tA)).mono ?_))
  rintro _ _ ⟨rfl,rfl⟩
  refine .wr rfl rfl (by decide) (.dH (by simp[*,-cU,-cz]<;>first|exact⟨rfl,rfl⟩|exact rfl) (by decide) ?_)
  refine .rd rfl rfl (by decide) rfl (by decide) (by simp[*,-cU,-cz]<;>first|exact⟨rfl,rfl⟩|exact rfl) ?_
  refine .wr rfl rfl (by decide) (.dH (by simp[*,-cU,-cz]<;>first|exact⟨rfl,rfl⟩|exact rfl) (by decide) ?_)
  refine .rd rfl rfl (by decide) rfl (by decide) (by simp[*,-cU,-cz]<;>first|exact⟨rfl,rfl⟩|exact rfl) ?_
  refine .wr rfl rfl (by decide) (.dH (by simp[*,-cU,-cz]<;>first|exact⟨rfl,rfl⟩|exact rfl) (by decide) ?_)
  refine .done (.seq (.seq ?_))
  refine .run ae (by simp[*,-cU,-cz]<;>first|exact⟨rfl,rfl⟩|exact rfl) ?_
  refine .block ?_
  refine .dw (fun k:Nat=>([(1,.ptr 0 0),(2,.ptr 1 0),(32,.int .i64 c.g.length),(33,.int .i64 k)],⟨3,[(2,.arr true 2 (mZ c.g)),(1,.box [.int .i64 0,.int .i64 0,.int .i64 0,.int .i64 0,.int .i64 0,.aI,.aI,.aI,.aI]),(0,.box [.int .i64 c.om,.int .i64 c.le,.int .i64 c.tw,.int .i64 c.gl,.int .i64 c.ad,.vec (c.mx.map bk),ints c.t,.sub 2 0 c.g.length,ints c.c])]⟩)) (fun k=>k≤c.g.length) (fun k=>c.g.length - k) 0 (by simp) (.mk [] [] (by repeat' (first|exact trivial|exact trivial|exact Alt.yd 2 2 _ _ 2 _ (aY rfl) rfl rfl (by simp) tA|exact Vb tA|refine And.intro (Exists.intro _ (And.intro rfl ?_)) ?_|(refine Alt.same _ ?_;first|rfl|(simp[*];done))|exact Alt.aW _ _ (aY rfl) rfl|exact Alt.grow _ _ _ _ (aY rfl) rfl|(refine Alt.zQ _ _ _ _ _ ?_ (aY rfl) rfl;simp[*];done)|exact Alt.ptr _ _ _ (aY rfl) rfl|exact Alt.own _ _ _ _ _ (aY rfl) rfl|exact Alt.sub _ _ _ _ (aY rfl) rfl|exact Alt.bY _ _ (aY rfl) rfl|exact Alt.aI _ _|(refine Alt.oA _ _ _ ?_;simp[*];done)|exact Alt.e0 _|exact Alt.dQ aD.nil (aD.cons (Alt.ptr _ _ _ (aY rfl) rfl) aD.nil)|exact Alt.dC|exact Alt.mY _ _ _|(refine Alt.bW _ _ _ _ _ rfl rfl ?_;simp[*];done)|exact Alt.iV _ _ _ _ _ _ _ _ rfl rfl rfl|exact Alt.dS _ _ rfl rfl|(refine Alt.zR ?_;simp[*]<;>rfl)|(refine Alt.ofEq rfl ?_;simp[*];done))) (by repeat' (first|exact trivial|exact trivial|exact Alt.yd 2 2 _ _ 2 _ (aY rfl) rfl rfl (by simp) tA|exact Vb tA|refine And.intro (And.intro (aY rfl) (Or.inr (And.intro rfl (Exists.intro _ (And.intro rfl ?_))))) ?_|refine And.intro (And.intro (aY rfl) (Or.inl (Exists.intro _ (And.intro rfl (aY rfl))))) ?_|refine And.intro (And.intro (aY rfl) (Or.inl (Exists.intro _ (And.intro (congrArg (aM.grow _) (by simp[*])) (aY rfl))))) ?_|rfl|exact aD.nil|(refine congrArg (aM.grow _) ?_;simp[*];done)|(refine congrArg aM.map ?_;simp[*];done)|(refine congrArg (aM.arr _ _) ?_;simp[*];done)|refine sM.mk rfl rfl rfl rfl rfl ?_|refine And.intro (Exists.intro _ (And.intro rfl ?_)) ?_|refine aD.cons ?_ ?_|(refine Alt.same _ ?_;first|rfl|(simp[*];done))|exact Alt.aW _ _ (aY rfl) rfl|exact Alt.grow _ _ _ _ (aY rfl) rfl|(refine Alt.zQ _ _ _ _ _ ?_ (aY rfl) rfl;simp[*];done)|exact Alt.ptr _ _ _ (aY rfl) rfl|exact Alt.own _ _ _ _ _ (aY rfl) rfl|exact Alt.sub _ _ _ _ (aY rfl) rfl|exact Alt.bY _ _ (aY rfl) rfl|exact Alt.aI _ _|(refine Alt.oA _ _ _ ?_;simp[*];done)|exact Alt.e0 _|exact Alt.dQ aD.nil (aD.cons (Alt.ptr _ _ _ (aY rfl) rfl) aD.nil)|exact Alt.dC|exact Alt.mY _ _ _|(refine Alt.bW _ _ _ _ _ rfl rfl ?_;simp[*];done)|exact Alt.iV _ _ _ _ _ _ _ _ rfl rfl rfl|exact Alt.dS _ _ rfl rfl|(refine Alt.zR ?_;simp[*]<;>rfl)|(refine Alt.ofEq rfl ?_;simp[*];done))) rfl rfl rfl) ?_
  rintro k gh
  simp only at gh ⊢
  refine .seq ?_
  refine .run ae (by simp[*,-cU,-cz]<;>first|exact⟨rfl,rfl⟩|exact rfl) ?_
  refine .seq ?_
  refine .cs ?_ ?_<;>intro pA
  ·try simp at pA
   have ki:k<c.g.length:=pA
   obtain⟨y,hy⟩:∃y,c.g[k]?=some y:=⟨c.g[k],List.getElem?_eq_getElem ki⟩
   have Gd:y∈c.g:=List.mem_of_getElem? hy
   have ud:=(bo.La y Gd).2.2.1
   have gX:=Vc hy
   have rS:=z5q hy
   have nE:k*2+1+1≤c.g.length*2:=by omega
   have et:=fA k
   refine .skip (.seq (.block (.seq ?_)))
   refine .run ae (by simp[*,-cU,-cz]<;>first|exact⟨rfl,rfl⟩|exact rfl) ?_
   refine .drawn (ms:=[0,1,0,0,8,0,56,120,248,504,1023,2047,4095]) (W:=[9,12]) (items:=[.op 0,.op 1,.op 2,.op 3,.op 4,.op 5,.op 6,.op 7,.op 8,.op 9,.ck 1,.op 10,.op 11,.op 12]) rfl ae ae ae ?_
   refine .rd rfl rfl (by decide) rfl (by decide) (by simp[*,-cU,-cz]<;>first|exact⟨rfl,rfl⟩|exact rfl) ?_
   refine .rd rfl rfl (by decide) rfl (by decide) (by simp[*,-cU,-cz]<;>first|exact⟨rfl,rfl⟩|exact rfl) ?_
   refine .rd rfl rfl (by decide) rfl (by decide) (by simp[*,-cU,-cz]<;>first|exact⟨rfl,rfl⟩|exact rfl) ?_
   refine .rd rfl rfl (by decide) rfl (by decide) (by simp[*,-cU,-cz]<;>first|exact⟨rfl,rfl⟩|exact rfl) ?_
   refine .rd rfl rfl (by decide) rfl (by decide) (by simp[*,-cU,-cz]<;>first|exact⟨rfl,rfl⟩|exact rfl) ?_
   refine .rd rfl rfl (by decide) rfl (by decide) (by simp[*,-cU,-cz]<;>first|exact⟨rfl,rfl⟩|exact rfl) ?_
   refine .rd rfl rfl (by decide) rfl (by decide) (by simp[*,-cU,-cz]<;>first|exact⟨rfl,rfl⟩|exact rfl) ?_
   refine .rd rfl rfl (by decide) rfl (by decide) (by simp[*,-cU,-cz]<;>first|exact⟨rfl,rfl⟩|exact rfl) ?_
   refine .rd rfl rfl (by decide) rfl (by decide) (by simp[*,-cU,-cz]<;>first|exact⟨rfl,rfl⟩|exact rfl) ?_
   refine .wp rfl rfl rfl rfl rfl call146 (vq y.ws (by omega)) ?_
   refine .ck rfl dO ?_
   refine .rd rfl rfl (by decide) rfl (by decide) (by simp[*,-cU,-cz]<;>first|exact⟨rfl,rfl⟩|exact rfl) ?_
   refine .rd rfl rfl (by decide) rfl (by decide) (by simp[*,-cU,-cz]<;>first|exact⟨rfl,rfl⟩|exact rfl) ?_
   refine .wr rfl rfl (by decide) (.dH (by simp[*,-cU,-cz]<;>first|exact⟨rfl,rfl⟩|exact rfl) (by decide) ?_)
   refine .done ?_
   refine .run ae (by simp[*,-cU,-cz]<;>first|exact⟨rfl,rfl⟩|exact rfl) ?_
   refine⟨k+1,bp,bp,bn⟩
  try simp at pA
  refine .exit (.seq ?_)
  refine .rec (aA:=[(1,.ptr 0 0),(2,.ptr 1 0)]) (aV:=⟨2,[(1,.box [.int .i64 0,.int .i64 0,.int .i64 0,.int .i64 0,.int .i64 0,.aI,.aI,.aI,.aI]),(0,.box (cQ c))]⟩) (.mk [2] [] Pn Po rfl rfl rfl) ?_
  refine .run ae (by simp[*,-cU,-cz]<;>first|exact⟨rfl,rfl⟩|exact rfl) ?_
  refine .ret (au ?_)
  exact zk
end Go.Am.Sl
end
