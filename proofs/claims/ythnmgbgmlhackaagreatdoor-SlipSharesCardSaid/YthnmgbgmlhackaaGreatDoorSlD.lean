/-
 What is used in the proof of a statement (part SlD); no condition.
-/
import Derived.Shelf.RegionOpenPlain
import Derived.WalkKit
import Derived.Deep.RegionLaw
import Derived.Lib.Walk
import Derived.Lib.SliceRun
import Derived.Test.YthnmgbgmlhackaaGreatDoorSlZ
import Derived.Test.YthnmgbgmlhackaaGreatDoorVm2
import Derived.Test.YthnmgbgmlhackaaGreatDoorSlT
import Derived.Test.YthnmgbgmlhackaaGreatDoorSlA
import Derived.Test.YthnmgbgmlhackaaGreatDoorSlC
import Derived.Test.YthnmgbgmlhackaaGreatDoorSlB
set_option linter.all false
set_option maxHeartbeats 40000000
set_option maxRecDepth 100000
section
namespace Go.Am.Sl
open Go Go.Am Go.Proofs Tryz
attribute [local simp] fx ie rS dS ig nD ah.back de gJ l8 bm Nat.testBit_eq_decide_div_mod_eq cF iX ny vO qE ja qF jw cW oX oV qB jb qC pI mW rR pH qD qv qq qw qt qu qz qA od fI kl fw qG oZ pK qH qI oc rP rQ iY nz gp fY gq lV hU pA oD oE jY qi bo pG fX bU bS l9 ah.get ah.alloc ah.put ah.drop ah.empty bh dm iF jP gI cB chunk List.range List.range.loop ma rT mX bz b9 PV.aB PV.aG PV.dy PV.fW jc jd pL PV.one PV.ids PV.cO gx beq_eq sJ tW
attribute [local simp] cQ bQ jf gz fG
section
variable [bE]
theorem FQ (a:Int):aM prog 179 [.int .i64 a] fun r=>r=.bool false:=by
 refine .bV func179 rfl rfl ?_
 refine .sr ?_
 refine .sr ?_
 refine .ret (aH ?_)
 exact zk
theorem vH (a b:Int):aM prog 157 [.int .i64 a,.int .i64 b] fun r=>r=.int .i64 (ix a b):=by
 have hc:ix a b=if a<b then -1 else if b<a then 1 else 0:=rfl
 refine .bV func157 rfl rfl ?_
 refine .sr ?_
 refine .seq (.aD [0,1,2] rfl af (.rn [0] _ ?_))
 refine .pc rfl rfl rfl rfl rfl call179 (FQ _) ?_
 refine .rn [2] [] ?_
 refine .done (.seq (.aD [0,1,2] rfl af ?_))
 refine .rn [0] _ ?_
 refine .pc rfl rfl rfl rfl rfl call179 (FQ _) ?_
 refine .rn [2] [] ?_
 refine .done (.seq (.sr ?_))
 refine .cs ?_ ?_<;>intro ku
 ·try simp at ku
 try simp at ku
 refine .skip (.seq (.sr ?_))
 refine .cs ?_ ?_<;>intro pW
 ·try simp at pW
 try simp at pW
 refine .skip (.seq (.sr ?_))
 refine .cs ?_ ?_<;>intro sL
 ·try simp at sL
  rw[if_pos sL] at hc
  refine .sr ?_
  refine .ret (aH ?_)
  exact zk
 try simp at sL
 rw[if_neg (by omega)] at hc
 refine .skip (.seq (.sr ?_))
 refine .cs ?_ ?_<;>intro jJ
 ·try simp at jJ
  rw[if_pos jJ] at hc
  refine .sr ?_
  refine .ret (aH ?_)
  exact zk
 try simp at jJ
 rw[if_neg (by omega)] at hc
 refine .skip (.sr ?_)
 refine .ret (aH ?_)
 exact zk
theorem Ls (l:List Int)(hl:l.length<4294967296):aM prog 156 [ints l] fun r=>r=.int .i64 (s7 l):=by
 refine .bV func156 rfl rfl ?_
 refine .sr ?_
 refine .sr ?_
 refine .seq (.sr ?_)
 refine .block ?_
 refine .dF (fun i:Nat=>([(3,.int .i64 0),(6,ints l),(7,.int .i64 l.length),(8,.int .i64 i)],ah.empty)) (fun i=>i≤l.length∧∀x∈l.take i,x=0) (fun i=>l.length - i) 0 (by simp) (.pure (by simp[*]) (by simp)) ?_
 rintro i ⟨hi,hz⟩
 simp only at hi hz ⊢
 refine .sr ?_
 refine .seq ?_
 refine .cs ?_ ?_<;>intro c9
 ·try simp at c9
  have eP:=fy i
  have qP:i<l.length:=by omega
  refine .skip (.seq (.block (.sr ?_)))
  refine .sr ?_
  refine .cs ?_ ?_<;>intro oe
  ·try simp at oe
   have kF:=Yu qP hz oe
   refine .sr ?_
   refine .ret (aH ?_)
   rw[kF]
  try simp at oe
  have iC:∀x∈l.take (i+1),x=0:=fun x hx=>by
   rw[List.take_succ_eq_append_getElem qP,List.mem_append,List.mem_singleton] at hx
   rcases hx with h|h
   ·exact hz x h
   rw[h];exact oe
  refine .skip (.rn ?_)
  refine⟨i+1,⟨bt,iC⟩,bt,.pure (by simp[*]) (by simp)⟩
 try simp at c9
 have:i=l.length:=by omega
 have kF:=Yv (l:=l) (fun x hx=>hz x (by rw[this,List.take_length];exact hx))
 refine .exit (.sr ?_)
 refine .ret (aH ?_)
 rw[kF]
theorem Lt (a b:ai):aM prog 118 [encS a,encS b] fun r=>r=.int .i64 (mB a b):=by
 unfold encS mB
 have FT:=Ls [ix a.a b.a,ix a.i b.i,ix a.k b.k,ix a.l b.l,ix a.w b.w] (by simp)
 simp only[ints,List.map] at FT
 refine .bV func118 rfl rfl ?_
 refine .sr ?_
 refine .seq ?_
 refine .drawn (ms:=[0,1,0,4,15,0,32,0,128,511,0,1024,0,4096,16383,0,32768,0,131072,524287,0,1048576,0,4194304,16777215,33554431,67108863,134217727]) (W:=[4,9,14,19,24,25,26]) (items:=[.op 0,.op 1,.op 2,.op 3,.op 5,.op 6,.op 7,.op 8,.op 10,.op 11,.op 12,.op 13,.op 15,.op 16,.op 17,.op 18,.op 20,.op 21,.op 22,.op 23,.op 4,.ck 23,.ck 21,.ck 18,.ck 16,.ck 13,.ck 11,.ck 8,.ck 6,.op 9,.ck 23,.ck 21,.ck 18,.ck 16,.ck 13,.ck 11,.op 14,.ck 23,.ck 21,.ck 18,.ck 16,.op 19,.ck 23,.ck 21,.op 24,.op 25,.op 26,.op 27]) rfl af af af ?_
 iterate 20 refine .rx ?_
 refine .wp rfl rfl rfl rfl rfl call157 (vH _ _) ?_
 refine .ck rfl eM ?_
 refine .ck rfl eM ?_
 refine .ck rfl eM ?_
 refine .ck rfl eM ?_
 refine .ck rfl eM ?_
 refine .ck rfl eM ?_
 refine .ck rfl eM ?_
 refine .ck rfl eM ?_
 refine .wp rfl rfl rfl rfl rfl call157 (vH _ _) ?_
 refine .ck rfl eM ?_
 refine .ck rfl eM ?_
 refine .ck rfl eM ?_
 refine .ck rfl eM ?_
 refine .ck rfl eM ?_
 refine .ck rfl eM ?_
 refine .wp rfl rfl rfl rfl rfl call157 (vH _ _) ?_
 refine .ck rfl eM ?_
 refine .ck rfl eM ?_
 refine .ck rfl eM ?_
 refine .ck rfl eM ?_
 refine .wp rfl rfl rfl rfl rfl call157 (vH _ _) ?_
 refine .ck rfl eM ?_
 refine .ck rfl eM ?_
 refine .wp rfl rfl rfl rfl rfl call157 (vH _ _) ?_
 refine .wv ?_
 refine .wr rfl rfl (by decide) (.FJ rfl rfl rfl call156 (by decide) (by first|(simp<;>rfl)|(simp[*]<;>rfl)|(simp[*];done)) (FT) ?_)
 rintro _ rfl
 refine .rx ?_
 refine .done (.ret (aH ?_))
 exact zk
end
end Go.Am.Sl
end
section
namespace Go.Am.Sl
open Go Go.Am Go.Proofs Tryz Go.Shelf Go.Sort
def Yw:Ren where
  f := fun x => match x with
    |6=>117
    |15=>155
    |14=>154
    |28=>177
    |29=>178
    |20=>169
    |21=>170
    |22=>171
    |23=>172
    |24=>173
    |25=>174
    |26=>175
    |27=>176
    |46=>183
    |47=>184
    |48=>185
    |49=>186
    |50=>187
    |57=>191
    |n=>n
  t := fun x => match x with
    |22=>31
    |24=>48
    |25=>192
    |3=>3
    |39=>228
    |0=>0
    |53=>256
    |55=>258
    |4=>4
    |46=>250
    |45=>249
    |50=>147
    |5=>5
    |9=>9
    |66=>260
    |70=>174
    |76=>269
    |77=>270
    |n=>n
  g:=fun n=>n
theorem Lu:SlLaysF0.n6 prog Yw where
  mixed:=rfl
  f6:=⟨ "slices.SortFunc[[]pecia/api.Slip,pecia/api.Slip]", by decide,func117⟩
  f14:=⟨ "slices.pdqsortCmpFunc[pecia/api.Slip]", by decide,func154⟩
  f15:=func155
  f20:=⟨ "slices.insertionSortCmpFunc[pecia/api.Slip]", by decide,func169⟩
  f21:=⟨ "slices.heapSortCmpFunc[pecia/api.Slip]", by decide,func170⟩
  f22:=⟨ "slices.breakPatternsCmpFunc[pecia/api.Slip]", by decide,func171⟩
  f23:=⟨ "slices.choosePivotCmpFunc[pecia/api.Slip]", by decide,func172⟩
  f24:=⟨ "slices.reverseRangeCmpFunc[pecia/api.Slip]", by decide,func173⟩
  f25:=⟨ "slices.partialInsertionSortCmpFunc[pecia/api.Slip]", by decide,func174⟩
  f26:=⟨ "slices.partitionEqualCmpFunc[pecia/api.Slip]", by decide,func175⟩
  f27:=⟨ "slices.partitionCmpFunc[pecia/api.Slip]", by decide,func176⟩
  f28:=func177
  f29:=func178
  f46:=⟨ "slices.siftDownCmpFunc[pecia/api.Slip]", by decide,func183⟩
  f47:=func184
  f48:=func185
  f49:=⟨ "slices.medianAdjacentCmpFunc[pecia/api.Slip]", by decide,func186⟩
  f50:=⟨ "slices.medianCmpFunc[pecia/api.Slip]", by decide,func187⟩
  f57:=⟨ "slices.order2CmpFunc[pecia/api.Slip]", by decide,func191⟩
  t0:=underlying0
  a0:=isAgg0
  z0:=sizeOf0
  v0:=zeroValue0
  t3:=underlying3
  a3:=isAgg3
  z3:=sizeOf3
  v3:=zeroValue3
  t4:=underlying4
  a4:=isAgg4
  z4:=sizeOf4
  v4:=zeroValue4
  t5:=underlying5
  a5:=isAgg5
  z5:=sizeOf5
  v5:=zeroValue5
  t9:=underlying9
  a9:=isAgg9
  z9:=sizeOf9
  v9:=zeroValue9
  t22:=underlying31
  a22:=isAgg31
  z22:=sizeOf31
  v22:=zeroValue31
  t25:=underlying192
  a25:=isAgg192
  z25:=sizeOf192
  v25:=zeroValue192
  t39:=underlying228
  a39:=isAgg228
  z39:=sizeOf228
  v39:=zeroValue228
  t45:=underlying249
  a45:=isAgg249
  z45:=sizeOf249
  v45:=zeroValue249
  t46:=underlying250
  a46:=isAgg250
  z46:=sizeOf250
  v46:=zeroValue250
  t50:=underlying147
  a50:=isAgg147
  z50:=sizeOf147
  v50:=zeroValue147
  t53:=underlying256
  a53:=isAgg256
  z53:=sizeOf256
  v53:=zeroValue256
  t55:=underlying258
  a55:=isAgg258
  z55:=sizeOf258
  v55:=zeroValue258
  t66:=underlying260
  a66:=isAgg260
  z66:=sizeOf260
  v66:=zeroValue260
  t70:=underlying174
  a70:=isAgg174
  z70:=sizeOf174
  v70:=zeroValue174
  t76:=underlying269
  a76:=isAgg269
  z76:=sizeOf269
  v76:=zeroValue269
  t77:=underlying270
  a77:=isAgg270
  z77:=sizeOf270
  v77:=zeroValue270
instance:Inhabited ai:=⟨⟨0,0,0,0,0⟩⟩
def lS (s:ai):List Int:=[s.k,s.a,s.i,s.l,s.w]
theorem FU (a b:ai):ltOf mB a b=decide (a.lt b):=by
 unfold ltOf
 exact decide_eq_decide.2 Yx
theorem Lv:SWO (ltOf mB) where
  irrefl x:=by rw[FU,decide_eq_false_iff_not];exact ai.yV x
  trans x y z h1 h2:=by rw[FU,decide_eq_true_eq] at *;exact ai.lt_trans h1 h2
  ntrans x y z h1 h2:=by
    rw[FU,decide_eq_false_iff_not] at *
    unfold ai.lt at *
    omega
theorem Yy:An mB=kW:=by
 funext a b
 unfold An kW
 rw[FU]
theorem Lx (x y:ai)(h1:ltOf mB x y=false)(h2:ltOf mB y x=false):x=y:=by
 rw[FU,decide_eq_false_iff_not] at *
 rcases ai.Qz x y with h|h|h
 ·exact absurd h h1
 ·exact h
 exact absurd h h2
variable [bE] in
theorem FV {vh:ah}{i n:Nat}{nl:Bool}{zs:List ai}(hg:vh.get i=some (.grow 5 (zs.map encS)))(hn:zs.length=n) :
  cR prog 117 [.grow i n nl,.func 118 [] []] vh fun r ak=>r=.bp []∧ak=vh.put i (.grow 5 ((zs.mergeSort kW).map encS)):=by
 have:=cR.Yz Lu (α:=ai) (k:=5) (by decide) (fun w=>isAgg48 w) (fun w=>sizeOf48 w) lS (fun _=>rfl) mB Lv Lx 118 call118 (fun x y w=>aM.cmp (a:=lS x) (b:=lS y) (@Lt bE.no x y) w) (vh:=vh) (i:=i) (n:=n) (nl:=nl) (zs:=zs) hg hn
 rw[Yy] at this
 exact this
abbrev kJ:Int:=1099511627776
theorem YA {p:aO→Bool}(l:List aO):∀ {o:lH} {k:Nat},nb o k→100*(k:Int)+100*(l.length:Int)+100≤kJ→(∀x∈l,0≤x.n∧x.n≤100)→l.foldl (ed p) (val kJ o)=val kJ (yW o (l.filter p)):=by
 generalize hF:kJ=F
 have QA:F=1099511627776:=hF.symm
 induction l with
 |nil=>exact fun _ _ _=>rfl
 |cons x r ih=>
  intro o k h hf hx
  have h1:=hx x List.mem_cons_self
  have QB:=fun y hy=>hx y (List.mem_cons_of_mem _ hy)
  simp only[List.length_cons] at hf
  have QC:100*((k+1:Nat):Int)+100*(r.length:Int)+100≤F:=by omega
  have hs:100*(k:Int)+100≤F:=by omega
  have hl:100*(k:Int)<F:=by omega
  rw[List.foldl_cons,List.filter_cons]
  cases hp:p x with
  |false=>
   have:ed p (val F o) x=val F o:=by unfold ed;rw[if_neg (by simp[hp])]
   rw[this]
   exact ih (h.mono (Nat.le_succ k)) QC QB
  |true=>
   have:ed p (val F o) x=val F (mm o x):=by
    unfold ed
    by_cases hv:val F o x.i x.j<F
    ·rw[if_pos ⟨by rw[← QA];exact hv,hp⟩,YB h hs h1.1 h1.2]
    rw[if_neg (fun hh=>hv (by rw[QA] at *;exact hh.1)),YC h hl hv]
   rw[this]
   exact ih (h.mm h1.1 h1.2) QC QB
theorem YD:bu (fun _ _=>(1099511627776:Int)) 0 0 0=val kJ start:=by
 funext a b
 unfold bu val start
 split<;>rfl
theorem YE {c:aq}(hr:Rt c)(p:aO→Bool):fwd c p=val kJ (mC ((graph c).filter p)):=by
 unfold fwd
 rw[YD]
 have:=Iu hr
 exact YA (graph c) nb.start (by simp only[kJ];omega) (QD hr)
theorem YF {c:aq}(hr:Rt c)(p:aO→Bool):nb (mC ((graph c).filter p)) 139258:=by
 have h:=(nb.foldl (l:=(graph c).filter p) nb.start fun x hx=>QD hr x (List.mem_filter.1 hx).1)
 refine h.mono ?_
 have h1:=Iu hr
 have h2:=List.length_filter_le p (graph c)
 omega
theorem YG {c:aq}(hr:Rt c):aZ c=val kJ (mC (graph c)):=by
 have:=YE hr fun _=>true
 rwa [List.filter_eq_self.2 fun _ _=>rfl] at this
theorem YH {c:aq}(hr:Rt c):nb (mC (graph c)) 139258:=by
 have:=YF hr fun _=>true
 rwa [List.filter_eq_self.2 fun _ _=>rfl] at this
theorem Iv {c:aq}:∀(l:List (Nat×Nat)) {D:Nat→Nat→Int} {i j:Nat},Rt c→(∀q∈l,¬(i=c.t.length - q.1∧j=c.c.length - q.2))→l.foldl (oq c) D i j=D i j
 |[],_,_,_,_,_=>rfl
 |q::r,D,i,j,hr,h=>by
  rw[List.foldl_cons,Iv r hr fun q' bZ=>h q' (List.mem_cons_of_mem _ bZ)]
  have hq:=h q List.mem_cons_self
  unfold oq
  split
  ·rfl
  have:∀(l:List aO) (D:Nat→Nat→Int),(∀x∈l,x.i=c.t.length - q.1∧x.j=c.c.length - q.2)→l.foldl iu D i j=D i j:=by
   intro l
   induction l with
   |nil=>exact fun _ _=>rfl
   |cons x r ih=>
    intro D hx
    rw[List.foldl_cons,ih _ fun y hy=>hx y (List.mem_cons_of_mem _ hy)]
    have:=hx x List.mem_cons_self
    unfold iu bu
    rw[if_neg (by rw[this.1,this.2];exact hq)]
  rw[this _ _ fun x hx=>⟨(jh hr hx).fi,(jh hr hx).fj⟩]
  unfold bu
  rw[if_neg hq]
theorem QE {i j:Nat}:∀(l:List aO) (D:Nat→Nat→Int),(∀x∈l,x.i=i∧x.j=j∧¬(x.i'=i∧x.j'=j))→l.foldl iu D i j=l.foldl (fun m x=>min m (D x.i' x.j'+x.n)) (D i j)
 |[],_,_=>rfl
 |x::r,D,h=>by
  obtain⟨h1,h2,h3⟩:=h x List.mem_cons_self
  rw[List.foldl_cons,QE r _ fun y hy=>h y (List.mem_cons_of_mem _ hy),List.foldl_cons]
  have e1:iu D x i j=min (D i j) (D x.i' x.j'+x.n):=by unfold iu bu;rw[h1,h2,if_pos ⟨rfl,rfl⟩]
  rw[e1]
  have:∀(l:List aO) (m:Int),(∀y∈l,¬(y.i'=i∧y.j'=j))→l.foldl (fun m y=>min m (iu D x y.i' y.j'+y.n)) m=l.foldl (fun m y=>min m (D y.i' y.j'+y.n)) m:=by
   intro l
   induction l with
   |nil=>exact fun _ _=>rfl
   |cons y r ih=>
    intro m hy
    rw[List.foldl_cons,List.foldl_cons,ih _ fun z hz=>hy z (List.mem_cons_of_mem _ hz)]
    have e2:iu D x y.i' y.j'=D y.i' y.j':=by unfold iu bu;rw[h1,h2,if_neg (hy y List.mem_cons_self)]
    rw[e2]
  exact this r _ fun y hy=>(h y (List.mem_cons_of_mem _ hy)).2.2
theorem DF {c:aq}(hr:Rt c):bwd c c.t.length c.c.length=0:=by
 obtain⟨r,hp⟩:=Lk c (Nat.zero_le _) (Nat.zero_le _)
 have hp:places c=(0,0)::r:=by rw[hp];rfl
 have hl:=Iw c
 rw[hp,List.pairwise_cons] at hl
 unfold bwd
 rw[hp,List.foldl_cons]
 have e0:oq c (bu (fun _ _=>1099511627776) c.t.length c.c.length 0) (0,0)=bu (fun _ _=>1099511627776) c.t.length c.c.length 0:=by unfold oq;rw[if_pos ⟨rfl,rfl⟩]
 rw[e0,Iv r hr fun q hq=>?_]
 ·unfold bu;rw[if_pos ⟨rfl,rfl⟩]
 have h1:=hl.1 q hq
 have h2:q∈places c:=by rw[hp];exact List.mem_cons_of_mem _ hq
 have h3:=xu.1 (show (q.1,q.2)∈places c from h2)
 unfold s8 at h1
 simp only at h1
 omega
theorem QF {c:aq}(hr:Rt c){i j:Nat}(hi:i≤c.t.length)(hj:j≤c.c.length)(he:¬(i=c.t.length∧j=c.c.length)) :
  bwd c i j=(steps c i j).foldl (fun m x=>min m (bwd c x.i' x.j'+x.n)) kJ:=by
 obtain⟨a,ha⟩:∃a,a=c.t.length - i:=⟨_,rfl⟩
 obtain⟨b,hb⟩:∃b,b=c.c.length - j:=⟨_,rfl⟩
 obtain⟨jS,hp⟩:=Lk c (i:=a) (j:=b) (by omega) (by omega)
 obtain⟨pre,Br⟩:∃pre,pre=mg (c.c.length+1) a b:=⟨_,rfl⟩
 rw[← Br] at hp
 have hl:=Iw c
 rw[hp,List.pairwise_append,List.pairwise_cons] at hl
 obtain⟨_,⟨js,_⟩,By⟩:=hl
 obtain⟨D,hD⟩:∃D,pre.foldl (oq c) (bu (fun _ _=>1099511627776) c.t.length c.c.length 0)=D:=⟨_,rfl⟩
 have gG:bwd c=jS.foldl (oq c) (oq c D (a,b)):=by unfold bwd;rw[hp,List.foldl_append,List.foldl_cons,hD]
 have cK:bwd c=((a,b)::jS).foldl (oq c) D:=gG
 have di:∀q∈jS,q.1≤c.t.length∧q.2≤c.c.length:=fun q hq=>xu.1 (show (q.1,q.2)∈places c by rw[hp];exact List.mem_append_right _ (List.mem_cons_of_mem _ hq))
 have h1:bwd c i j=oq c D (a,b) i j:=by
  rw[gG]
  refine Iv jS hr fun q hq=>?_
  have:=js q hq
  have:=di q hq
  unfold s8 at *
  simp only at *
  omega
 have jF:¬(a=0∧b=0):=by omega
 have ei:c.t.length - a=i:=by omega
 have ej:c.c.length - b=j:=by omega
 rw[h1]
 unfold oq
 rw[if_neg jF]
 simp only[ei,ej]
 have hx:∀x∈steps c i j,x.i=i∧x.j=j∧¬(x.i'=i∧x.j'=j):=fun x hx=>by
  have:=jh hr hx
  have h1:=this.uh;have h2:=this.ui;have h3:=this.on
  exact⟨this.fi,this.fj,by omega⟩
 rw[QE _ _ hx]
 have e0:bu D i j 1099511627776 i j=kJ:=by unfold bu;rw[if_pos ⟨rfl,rfl⟩]
 rw[e0]
 have:∀(l:List aO) (m:Int),(∀x∈l,x∈steps c i j)→l.foldl (fun m x=>min m (bu D i j 1099511627776 x.i' x.j'+x.n)) m=l.foldl (fun m x=>min m (bwd c x.i' x.j'+x.n)) m:=by
  intro l
  induction l with
  |nil=>exact fun _ _=>rfl
  |cons x r ih=>
   intro m hm
   rw[List.foldl_cons,List.foldl_cons,ih _ fun y hy=>hm y (List.mem_cons_of_mem _ hy)]
   have nX:=hm x List.mem_cons_self
   have ho:=jh hr nX
   have h1:=ho.uh;have h2:=ho.ui;have h3:=ho.on;have h4:=ho.it;have h5:=ho.jt
   have e1:bu D i j 1099511627776 x.i' x.j'=D x.i' x.j':=by unfold bu;rw[if_neg (hx x nX).2.2]
   have e2:bwd c x.i' x.j'=D x.i' x.j':=by
    rw[cK]
    refine Iv _ hr fun q hq=>?_
    rcases List.mem_cons.1 hq with rfl|hq
    ·simp only;omega
    have:=js q hq
    have:=di q hq
    unfold s8 at *
    simp only at *
    omega
   rw[e1,e2]
 exact this _ _ fun x hx=>hx
theorem QG {f:aO→Int}:∀(l:List aO) (m:Int),l.foldl (fun m x=>min m (f x)) m≤m∧∀x∈l,l.foldl (fun m x=>min m (f x)) m≤f x
 |[],m=>⟨Int.le_refl _,fun x hx=>by cases hx⟩
 |a::r,m=>by
  obtain⟨h1,h2⟩:=QG (f:=f) r (min m (f a))
  rw[List.foldl_cons]
  refine⟨by omega,fun x hx=>?_⟩
  rcases List.mem_cons.1 hx with rfl|hx
  ·omega
  exact h2 x hx
theorem QH {f:aO→Int}:∀(l:List aO) (m:Int),l.foldl (fun m x=>min m (f x)) m=m∨∃x∈l,l.foldl (fun m x=>min m (f x)) m=f x
 |[],m=>.inl rfl
 |a::r,m=>by
  rw[List.foldl_cons]
  rcases QH (f:=f) r (min m (f a)) with h|⟨x,hx,h⟩
  ·rw[h]
   rcases Int.le_total m (f a) with hm|hm
   ·exact .inl (by omega)
   exact .inr ⟨a,List.mem_cons_self,by omega⟩
  exact .inr ⟨x,List.mem_cons_of_mem _ hx,h⟩
theorem QI {c:aq}(hr:Rt c){i j:Nat}(hi:i<c.t.length)(hj:j≤c.c.length):(⟨i,j,i+1,j,c.om,some ⟨2,i,j,0,0⟩⟩:aO)∈steps c i j:=by
 unfold steps
 refine List.mem_append_right _ (List.mem_filterMap.2 ⟨⟨2,i,j,0,0⟩,?_,?_⟩)
 ·unfold kS;simp
 have hd:aR c ⟨2,i,j,0,0⟩=some (c.om,i+1,[]):=by
  unfold aR
  rw[if_pos (by simp;omega)]
  simp[hi]
 have hb:hasB c j []=true:=by unfold hasB;simp;exact hj
 unfold stepOf
 rw[hd]
 simp only[hb,if_true]
 rfl
theorem QJ {c:aq}(hr:Rt c){i j:Nat}(hi:i≤c.t.length)(hj:j<c.c.length):(⟨i,j,i,j+1,c.ad,some ⟨6,i,j,0,c.c.getD j 0⟩⟩:aO)∈steps c i j:=by
 have hw:eV (c.c.getD j 0)=true:=hr.YI _ (QK hj)
 unfold steps
 refine List.mem_append_right _ (List.mem_filterMap.2 ⟨⟨6,i,j,0,c.c.getD j 0⟩,?_,?_⟩)
 ·unfold kS;simp[hj]
 have hd:aR c ⟨6,i,j,0,c.c.getD j 0⟩=some (c.ad,i,[c.c.getD j 0]):=by
  unfold aR
  rw[if_pos (by simp;omega)]
  simp only[show ¬((6:Int)=1) by decide,show ¬((6:Int)=2) by decide,show ¬((6:Int)=3) by decide,show ¬((6:Int)=4) by decide,show ¬((6:Int)=5) by decide,if_false,if_true]
  rw[if_pos ⟨hw,by simp⟩,Int.toNat_natCast]
 have hb:hasB c j [c.c.getD j 0]=true:=by
  unfold hasB
  rw[bR,decide_eq_true_eq,decide_eq_true_eq]
  refine⟨by simp;omega,?_⟩
  rw[List.getD_eq_getElem?_getD,List.getElem?_eq_getElem hj]
  simp only[List.length_singleton,Option.getD_some]
  rw[List.drop_eq_getElem_cons hj,List.take_succ_cons,List.take_zero]
 unfold stepOf
 rw[hd]
 simp only[hb,if_true]
 rfl
theorem Ca {c:aq}{i j:Nat}{x:aO}(hi:i≤c.t.length)(hj:j≤c.c.length)(h:x∈steps c i j):x∈graph c:=FW.2 ⟨i,j,hi,hj,h⟩
theorem Cb {c:aq}(hr:Rt c){x:aO}(h:x∈graph c):x∈steps c x.i x.j∧x.i≤c.t.length∧x.j≤c.c.length:=by
 obtain⟨i,j,hi,hj,hx⟩:=FW.1 h
 have h1:=jh hr hx
 have e1:=h1.fi;have e2:=h1.fj
 subst e1;subst e2
 exact⟨hx,hi,hj⟩
theorem Ly {c:aq}(hr:Rt c){x:aO}(h:x∈graph c):bwd c x.i x.j≤bwd c x.i' x.j'+x.n:=by
 obtain⟨h1,h2,h3⟩:=Cb hr h
 have ho:=jh hr h1
 by_cases he:x.i=c.t.length∧x.j=c.c.length
 ·have:=ho.uh;have:=ho.ui;have:=ho.on;have:=ho.it;have:=ho.jt
  omega
 rw[QF hr h2 h3 he]
 exact(QG (f:=fun x=>bwd c x.i' x.j'+x.n) _ _).2 x h1
theorem Lz {c:aq}(hr:Rt c):∀(k i j:Nat),i≤c.t.length→j≤c.c.length→(c.t.length - i)+(c.c.length - j)=k→bwd c i j≤100*(k:Int)
 |0,i,j,hi,hj,hk=>by
  obtain rfl:i=c.t.length:=by omega
  obtain rfl:j=c.c.length:=by omega
  rw[DF hr];simp
 |k+1,i,j,hi,hj,hk=>by
  by_cases h:i<c.t.length
  ·have h1:=Ly hr (Ca hi hj (QI hr h hj))
   have h2:=Lz hr k (i+1) j (by omega) hj (by omega)
   have h3:=hr.om
   simp only at h1
   omega
  have mL:j<c.c.length:=by omega
  have h1:=Ly hr (Ca hi hj (QJ hr hi mL))
  have h2:=Lz hr k i (j+1) hi (by omega) (by omega)
  have h3:=hr.ad
  simp only at h1
  omega
theorem QL {c:aq}(hr:Rt c){i j:Nat}(hi:i≤c.t.length)(hj:j≤c.c.length)(he:¬(i=c.t.length∧j=c.c.length)):∃x∈steps c i j,bwd c i j=bwd c x.i' x.j'+x.n:=by
 have h1:=QF hr hi hj he
 rcases QH (f:=fun x=>bwd c x.i' x.j'+x.n) (steps c i j) kJ with h|⟨x,hx,h⟩
 ·exfalso
  rw[h] at h1
  have:=Lz hr _ i j hi hj rfl
  have:=hr.tl;have:=hr.cl
  simp only[kJ] at h1
  omega
 exact⟨x,hx,h1.trans h⟩
theorem LA {c:aq}(hr:Rt c):∀(k i j:Nat),i≤c.t.length→j≤c.c.length→(c.t.length - i)+(c.c.length - j)≤k→∃w,Way (graph c) i j c.t.length c.c.length (bwd c i j) w
 |0,i,j,hi,hj,hk=>by
  obtain rfl:i=c.t.length:=by omega
  obtain rfl:j=c.c.length:=by omega
  rw[DF hr];exact⟨[],.nil _ _⟩
 |k+1,i,j,hi,hj,hk=>by
  by_cases he:i=c.t.length∧j=c.c.length
  ·obtain⟨rfl,rfl⟩:=he
   rw[DF hr];exact⟨[],.nil _ _⟩
  obtain⟨x,hx,h⟩:=QL hr hi hj he
  have ho:=jh hr hx
  have h1:=ho.uh;have h2:=ho.ui;have h3:=ho.on;have h4:=ho.it;have h5:=ho.jt
  obtain⟨w,hw⟩:=LA hr k x.i' x.j' h4 h5 (by omega)
  refine⟨x::w,?_⟩
  have:=Way.cons x (Ca hi hj hx) hw
  rw[ho.fi,ho.fj] at this
  rw[h,Int.add_comm]
  exact this
theorem YJ {c:aq}(hr:Rt c){i j:Nat}{n:Int}{w:List aO}(h:Way (graph c) i j c.t.length c.c.length n w):bwd c i j≤n:=by
 have:∀ {i j a b:Nat} {n:Int} {w:List aO},Way (graph c) i j a b n w→bwd c i j≤bwd c a b+n:=by
  intro i j a b n w h
  induction h with
  |nil i j=>omega
  |cons x hx h ih=>have:=Ly hr hx;omega
 have:=this h
 rw[DF hr] at this
 omega
theorem LB {c:aq}(hr:Rt c):∀(k i j:Nat),i≤c.t.length→j≤c.c.length→i+j=k→∃n w,Way (graph c) 0 0 i j n w∧n≤100*(k:Int)
 |0,i,j,hi,hj,hk=>by
  obtain rfl:i=0:=by omega
  obtain rfl:j=0:=by omega
  exact⟨0,[],.nil 0 0,by simp⟩
 |k+1,i,j,hi,hj,hk=>by
  by_cases h:0<i
  ·obtain⟨a,rfl⟩:∃a,i=a+1:=⟨i - 1,by omega⟩
   obtain⟨n,w,hw,hn⟩:=LB hr k a j (by omega) hj (by omega)
   have hs:=Ca (by omega) hj (QI hr (show a<c.t.length by omega) hj)
   have h3:=hr.om
   exact⟨n+c.om,_,hw.snoc hs rfl rfl,by omega⟩
  obtain rfl:i=0:=by omega
  obtain⟨b,rfl⟩:∃b,j=b+1:=⟨j - 1,by omega⟩
  obtain⟨n,w,hw,hn⟩:=LB hr k 0 b hi (by omega) (by omega)
  have hs:=Ca hi (by omega) (QJ hr hi (show b<c.c.length by omega))
  have h3:=hr.ad
  exact⟨n+c.ad,_,hw.snoc hs rfl rfl,by omega⟩
theorem LC {c:aq}(hr:Rt c){i j:Nat}(hi:i≤c.t.length)(hj:j≤c.c.length):mC (graph c) i j=some (aZ c i j)∧0≤aZ c i j∧aZ c i j≤100*((i:Int)+j):=by
 obtain⟨n,w,hw,hn⟩:=LB hr _ i j hi hj rfl
 obtain⟨v,h1,h2⟩:=QM (QN hr) hw
 have h3:=YH hr i j v h1
 rw[YG hr,QO h1]
 exact⟨h1,h3.1,by omega⟩
theorem LD {c:aq}(hr:Rt c){i j:Nat}(hi:i≤c.t.length)(hj:j≤c.c.length):∃w,Way (graph c) 0 0 i j (aZ c i j) w:=YK (LC hr hi hj).1
theorem YL {c:aq}(hr:Rt c){i j a b:Nat}{n:Int}{w:List aO}(h:Way (graph c) i j a b n w):i≤c.t.length→j≤c.c.length→a≤c.t.length∧b≤c.c.length:=by
 induction h with
 |nil i j=>exact fun h1 h2=>⟨h1,h2⟩
 |cons x hx h ih=>exact fun _ _=>ih (jh hr (Cb hr hx).1).it (jh hr (Cb hr hx).1).jt
theorem Ix {c:aq}(hr:Rt c){i j:Nat}{n:Int}{w:List aO}(h:Way (graph c) 0 0 i j n w):aZ c i j≤n:=by
 obtain⟨hi,hj⟩:=YL hr h (Nat.zero_le _) (Nat.zero_le _)
 obtain⟨v,h1,h2⟩:=QM (QN hr) h
 rw[(LC hr hi hj).1] at h1
 injection h1 with h1
 omega
theorem YM {c:aq}(hr:Rt c){x:aO}(h:x∈graph c):aZ c x.i' x.j'≤aZ c x.i x.j+x.n:=by
 obtain⟨h1,h2,h3⟩:=Cb hr h
 obtain⟨w,hw⟩:=LD hr h2 h3
 exact Ix hr (hw.snoc h rfl rfl)
theorem QP {c:aq}(hr:Rt c):aZ c 0 0=0:=by
 have h1:=Ix hr (.nil 0 0)
 have h2:=(LC hr (Nat.zero_le _) (Nat.zero_le _)).2.1
 omega
def r5 (c:aq):Int:=aZ c c.t.length c.c.length
theorem LF {c:aq}(hr:Rt c):r5 c=bwd c 0 0:=by
 obtain⟨w,hw⟩:=LD hr (Nat.le_refl c.t.length) (Nat.le_refl c.c.length)
 have h1:=YJ hr hw
 obtain⟨w2,eP⟩:=LA hr _ 0 0 (Nat.zero_le _) (Nat.zero_le _) (Nat.le_refl _)
 have h2:=Ix hr eP
 unfold r5
 omega
theorem YN {c:aq}(hr:Rt c){i j:Nat}(hi:i≤c.t.length)(hj:j≤c.c.length):r5 c≤aZ c i j+bwd c i j:=by
 obtain⟨w,hw⟩:=LD hr hi hj
 obtain⟨w2,eP⟩:=LA hr _ i j hi hj (Nat.le_refl _)
 exact Ix hr (hw.append eP)
theorem QQ {c:aq}(hr:Rt c){i j:Nat}(hi:i≤c.t.length)(hj:j≤c.c.length)(he:¬(i=c.t.length∧j=c.c.length))(ht:aZ c i j+bwd c i j=r5 c):∃x∈steps c i j,iw c x=true:=by
 obtain⟨x,hx,h⟩:=QL hr hi hj he
 refine⟨x,hx,?_⟩
 have ho:=jh hr hx
 unfold iw
 rw[decide_eq_true_eq,ho.fi,ho.fj]
 show _=r5 c
 omega
theorem QR {c:aq}(hr:Rt c){x:aO}(h:x∈graph c)(ht:iw c x=true):aZ c x.i' x.j'+bwd c x.i' x.j'=r5 c:=by
 unfold iw at ht
 rw[decide_eq_true_eq] at ht
 have h1:=YM hr h
 obtain⟨h2,_,_⟩:=Cb hr h
 have h4:=YN hr (jh hr h2).it (jh hr h2).jt
 unfold r5 at *
 omega
def um (c:aq)(i j:Nat):Option aO:=(steps c i j).find? (iw c)
def Ao (c:aq):Nat→Nat→Nat→List aO
 |0,_,_=>[]
 |n+1,i,j=>match um c i j with
  |some x=>x::Ao c n x.i' x.j'
  |none=>[]
def yX (c:aq):List aO:=Ao c (c.t.length+c.c.length) 0 0
def lI (l:List aO):List ai:=l.filterMap (·.s)
def vI (c:aq):List ai:=lI (yX c)
theorem YO {c:aq}(hr:Rt c):steps c c.t.length c.c.length=[]:=by
 refine List.eq_nil_iff_forall_not_mem.2 fun x hx=>?_
 have h:=jh hr hx
 have:=h.uh;have:=h.ui;have:=h.on;have:=h.it;have:=h.jt
 omega
theorem LG {c:aq}(hr:Rt c):um c c.t.length c.c.length=none:=by unfold um;rw[YO hr];rfl
theorem LH {c:aq}{i j:Nat}{x:aO}(h:um c i j=some x):x∈steps c i j∧iw c x=true:=⟨List.mem_of_find?_eq_some h,List.find?_some h⟩
theorem YP {c:aq}{i j:Nat}{pre jS:List aO}{x:aO}(h:steps c i j=pre++x::jS)(hp:∀y∈pre,iw c y=false)(hx:iw c x=true):um c i j=some x:=by
 unfold um
 rw[h,List.find?_append,List.find?_eq_none.2 fun y hy=>by simp[hp y hy]]
 simp[hx]
theorem YQ {c:aq}(hr:Rt c){i j:Nat}(hi:i≤c.t.length)(hj:j≤c.c.length)(he:¬(i=c.t.length∧j=c.c.length))(ht:aZ c i j+bwd c i j=r5 c):um c i j≠none:=fun h=>by
 obtain⟨x,hx,h2⟩:=QQ hr hi hj he ht
 unfold um at h
 have:=List.find?_eq_none.1 h x hx
 exact this h2
theorem DG (c:aq)(n i j:Nat):Ao c (n+1) i j=match um c i j with|some x=>x::Ao c n x.i' x.j'|none=>[]:=rfl
theorem QS {c:aq}(hr:Rt c):∀(n m i j:Nat),i≤c.t.length→j≤c.c.length→(c.t.length - i)+(c.c.length - j)≤n→(c.t.length - i)+(c.c.length - j)≤m→Ao c n i j=Ao c m i j
 |0,0,_,_,_,_,_,_=>rfl
 |0,m+1,i,j,hi,hj,h1,h2=>by
  obtain rfl:i=c.t.length:=by omega
  obtain rfl:j=c.c.length:=by omega
  rw[DG,LG hr];rfl
 |n+1,0,i,j,hi,hj,h1,h2=>by
  obtain rfl:i=c.t.length:=by omega
  obtain rfl:j=c.c.length:=by omega
  rw[DG,LG hr];rfl
 |n+1,m+1,i,j,hi,hj,h1,h2=>by
  rw[DG,DG]
  cases hx:um c i j with
  |none=>rfl
  |some x=>
   have ho:=jh hr (LH hx).1
   have:=ho.uh;have:=ho.ui;have:=ho.on;have:=ho.it;have:=ho.jt
   simp only
   rw[QS hr n m x.i' x.j' ho.it ho.jt (by omega) (by omega)]
def Cc (c:aq)(i j:Nat):List aO:=Ao c ((c.t.length - i)+(c.c.length - j)) i j
theorem YR (c:aq):Cc c 0 0=yX c:=rfl
theorem YS (c:aq):Cc c c.t.length c.c.length=[]:=by unfold Cc;rw[Nat.sub_self,Nat.sub_self];rfl
theorem YT {c:aq}(hr:Rt c){i j:Nat}{x:aO}(hi:i≤c.t.length)(hj:j≤c.c.length)(h:um c i j=some x):Cc c i j=x::Cc c x.i' x.j':=by
 have ho:=jh hr (LH h).1
 have:=ho.uh;have:=ho.ui;have:=ho.on;have:=ho.it;have:=ho.jt
 obtain⟨n,hn⟩:∃n,(c.t.length - i)+(c.c.length - j)=n+1:=⟨(c.t.length - i)+(c.c.length - j) - 1,by omega⟩
 unfold Cc
 rw[hn,DG,h]
 simp only
 rw[QS hr n _ x.i' x.j' ho.it ho.jt (by omega) (Nat.le_refl _)]
theorem QT {c:aq}(hr:Rt c):∀(n i j:Nat),i≤c.t.length→j≤c.c.length→(c.t.length - i)+(c.c.length - j)≤n→aZ c i j+bwd c i j=r5 c→Way (graph c) i j c.t.length c.c.length (bwd c i j) (Ao c n i j)
 |0,i,j,hi,hj,hn,ht=>by
  obtain rfl:i=c.t.length:=by omega
  obtain rfl:j=c.c.length:=by omega
  rw[DF hr];exact .nil _ _
 |n+1,i,j,hi,hj,hn,ht=>by
  rw[DG]
  by_cases he:i=c.t.length∧j=c.c.length
  ·obtain⟨rfl,rfl⟩:=he
   rw[LG hr,DF hr];exact .nil _ _
  cases hx:um c i j with
  |none=>exact absurd hx (YQ hr hi hj he ht)
  |some x=>
   obtain⟨h1,h2⟩:=LH hx
   have ho:=jh hr h1
   have:=ho.uh;have:=ho.ui;have:=ho.on;have:=ho.it;have:=ho.jt
   have hg:=Ca hi hj h1
   have h3:=QR hr hg h2
   have hw:=Way.cons x hg (QT hr n x.i' x.j' ho.it ho.jt (by omega) h3)
   unfold iw at h2
   rw[decide_eq_true_eq,ho.fi,ho.fj] at h2
   rw[ho.fi,ho.fj] at hw
   have e:x.n+bwd c x.i' x.j'=bwd c i j:=by unfold r5 at ht;omega
   rwa [e] at hw
theorem YU {c:aq}(hr:Rt c):Way (graph c) 0 0 c.t.length c.c.length (r5 c) (yX c):=by
 have:=QT hr (c.t.length+c.c.length) 0 0 (Nat.zero_le _) (Nat.zero_le _) (by omega) (by rw[QP hr,LF hr];omega)
 rw[LF hr];exact this
theorem YV {c:aq}(hr:Rt c){i j a b:Nat}{n:Int}{w:List aO}(h:Way (graph c) i j a b n w):i+j+w.length≤a+b:=by
 induction h with
 |nil i j=>simp
 |cons x hx h ih=>
  have ho:=jh hr (Cb hr hx).1
  have:=ho.uh;have:=ho.ui;have:=ho.on
  rw[List.length_cons];omega
theorem YW (l:List aO):(lI l).length≤l.length:=List.length_filterMap_le _ _
theorem YX {c:aq}(hr:Rt c){n:Int}{w:List aO}(h:Way (graph c) 0 0 c.t.length c.c.length n w):(lI w).length≤96:=by
 have h1:=YV hr h
 have h2:=YW w
 have:=hr.tl;have:=hr.cl
 omega
theorem YY {c:aq}(hr:Rt c){i j:Nat}{x:aO}(h:x∈steps c i j) :
  (x=⟨i,j,i+1,j+1,0,none⟩∧i<c.t.length∧j<c.c.length∧c.t.getD i 0=c.c.getD j 0)∨
  ∃s n i' w,x=⟨i,j,i',j+w.length,n,some s⟩∧s∈kS c i j∧aR c s=some (n,i',w)∧hasB c j w=true:=by
 unfold steps at h
 rcases List.mem_append.1 h with h|h
 ·split at h
  ·rename_i hc
   rw[List.mem_singleton] at h
   exact .inl ⟨h,hc.1,hc.2.1,hc.2.2⟩
  cases h
 obtain⟨s,hs,he⟩:=List.mem_filterMap.1 h
 unfold stepOf at he
 split at he
 ·rename_i n i' w hd
  split at he
  ·rename_i hb
   injection he with he
   exact .inr ⟨s,n,i',w,he.symm,hs,hd,hb⟩
  cases he
 cases he
theorem QU (l m:List aO):lI (l++m)=lI l++lI m:=List.filterMap_append
theorem YZ {c:aq}{i j:Nat}{s:ai}(hs:s∈kS c i j):((stepOf c i j s).bind (·.s))=if lJ c s=true then some s else none:=by
 obtain⟨_,hi⟩:=DH hs
 unfold stepOf lJ
 cases aR c s with
 |none=>rfl
 |some y=>
  obtain⟨n,i',w⟩:=y
  simp only[hi,Int.toNat_natCast]
  split<;>rfl
theorem Y0 (c:aq)(i j:Nat):lI (steps c i j)=nc c i j:=by
 unfold steps nc
 rw[QU]
 have e1:lI (if i<c.t.length∧j<c.c.length∧c.t.getD i 0=c.c.getD j 0 then [(⟨i,j,i+1,j+1,0,none⟩:aO)] else [])=[]:=by split<;>rfl
 rw[e1,List.nil_append]
 unfold lI
 rw[List.filterMap_filterMap]
 have:∀l:List ai,(∀s∈l,s∈kS c i j)→l.filterMap (fun s=>(stepOf c i j s).bind (·.s))=l.filter (lJ c):=by
  intro l
  induction l with
  |nil=>exact fun _=>rfl
  |cons s r ih=>
   intro h
   rw[List.filterMap_cons,YZ (h s List.mem_cons_self),List.filter_cons]
   cases lJ c s with
   |true=>simp only[if_true];rw[ih fun x hx=>h x (List.mem_cons_of_mem _ hx)]
   |false=>simp only[Bool.false_eq_true,if_false];exact ih fun x hx=>h x (List.mem_cons_of_mem _ hx)
 exact this _ fun _ h=>h
theorem Y1 (c:aq)(l:List (Nat×Nat)):lI (l.flatMap fun p=>steps c p.1 p.2)=l.flatMap fun p=>nc c p.1 p.2:=by
 induction l with
 |nil=>rfl
 |cons p r ih=>rw[List.flatMap_cons,QU,Y0,ih,List.flatMap_cons]
theorem Y2 (c:aq):(lI (graph c)).Pairwise ai.lt:=by
 unfold graph
 rw[Y1,List.pairwise_flatMap]
 refine⟨fun p _=>(QV c p.1 p.2).filter _,(Iw c).imp fun {p q} h x hx y hy=>?_⟩
 obtain⟨a1,a2⟩:=DH (List.mem_filter.1 hx).1
 obtain⟨b1,b2⟩:=DH (List.mem_filter.1 hy).1
 unfold ai.lt
 unfold s8 at h
 omega
theorem Y3 {c:aq}{l:List aO}(h:l.Sublist (graph c)):(lI l).Pairwise ai.lt:=(Y2 c).sublist (h.filterMap _)
open Go Go.Am Go.Proofs Tryz
attribute [local simp] fx ie rS dS ig nD ah.back de gJ l8 bm Nat.testBit_eq_decide_div_mod_eq cF iX ny vO qE ja qF jw cW oX oV qB jb qC pI mW rR pH qD qv qq qw qt qu qz qA od fI kl fw qG oZ pK qH qI oc rP rQ iY nz gp fY gq lV hU pA oD oE jY qi bo pG fX bU bS l9 ah.get ah.alloc ah.put ah.drop ah.empty bh dm iF jP gI cB chunk List.range List.range.loop ma rT mX bz b9 PV.aB PV.aG PV.dy PV.fW jc jd pL PV.one PV.ids PV.cO gx beq_eq sJ tW
attribute [local simp] cQ bQ jf ua yR rY sR pQ gz fG
attribute [local simp ↓ high] vm tZ
def QW (c:aq)(s:ai):Bool:=!decide (uj c s<1099511627776)||decide (0<uj c s - aZ c c.t.length c.c.length)
def FX (c:aq)(x:aO):Bool:=match x.s with|some s=>QW c s|none=>false
def pX (q:aO→Bool)(d:List ai)(x:aO):List ai:=match x.s with|some s=>if q x then d++[s] else d|none=>d
def uo (c:aq)(q:aO→Bool):List ai:=(nL c).foldl (pX q) []
theorem QX (q:aO→Bool):∀(l:List aO) (d:List ai),l.foldl (pX q) d=d++lI (l.filter q)
 |[],d=>by simp[lI]
 |x::r,d=>by
  rw[List.foldl_cons,QX q r,List.filter_cons]
  unfold pX
  cases hs:x.s with
  |none=>
   cases hq:q x with
   |true=>simp[lI,hs]
   |false=>simp
  |some s=>
   cases hq:q x with
   |true=>simp[lI,hs]
   |false=>simp
theorem Y4 (c:aq)(q:aO→Bool):uo c q=lI ((nL c).filter q):=by unfold uo;rw[QX];rfl
theorem Y5 (c:aq)(q:aO→Bool):(uo c q).mergeSort kW=uo c q:=by
 rw[Y4]
 exact Y6 (Y3 (List.filter_sublist.trans List.filter_sublist))
theorem Y7 (q:aO→Bool)(d:List ai)(x:aO):(pX q d x).length≤d.length+1:=by
 unfold pX
 split
 ·split<;>simp
 exact Nat.le_succ _
theorem QY (q:aO→Bool):∀(l:List aO) (d:List ai),(l.foldl (pX q) d).length≤d.length+l.length
 |[],d=>Nat.le_refl _
 |x::r,d=>by
  rw[List.foldl_cons,List.length_cons]
  have h1:=QY q r (pX q d x)
  have h2:=Y7 q d x
  omega
theorem Y8 {c:aq}(hr:Rt c){pre jS:List aO}{x:aO}(h:nL c=pre++x::jS):pre.length<139258:=by
 have h1:=Iu hr
 have h2:(nL c).length≤(graph c).length:=List.length_filter_le _ _
 rw[h,List.length_append,List.length_cons] at h2
 omega
theorem QZ {x:aO}{s:ai}(h:x.s=some s):cP x=.agg [.int .i64 x.i,.int .i64 x.j,.int .i64 x.i',.int .i64 x.j',.int .i64 s.k,.int .i64 s.a,.int .i64 s.i,.int .i64 s.l,.int .i64 s.w,.int .i64 x.n,.bool false]:=by
 unfold cP;rw[h];rfl
theorem Q0 {x:aO}(h:x.s=none):cP x=.agg [.int .i64 x.i,.int .i64 x.j,.int .i64 x.i',.int .i64 x.j',.int .i64 0,.int .i64 0,.int .i64 0,.int .i64 0,.int .i64 0,.int .i64 x.n,.bool true]:=by
 unfold cP;rw[h];rfl
variable [bE] in
theorem LI (c:aq)(ps:List (Nat×Nat))(f:FuncId)(q:aO→Bool)(dM:∀cs w,(callFunc f cs).run prog w=.ok (.enter f cs) w)(n g:Nat)(d:List ai)(x:aO)(hn:900≤n)(hg:3<g)(xD:g<n)(hl:d.length<200000)(hp:∀s,x.s=some s→aM prog f [sZ c ps,cP x] fun r=>r=.bool (q x)):cR prog 141 [cP x,.ptr 1 0,.ptr 2 0,.ptr 3 0] ⟨n,[(3,.box [.grow g (d).length true]),(2,.box (bQ c (.az (a8 (places c) (aZ c))) (.az (a8 ps (bwd c))) (.int .i64 (aZ c c.t.length c.c.length)))),(1,.box [.func f [] []]),(0,.box (cQ c)),(g,.grow 5 ((d).map encS))]⟩ fun v ak=>∃g',(g'=g∨(n+2≤g'∧g'<ak.next))∧bD [(3,.box [.grow g' (pX q d x).length true]),(2,.box (bQ c (.az (a8 (places c) (aZ c))) (.az (a8 ps (bwd c))) (.int .i64 (aZ c c.t.length c.c.length)))),(1,.box [.func f [] []]),(0,.box (cQ c)),(g',.grow 5 ((pX q d x).map encS))] ak.be∧n≤ak.next∧jj n [(3,.box [.grow g (d).length true]),(2,.box (bQ c (.az (a8 (places c) (aZ c))) (.az (a8 ps (bwd c))) (.int .i64 (aZ c c.t.length c.c.length)))),(1,.box [.func f [] []]),(0,.box (cQ c)),(g,.grow 5 ((d).map encS))] [(3,.box [.grow g' (pX q d x).length true]),(2,.box (bQ c (.az (a8 (places c) (aZ c))) (.az (a8 ps (bwd c))) (.int .i64 (aZ c c.t.length c.c.length)))),(1,.box [.func f [] []]),(0,.box (cQ c)),(g',.grow 5 ((pX q d x).map encS))]:=by
  obtain⟨m,rfl⟩:∃m,n=m+900:=⟨n - 900,by omega⟩
  have g0:¬g=0:=by omega
  have g1:¬g=1:=by omega
  have g2:¬g=2:=by omega
  have g3:¬g=3:=by omega
  have h0:¬0=g:=by omega
  have h1:¬1=g:=by omega
  have h2:¬2=g:=by omega
  have h3:¬3=g:=by omega
  have gm:¬g=m+900:=by omega
  have gm1:¬g=m+900+1:=by omega
  have gm2:¬g=m+900+2:=by omega
  have hm:¬m+900=g:=by omega
  have pB:d.length≤4294967295:=by omega
  have xZ:∀s:ai,kG [PV.agg [.int .i64 s.k,.int .i64 s.a,.int .i64 s.i,.int .i64 s.l,.int .i64 s.w]]=true:=fun _=>rfl
  have nM:pX q d x=match x.s with|some s=>if q x then d++[s] else d|none=>d:=rfl
  have hE:∀s:ai,encS s=.agg [.int .i64 s.k,.int .i64 s.a,.int .i64 s.i,.int .i64 s.l,.int .i64 s.w]:=fun _=>rfl
  refine .bV func141 rfl rfl ?_
  rcases hs:x.s with _|s
  ·
    rw[hs] at nM
    simp only at nM
    rw[Q0 hs]
    refine .sr ?_
    refine .seq (.aD qJ rfl af (.rn dU _ ?_))
    refine .split (t:=8) rfl (fun c8=>?_) (fun c8=>?_)
    · try subst c8
      try simp at c8
    try subst c8
    try simp at c8
    refine .rn [4,5,6,7,8] [] ?_
    refine .done (.iM rfl (.skip ?_))
    refine⟨_,gj,g,.inl rfl,?_,by simp,?_⟩
    · rw[nM]
      exact bG
    rw[nM]
    exact kI
  ·
    rw[hs] at nM
    simp only at nM
    have hp:=hp s hs
    rw[s4] at hp
    rw[QZ hs] at hp ⊢
    obtain⟨b,hb⟩:∃b,q x=b:=⟨_,rfl⟩
    rw[hb] at hp nM
    refine .sr ?_
    refine .seq (.aD qJ rfl af (.rn dU _ ?_))
    refine .split (t:=8) rfl (fun c8=>?_) (fun c8=>?_)
    · try subst c8
      try simp at c8
      refine .rn [4,5,6] _ ?_
      refine .step rfl rfl (.pure rfl rfl rfl dM (by decide) (hp) (by first|rfl|simp[*]) ?_)
      rintro _ rfl
      refine .rn [8] [] ?_
      refine .done ?_
      refine .cs ?_ ?_<;>intro pW
      · try simp at pW
        refine .rn ?_
        subst pW
        first
        | (rw [if_pos rfl] at nM
           refine⟨_,gj,m+902,.inr ⟨by omega,by simp⟩,?_,by simp,?_⟩
           · rw[nM,List.length_append,List.map_append]
             simp only[List.map_cons,List.map_nil,List.length_cons,List.length_nil,hE]
             exact bG
           rw[nM]
           exact kI)
        | (rw [if_neg (by decide)] at nM
           refine⟨_,gj,g,.inl rfl,?_,by simp,?_⟩
           · rw[nM]
             exact bG
           rw[nM]
           exact kI)
      try simp at pW
      refine .skip ?_
      subst pW
      first
      | (rw [if_pos rfl] at nM
         refine⟨_,gj,m+902,.inr ⟨by omega,by simp⟩,?_,by simp,?_⟩
         · rw[nM,List.length_append,List.map_append]
           simp only[List.map_cons,List.map_nil,List.length_cons,List.length_nil,hE]
           exact bG
         rw[nM]
         exact kI)
      | (rw [if_neg (by decide)] at nM
         refine⟨_,gj,g,.inl rfl,?_,by simp,?_⟩
         · rw[nM]
           exact bG
         rw[nM]
         exact kI)
    try subst c8
    try simp at c8
theorem Y9 (c:aq)(ps:List (Nat×Nat))(f:FuncId)(d:List ai){n g:Nat}(hg:g=4∨(902≤g∧g<n)):∃g',(g'=4∨(902≤g'∧g'<1000))∧D9 [(3,.box [.grow g' (d).length true]),(2,.box (bQ c (.az (a8 (places c) (aZ c))) (.az (a8 ps (bwd c))) (.int .i64 (aZ c c.t.length c.c.length)))),(1,.box [.func f [] []]),(0,.box (cQ c)),(g',.grow 5 ((d).map encS))]∧∀i j:Nat,Wk 900 [(2,.ptr 900 0),(3,.ptr 901 0),(4,.int .i64 i),(11,.int .i64 ((c.t.length:Int)+1)),(12,.int .i64 i),(19,.int .i64 ((c.c.length:Int)+1)),(20,.int .i64 j)] ⟨n,(901,.box [.func 141 [] [.ptr 1 0,.ptr 2 0,.ptr 3 0]])::(900,.box (bQ c (.az (a8 (places c) (aZ c))) (.az (a8 ps (bwd c))) (.int .i64 (aZ c c.t.length c.c.length))))::[(3,.box [.grow g (d).length true]),(2,.box (bQ c (.az (a8 (places c) (aZ c))) (.az (a8 ps (bwd c))) (.int .i64 (aZ c c.t.length c.c.length)))),(1,.box [.func f [] []]),(0,.box (cQ c)),(g,.grow 5 ((d).map encS))]⟩ [(2,.ptr 900 0),(3,.ptr 901 0),(4,.int .i64 i),(11,.int .i64 ((c.t.length:Int)+1)),(12,.int .i64 i),(19,.int .i64 ((c.c.length:Int)+1)),(20,.int .i64 j)] ⟨1000,(901,.box [.func 141 [] [.ptr 1 0,.ptr 2 0,.ptr 3 0]])::(900,.box (bQ c (.az (a8 (places c) (aZ c))) (.az (a8 ps (bwd c))) (.int .i64 (aZ c c.t.length c.c.length))))::[(3,.box [.grow g' (d).length true]),(2,.box (bQ c (.az (a8 (places c) (aZ c))) (.az (a8 ps (bwd c))) (.int .i64 (aZ c c.t.length c.c.length)))),(1,.box [.func f [] []]),(0,.box (cQ c)),(g',.grow 5 ((d).map encS))]⟩:=by
 rcases hg with rfl|⟨hg,xD⟩
 ·exact⟨4,.inl rfl,⟨rfl,rfl⟩,fun i j=>Rec.wk (.mk [] [] FY FZ rfl rfl rfl)⟩
 have fV:∀X1 X0,(⟨n,(901,X1)::(900,X0)::[(3,.box [.grow g (d).length true]),(2,.box (bQ c (.az (a8 (places c) (aZ c))) (.az (a8 ps (bwd c))) (.int .i64 (aZ c c.t.length c.c.length)))),(1,.box [.func f [] []]),(0,.box (cQ c)),(g,.grow 5 ((d).map encS))]⟩:ah).get g=some (.grow 5 (d.map encS)):=fun X1 X0=>by
  simp[show ¬g=901 by omega,show ¬g=900 by omega,show ¬g=3 by omega,show ¬g=2 by omega,show ¬g=1 by omega,show ¬g=0 by omega]
 refine⟨902,.inr ⟨Nat.le_refl _,by decide⟩,⟨rfl,rfl⟩,fun i j=>Rec.wk (.mk [] [(902,g)] LJ (by refine⟨?_,?_,?_,?_,?_,?_,⟨⟨(aS rfl),.inr ⟨rfl,_,fV _ _,rfl⟩⟩,trivial⟩⟩<;>(refine⟨(aS rfl),.inr ⟨rfl,_,rfl,?_⟩⟩)<;>repeat' (first|exact trivial|exact Alt.dv aA.nil (aA.cons (Alt.ptr _ _ _ (aS rfl) rfl) (aA.cons (Alt.ptr _ _ _ (aS rfl) rfl) (aA.cons (Alt.ptr _ _ _ (aS rfl) rfl) aA.nil)))|refine And.intro (And.intro (aS rfl) (Or.inr (And.intro rfl (Exists.intro _ (And.intro rfl ?_))))) ?_|refine And.intro (And.intro (aS rfl) (Or.inl (Exists.intro _ (And.intro rfl (aS rfl))))) ?_|refine And.intro (And.intro (aS rfl) (Or.inl (Exists.intro _ (And.intro (congrArg (aI.grow _) (by simp[*])) (aS rfl))))) ?_|rfl|exact aA.nil|(refine congrArg (aI.grow _) ?_;simp[*];done)|(refine congrArg aI.map ?_;simp[*];done)|(refine congrArg (aI.arr _ _) ?_;simp[*];done)|refine pY.mk rfl rfl rfl rfl rfl ?_|refine And.intro (Exists.intro _ (And.intro rfl ?_)) ?_|refine aA.cons ?_ ?_|(refine Alt.same _ ?_;first|rfl|(simp[*];done))|exact Alt.aY _ _ (aS rfl) rfl|exact Alt.grow _ _ _ _ (aS rfl) rfl|(refine Alt.xE _ _ _ _ _ ?_ (aS rfl) rfl;simp[*];done)|exact Alt.ptr _ _ _ (aS rfl) rfl|exact Alt.own _ _ _ _ _ (aS rfl) rfl|exact Alt.sub _ _ _ _ (aS rfl) rfl|exact Alt.bN _ _ (aS rfl) rfl|exact Alt.aF _ _|(refine Alt.mD _ _ _ ?_;simp[*];done)|exact Alt.e0 _|exact Alt.dv aA.nil (aA.cons (Alt.ptr _ _ _ (aS rfl) rfl) aA.nil)|exact Alt.dJ|exact Alt.lK _ _ _|(refine Alt.bJ _ _ _ _ _ rfl rfl ?_;simp[*];done)|exact Alt.gM _ _ _ _ _ _ _ _ rfl rfl rfl|exact Alt.dz _ _ rfl rfl|(refine Alt.xF ?_;simp[*]<;>rfl)|(refine Alt.ofEq rfl ?_;simp[*];done))) ?_ rfl rfl)⟩
 simp[vJ,uq,Nat.beq_eq]
 omega
section
variable [bE]
theorem Q1 (c:aq)(f:FuncId)(q:aO→Bool)(hB:BC c)(dM:∀cs w,(callFunc f cs).run prog w=.ok (.enter f cs) w)(hp:bP c=0→∀ps x s,x.s=some s→aM prog f [sZ c ps,cP x] fun r=>r=.bool (q x)):aM prog 87 [aK c,.func f [] []] fun r=>et r (.bp [.vec ((if bP c=0 then uo c q else []).map encS),.int .i64 (bP c)]):=by
 have eE:=yE c hB
 have fP:=Al c
 have hC:dh c=(cQ c):=rfl
 obtain⟨e,he⟩:∃e,bP c=e:=⟨_,rfl⟩
 have eC:=he
 rw[he] at eE fP hp ⊢
 unfold aK at eE fP ⊢
 rw[hC] at eE fP ⊢
 refine .bV func87 rfl rfl ?_
 refine .sr ?_
 refine .seq (.seq (.aD [0,1,2] rfl af (.rn [0] _ ?_)))
 refine .pc rfl rfl rfl rfl rfl call55 (eE) ?_
 refine .rn [2] [] ?_
 refine .done (.sr ?_)
 refine .cs ?_ ?_<;>intro uk
 ·try simp at uk
  refine .sr ?_
  refine .ret (aH ?_)
  rw[if_neg uk];exact XK rfl
 try simp at uk
 subst uk
 have bq:=j7 eC
 refine .skip (.seq (.aD dU rfl af (.rn [0] _ ?_)))
 refine .step rfl rfl (.pure rfl rfl rfl call77 (by decide) (fP rfl) (by first|rfl|simp[*]) ?_)
 rintro _ ⟨ps,fE,rfl⟩
 have hp:=hp rfl ps
 have qZ:=yU c ps eC fE 141 [] [.ptr 1 0,.ptr 2 0,.ptr 3 0] call141 [(3,.box [.grow 4 (([]:List ai)).length true]),(2,.box (bQ c (.az (a8 (places c) (aZ c))) (.az (a8 ps (bwd c))) (.int .i64 (aZ c c.t.length c.c.length)))),(1,.box [.func f [] []]),(0,.box (cQ c)),(4,.grow 5 ((([]:List ai)).map encS))] (fun pre n L=>∃g,(g=4∨(902≤g∧g<n))∧L=[(3,.box [.grow g (pre.foldl (pX q) []).length true]),(2,.box (bQ c (.az (a8 (places c) (aZ c))) (.az (a8 ps (bwd c))) (.int .i64 (aZ c c.t.length c.c.length)))),(1,.box [.func f [] []]),(0,.box (cQ c)),(g,.grow 5 ((pre.foldl (pX q) []).map encS))]) ⟨4,.inl rfl,rfl⟩ (fun _ _ _ _ ⟨g,h1,h2⟩ h=>⟨g,by omega,h2⟩) (fun pre x jS n L im hn ⟨g,hg,hL⟩=>by
 subst hL
 have pB:=Y8 bq im
 have js:=QY q pre []
 exact(LI c ps f q dM n g _ x hn (by omega) (by omega) (by simp at js;omega) (hp x)).mono fun v ak ⟨g',hg',h2,h3,h4⟩=>⟨_,h2,h3,h4,g',by omega,by rw[List.foldl_append];rfl⟩) (fun pre n L ⟨g,hg,hL⟩ hn hd=>by
 subst hL
 obtain⟨g2,h1,h2,h3⟩:=Y9 c ps f (pre.foldl (pX q) []) hg
 exact⟨_,⟨g2,h1,rfl⟩,h2,h3⟩)
 rw[s4] at qZ ⊢
 refine .rn [2,3] [] ?_
 refine .done (.sr ?_)
 refine .seq (.aD [0,1,2] rfl af (.rn [0,1] _ ?_))
 refine .step rfl rfl (.s5 (ay:=[(2,.ptr 0 0),(3,.ptr 1 0),(7,.ptr 2 0),(8,.ptr 3 0),(16,.agg (bQ c (.az (a8 (places c) (aZ c))) (.az (a8 ps (bwd c))) (.int .i64 (aZ c c.t.length c.c.length)))),(17,.func 141 [] [.ptr 1 0,.ptr 2 0,.ptr 3 0])]) (aQ:=⟨900,[(3,.box [.grow 4 (([]:List ai)).length true]),(2,.box (bQ c (.az (a8 (places c) (aZ c))) (.az (a8 ps (bwd c))) (.int .i64 (aZ c c.t.length c.c.length)))),(1,.box [.func f [] []]),(0,.box (cQ c)),(4,.grow 5 ((([]:List ai)).map encS))]⟩) (.mk [] [] FY FZ rfl rfl rfl) (.call rfl rfl rfl call81 (by decide) (((qZ)).mono ?_)))
 rintro _ _ ⟨n,L,⟨g,hg,rfl⟩,rfl⟩
 have g0:¬g=0:=by omega
 have g1:¬g=1:=by omega
 have g2:¬g=2:=by omega
 have g3:¬g=3:=by omega
 have h3:¬3=g:=by omega
 have h2:¬2=g:=by omega
 have h1:¬1=g:=by omega
 have h0:¬0=g:=by omega
 obtain⟨d,hd⟩:∃d,(nL c).foldl (pX q) []=d:=⟨_,rfl⟩
 have j3:uo c q=d:=hd
 have oO:=Y5 c q
 rw[j3] at oO
 rw[hd]
 clear qZ hd
 refine .done (.seq (.aD [0,1] rfl af ?_))
 refine .rn [0] _ ?_
 refine .step rfl rfl (.call rfl rfl rfl call117 (by decide) (((FV (zs:=d) (i:=g) (nl:=true) (n:=d.length) (by simp[*]) rfl)).mono ?_))
 rintro _ _ ⟨rfl,rfl⟩
 rw[oO]
 refine .done (.sr ?_)
 refine .ret ?_
 refine⟨_,_,gj,(by simp[*]<;>rfl),?_⟩
 rw[if_pos rfl,j3];exact q7 (by simp[PV.aB,PV.aG])
theorem Za (c:aq)(hB:BC c):aM prog 26 [aK c] fun r=>et r (.bp [.vec ((if bP c=0 then uo c (FX c) else []).map encS),.int .i64 (bP c)]):=by
 have Cd:=aM.soft (Q1 c 88 (FX c) hB call88 (fun hk ps x s hs=>by
  rw[show FX c x=QW c s by unfold FX;rw[hs]]
  obtain⟨i,j,i',j',n,s0⟩:=x
  simp only at hs
  subst hs
  exact Yp c ps hk i j i' j' n s)) (by simp[PV.aB,PV.aG])
 have hC:dh c=(cQ c):=rfl
 unfold aK at Cd ⊢
 rw[hC] at Cd ⊢
 refine .bV func26 rfl rfl ?_
 refine .sr ?_
 refine .seq (.aD jR rfl af (.rn [0] _ ?_))
 refine .pc rfl rfl rfl rfl rfl call87 (Cd) ?_
 refine .rn [2,3,4,5] [] ?_
 refine .done (.ret (aH ?_))
 exact q7 (by simp[PV.aB,PV.aG])
theorem Zb (c:aq)(hB:BC c):aM prog 28 [aK c] fun r=>et r (.bp [.vec ((if bP c=0 then uo c (fun _=>true) else []).map encS),.int .i64 (bP c)]):=by
 have Cd:=aM.soft (Q1 c 94 (fun _=>true) hB call94 (fun hk ps x s hs=>Yq c ps x)) (by simp[PV.aB,PV.aG])
 have hC:dh c=(cQ c):=rfl
 unfold aK at Cd ⊢
 rw[hC] at Cd ⊢
 refine .bV func28 rfl rfl ?_
 refine .sr ?_
 refine .seq (.aD jR rfl af (.rn [0] _ ?_))
 refine .pc rfl rfl rfl rfl rfl call87 (Cd) ?_
 refine .rn [2,3,4,5] [] ?_
 refine .done (.ret (aH ?_))
 exact q7 (by simp[PV.aB,PV.aG])
end
def fK (n:Nat)(F:Nat→Bool):List PV:=(List.range n).map fun (i:Nat)=>PV.bool (F i)
@[simp] theorem Zc (n:Nat)(F:Nat→Bool):(fK n F).length=n:=by simp[fK,-List.range,-List.range.loop]
@[simp] theorem xaz (n:Nat)(F:Nat→Bool):(fK n F).all PV.one=true:=by simp[fK,PV.one]
@[simp] theorem z9f (n:Nat)(F:Nat→Bool):PV.aG (fK n F)=true:=by
 unfold fK
 generalize List.range n=l
 induction l with
 |nil=>rfl
 |cons a r ih=>simp only[List.map_cons,PV.aG,PV.aB,Bool.true_and];exact ih
theorem Iy (n:Nat)(F:Nat→Bool)(i:Nat)(h:i<n):(fK n F)[i]?=some (PV.bool (F i)):=by
 simp[fK,h,-List.range,-List.range.loop]
theorem Zd (n:Nat):List.replicate n (PV.bool false)=fK n fun _=>false:=by
 simp[fK,List.map_const',-List.range,-List.range.loop]
theorem Ze (n:Nat)(F:Nat→Bool)(i:Nat)(h:i<n):(fK n F)[i]'(by simpa using h)=PV.bool (F i):=by
 have:=Iy n F i h
 rw[List.getElem?_eq_getElem (by simpa using h)] at this
 injection this
def pa (F:Nat→Bool)(x:aO):Nat→Bool:=fun i=>F i||(x.s.isNone&&decide (x.i=i))
theorem Zf (n:Nat)(F:Nat→Bool)(i:Nat)(h:i<n):(fK n F).take i++PV.bool true::(fK n F).drop (i+1)=fK n (fun j=>F j||decide (i=j)):=by
 refine List.ext_getElem? fun j=>?_
 by_cases hj:j<n
 ·rw[Iy n _ j hj,List.getElem?_append]
  simp only[List.length_take,Zc,Nat.min_eq_left (Nat.le_of_lt h)]
  by_cases h1:j<i
  ·rw[if_pos h1,List.getElem?_take_of_lt h1,Iy n _ j hj]
   simp[show ¬i=j by omega]
  rw[if_neg h1]
  by_cases h2:j=i
  ·subst h2;simp
  rw[show j - i=(j - i - 1)+1 by omega,List.getElem?_cons_succ,List.getElem?_drop,show i+1+(j - i - 1)=j by omega,Iy n _ j hj]
  simp[show ¬i=j by omega]
 rw[List.getElem?_eq_none (by simp;omega),List.getElem?_eq_none (by simp;omega)]
def Ce (c:aq):Nat→Bool:=(nL c).foldl pa fun _=>false
def DI (c:aq)(i:Nat):Int:=fwd c (fun x=>!decide (x.s=none∧x.i=i)) c.t.length c.c.length
def DJ (c:aq)(i:Nat):Bool:=Bool.or (!decide (DI c i<1099511627776)) (decide (0<DI c i - aZ c c.t.length c.c.length))
def ur (c:aq):Nat→List Int
 |0=>[]
 |k+1=>ur c k++if Ce c k=true then [(k:Int)] else []
def uu (c:aq):Nat→List Int
 |0=>[]
 |k+1=>uu c k++if Ce c k=true∧DJ c k=true then [(k:Int)] else []
theorem Q2 (c:aq):∀k,(ur c k).length≤k
 |0=>Nat.le_refl _
 |k+1=>by have:=Q2 c k;unfold ur;rw[List.length_append];split<;>simp<;>omega
theorem Q3 (c:aq):∀k,(uu c k).length≤k
 |0=>Nat.le_refl _
 |k+1=>by have:=Q3 c k;unfold uu;rw[List.length_append];split<;>simp<;>omega
theorem Zg {c:aq}(hr:Rt c){x:aO}(h:x∈graph c)(hs:x.s=none):x.i<c.t.length:=by
 obtain⟨h1,h2,h3⟩:=Cb hr h
 rcases YY hr h1 with⟨_,h,_⟩|⟨s,n,i',w,e,_⟩
 ·exact h
 rw[e] at hs;cases hs
section
variable [bE]
theorem Zh (c:aq)(ps:List (Nat×Nat))(n:Nat)(F:Nat→Bool)(x:aO)(hn:900≤n)(hl:c.t.length≤48)(hx:x.s=none→x.i<c.t.length):cR prog 82 [cP x,.ptr 3 0] ⟨n,[(3,.box [.own 2 0 c.t.length c.t.length]),(2,.arr false 1 (fK c.t.length (F))),(1,.box (bQ c (.az (a8 (places c) (aZ c))) (.az (a8 ps (bwd c))) (.int .i64 (aZ c c.t.length c.c.length)))),(0,.box (cQ c))]⟩ fun v ak=>bD [(3,.box [.own 2 0 c.t.length c.t.length]),(2,.arr false 1 (fK c.t.length (pa F x))),(1,.box (bQ c (.az (a8 (places c) (aZ c))) (.az (a8 ps (bwd c))) (.int .i64 (aZ c c.t.length c.c.length)))),(0,.box (cQ c))] ak.be∧n≤ak.next:=by
 obtain⟨m,rfl⟩:∃m,n=m+900:=⟨n - 900,by omega⟩
 refine .bV func82 rfl rfl ?_
 rcases hs:x.s with _|s
 ·
  have hx:=hx hs
  rw[Q0 hs]
  have Q4:x.i+1≤c.t.length:=hx
  have lL:=Zf c.t.length F x.i hx
  have hG:pa F x=fun j=>F j||decide (x.i=j):=by unfold pa;rw[hs];rfl
  refine .sr ?_
  refine .sr ?_
  refine .cs ?_ ?_<;>intro c4
  ·try simp at c4
   refine .rn ?_
   refine⟨_,gj,?_,by simp⟩
   rw[hG]
   exact bG
  try simp at c4
 ·
  rw[QZ hs]
  have hG:pa F x=F:=by funext i;unfold pa;rw[hs];simp
  refine .sr ?_
  refine .sr ?_
  refine .cs ?_ ?_<;>intro c4
  ·try simp at c4
  try simp at c4
  refine .skip ?_
  refine⟨_,gj,?_,by simp⟩
  rw[hG]
  exact bG
theorem Zi (c:aq)(hB:BC c):aM prog 22 [aK c] fun r=>et r (.bp [ints (if bP c=0 then uu c c.t.length else []),ints (if bP c=0 then ur c c.t.length else []),.int .i64 (bP c)]):=by
 have eE:=yE c hB
 have fP:=Al c
 have hC:dh c=(cQ c):=rfl
 obtain⟨e,he⟩:∃e,bP c=e:=⟨_,rfl⟩
 have eC:=he
 rw[he] at eE fP ⊢
 unfold aK at eE fP ⊢
 rw[hC] at eE fP ⊢
 have s9:=Zd c.t.length
 have Lb:uu c 0=[]:=rfl
 have hS0:ur c 0=[]:=rfl
 refine .bV func22 rfl rfl ?_
 refine .sr ?_
 refine .seq (.seq (.aD [0,1,2] rfl af (.rn [0] _ ?_)))
 refine .pc rfl rfl rfl rfl rfl call55 (eE) ?_
 refine .rn [2] [] ?_
 refine .done (.sr ?_)
 refine .cs ?_ ?_<;>intro gW
 ·try simp at gW
  refine .sr ?_
  refine .ret (aH ?_)
  rw[if_neg gW,if_neg gW];exact BT (.cons .dJ (.cons .dJ (.cons (.same _ rfl) .nil)))
 try simp at gW
 subst gW
 have bq:=j7 eC
 have o4:=bq.tl
 have Zj:c.t.length≤4294967296:=by omega
 have Zk:(c.t.length:Int)≤4294967296:=by omega
 refine .skip (.seq (.aD dU rfl af (.rn [0] _ ?_)))
 refine .step rfl rfl (.pure rfl rfl rfl call77 (by decide) (fP rfl) (by first|rfl|simp[*]) ?_)
 rintro _ ⟨ps,fE,rfl⟩
 have qZ:=yU c ps eC fE 82 [] [.ptr 3 0] call82 [(3,.box [.own 2 0 c.t.length c.t.length]),(2,.arr false 1 (fK c.t.length (fun _=>false))),(1,.box (bQ c (.az (a8 (places c) (aZ c))) (.az (a8 ps (bwd c))) (.int .i64 (aZ c c.t.length c.c.length)))),(0,.box (cQ c))] (fun pre n L=>L=[(3,.box [.own 2 0 c.t.length c.t.length]),(2,.arr false 1 (fK c.t.length (pre.foldl pa fun _=>false))),(1,.box (bQ c (.az (a8 (places c) (aZ c))) (.az (a8 ps (bwd c))) (.int .i64 (aZ c c.t.length c.c.length)))),(0,.box (cQ c))]) rfl (fun _ _ _ _ h _=>h) (fun pre x jS n L im hn hL=>by
 subst hL
 exact(Zh c ps n _ x hn o4 (Zg bq (List.mem_filter.1 (show x∈nL c by rw[im];simp)).1)).mono fun v ak ⟨h2,h3⟩=>⟨_,h2,h3,kI,by rw[List.foldl_append];rfl⟩) (fun pre n L hL hn hd=>by
 subst hL
 exact⟨_,rfl,⟨rfl,rfl⟩,fun i j=>Rec.wk bx⟩)
 rw[s4] at qZ ⊢
 refine .rn [2,3] [] ?_
 refine .done (.sr ?_)
 refine .seq (.aD [0,1,2] rfl af (.rn [0,1] _ ?_))
 refine .step rfl rfl (.s5 (ay:=[(6,.ptr 1 0),(7,.ptr 3 0),(25,.agg (bQ c (.az (a8 (places c) (aZ c))) (.az (a8 ps (bwd c))) (.int .i64 (aZ c c.t.length c.c.length)))),(26,.func 82 [] [.ptr 3 0])]) (aQ:=⟨900,[(3,.box [.own 2 0 c.t.length c.t.length]),(2,.arr false 1 (fK c.t.length (fun _=>false))),(1,.box (bQ c (.az (a8 (places c) (aZ c))) (.az (a8 ps (bwd c))) (.int .i64 (aZ c c.t.length c.c.length)))),(0,.box (cQ c))]⟩) bx (.call rfl rfl rfl call81 (by decide) (((qZ)).mono ?_)))
 rintro _ _ ⟨n,L,rfl,rfl⟩
 rw[show (nL c).foldl pa (fun _=>false)=Ce c from rfl]
 clear qZ
 refine .done (.sr ?_)
 refine .seq (.sr ?_)
 refine .block ?_
 refine .dF (fun k:Nat=>([(6,.ptr 1 0),(8,.grow 4 (uu c k).length true),(9,.grow 5 (ur c k).length true),(28,.own 2 0 c.t.length c.t.length),(29,.int .i64 c.t.length),(30,.int .i64 k)],⟨6,[(5,.grow 1 ((ur c k).map (.int .i64))),(4,.grow 1 ((uu c k).map (.int .i64))),(2,.arr false 1 (fK c.t.length (Ce c))),(1,.box (bQ c (.az (a8 (places c) (aZ c))) (.az (a8 ps (bwd c))) (.int .i64 (aZ c c.t.length c.c.length))))]⟩)) (fun k=>k≤c.t.length) (fun k=>c.t.length - k) 0 (by simp) bx ?_
 rintro k hk
 simp only at hk ⊢
 refine .sr ?_
 refine .seq ?_
 refine .cs ?_ ?_<;>intro ta
 ·try simp at ta
  have fD:k<c.t.length:=by omega
  have eP:=fy k
  have mP:=Ze c.t.length (Ce c) k fD
  have pB:=Q2 c k
  have js:=Q3 c k
  have By:(ur c k).length+1≤4294967296:=by omega
  have Zl:(uu c k).length+1≤4294967296:=by omega
  have Zm:(ur c k).length≤4294967295:=by omega
  have hl6:(uu c k).length≤4294967295:=by omega
  have Ap:ur c (k+1)=ur c k++if Ce c k=true then [(k:Int)] else []:=rfl
  have pT:uu c (k+1)=uu c k++if Ce c k=true∧DJ c k=true then [(k:Int)] else []:=rfl
  have xZ:kG [PV.int .i64 (k:Int)]=true:=rfl
  have ot:=Lj c ps (fun x=>decide (x.s=none∧x.i=k)) 84 [] [.vp [.int .i64 k]] eC rfl (by simp[PV.aG,PV.aB]) call84 (fun x=>Yo k x)
  rw[show fwd c (fun x=>!decide (x.s=none∧x.i=k)) c.t.length c.c.length=DI c k from rfl,s4] at ot
  have nZ:DJ c k=Bool.or (!decide (DI c k<1099511627776)) (decide (0<DI c k - aZ c c.t.length c.c.length)):=rfl
  obtain⟨wo,DE⟩:∃w,DI c k=w:=⟨_,rfl⟩
  rw[DE] at ot nZ
  obtain⟨lt,aU⟩:∃b,decide (wo<1099511627776)=b:=⟨_,rfl⟩
  rw[aU] at ot nZ
  obtain⟨df,Zn⟩:∃d,wo - aZ c c.t.length c.c.length=d:=⟨_,rfl⟩
  rw[Zn] at ot nZ
  refine .skip (.seq (.block (.sr ?_)))
  refine .seq (.sr ?_)
  refine .cs ?_ ?_<;>intro lE
  ·try simp at lE
   rw[lE] at Ap pT
   simp only[Bool.false_eq_true,false_and,if_false,List.append_nil] at Ap pT
   refine .exit (.rn ?_)
   refine⟨k+1,bt,bt,by rw[Ap,pT];exact bx⟩
  try simp at lE
  rw[lE] at Ap pT
  simp only[true_and,if_true] at Ap pT
  refine .skip (.sr ?_)
  refine .seq (.aD lF rfl af (.rn [0,1] _ ?_))
  refine .step rfl rfl (.borrow rfl rfl rfl call83 (by decide) (by first|(simp<;>rfl)|(simp[*]<;>rfl)|(simp[*];done)) (ot) (by rintro _ rfl<;>first|(simp;done)|rfl) ?_)
  rintro _ rfl
  refine .rn [3,4,5,6,7] [] ?_
  refine .done (.seq (.aD jR rfl af ?_))
  refine .rn [0,1,2] _ ?_
  refine .split (t:=49) rfl (fun nH=>?_) (fun nH=>?_)
  ·try subst nH
   try simp at nH
   refine .rn [3,4,5] [] ?_
   refine .done (.eK rfl (.rn ?_))
   refine .rn ?_
   have F0:DJ c k=true:=by rw[nZ];simp[*]
   rw[if_pos F0] at pT
   refine⟨k+1,bt,bt,by rw[Ap,pT];exact(.mk [] [(4,10),(5,8)] gK il rfl rfl rfl)⟩
  try subst nH
  try simp at nH
  refine .rn [3,4,5] [] ?_
  refine .done ?_
  refine .cs ?_ ?_<;>intro Aq
  ·try simp at Aq
   refine .rn ?_
   refine .rn ?_
   have F0:DJ c k=true:=by rw[nZ];simp[*]
   rw[if_pos F0] at pT
   refine⟨k+1,bt,bt,by rw[Ap,pT];exact(.mk [] [(4,10),(5,8)] gK il rfl rfl rfl)⟩
  try simp at Aq
  refine .skip (.rn ?_)
  have F0:¬DJ c k=true:=by rw[nZ];simp[*]
  rw[if_neg F0,List.append_nil] at pT
  refine⟨k+1,bt,bt,by rw[Ap,pT];exact(.mk [] [(5,8)] gK il rfl rfl rfl)⟩
 try simp at ta
 obtain rfl:k=c.t.length:=by omega
 refine .exit (.sr ?_)
 refine .ret (aH ?_)
 simp only[if_true];exact q7 (by simp[PV.aB,PV.aG])
end
theorem Iz (w:List Int):(w=[]∧eW w=.aF)∨eW w=ints w:=by
 cases w with
 |nil=>exact .inl ⟨rfl,rfl⟩
 |cons a r=>exact .inr rfl
theorem F1 (c:aq)(s:ai)(r:List ai)(out:List Int)(i:Nat)(sum:Int):yY c (s::r) out i sum=if (i:Int)≤s.a∧s.a≤(c.t.length:Int) then
  match aR c s with
  |some (n,i',w)=>if s.i=((out++(c.t.drop i).take (s.a.toNat - i)).length:Int) then yY c r (out++(c.t.drop i).take (s.a.toNat - i)++w) i' (sum+n) else none
  |none=>none
 else none:=rfl
theorem Q5 (c:aq)(out:List Int)(i:Nat)(sum:Int):yY c [] out i sum=some (out++c.t.drop i,sum):=rfl
theorem Q6 {c:aq}(hr:Rt c):∀(l:List ai) (out:List Int) (i:Nat) (sum:Int) {o:List Int} {m:Int},yY c l out i sum=some (o,m)→o.length≤out.length+96*l.length+48∧sum≤m∧m≤sum+100*(l.length:Int)
 |[],out,i,sum,o,m,h=>by
  rw[Q5] at h
  injection h with h;injection h with h1 h2
  subst h1;subst h2
  have:=hr.tl
  simp only[List.length_append,List.length_drop,List.length_nil]
  omega
 |s::r,out,i,sum,o,m,h=>by
  rw[F1] at h
  split at h
  ·split at h
   ·rename_i n i' w hd
    split at h
    ·obtain⟨e1,e2,e3⟩:=Q6 hr r _ _ _ h
     obtain⟨d1,d2,d3,d4,d5,d6⟩:=mf hr hd
     have:=hr.tl
     simp only[List.length_append,List.length_take,List.length_drop,List.length_cons] at e1 ⊢
     omega
    cases h
   cases h
  cases h
theorem Q7 {c:aq}(hr:Rt c){l:List ai}{o:List Int}{m:Int}(h:iy c l=some (o,m)):o.length≤96*l.length+48∧0≤m∧m≤100*(l.length:Int):=by
 have:=Q6 hr l [] 0 0 h
 simp only[List.length_nil] at this
 omega
structure WI (c:aq) (l:List ai) (k:Nat) (out:List Int) (i:Nat) (sum:Int):Prop where
  hk:k≤l.length
  hw:yY c (l.drop k) out i sum=iy c l
  hi:i≤c.t.length
  h0:0≤sum
  h1:sum≤100*(k:Int)
  ho:out.length≤96*k
theorem WI.start (c:aq)(l:List ai):WI c l 0 [] 0 0:=⟨Nat.zero_le _,rfl,Nat.zero_le _,by decide,by simp,by simp⟩
theorem WI.bad {c:aq}{l:List ai}{k:Nat}{out:List Int}{i:Nat}{sum:Int}(h:WI c l k out i sum){s:ai}(hs:l[k]?=some s)(hn:¬((i:Int)≤s.a∧s.a≤(c.t.length:Int))∨aR c s=none∨s.i≠((out++(c.t.drop i).take (s.a.toNat - i)).length:Int)):iy c l=none:=by
 obtain⟨hk,rfl⟩:=List.getElem?_eq_some_iff.1 hs
 rw[← h.hw,List.drop_eq_getElem_cons hk,F1]
 rcases hn with h1|h1|h1
 ·rw[if_neg h1]
 ·split<;>simp[h1]
 split
 ·cases aR c l[k] with
  |none=>rfl
  |some y=>obtain⟨n,i',w⟩:=y;simp[h1]
 rfl
theorem WI.next {c:aq}(hr:Rt c){l:List ai}{k:Nat}{out:List Int}{i:Nat}{sum:Int}(h:WI c l k out i sum){s:ai}(hs:l[k]?=some s){n:Int}{i':Nat}{w:List Int}(h1:(i:Int)≤s.a∧s.a≤(c.t.length:Int))(hd:aR c s=some (n,i',w))(h2:s.i=((out++(c.t.drop i).take (s.a.toNat - i)).length:Int)) :
  WI c l (k+1) (out++(c.t.drop i).take (s.a.toNat - i)++w) i' (sum+n):=by
 obtain⟨hk,rfl⟩:=List.getElem?_eq_some_iff.1 hs
 obtain⟨d1,d2,d3,d4,d5,d6⟩:=mf hr hd
 have e0:=h.h0;have e1:=h.h1;have e2:=h.ho
 have o4:=hr.tl
 refine⟨hk,?_,d4,by omega,by rw[Int.natCast_add];omega,?_⟩
 ·rw[← h.hw,List.drop_eq_getElem_cons hk,F1,if_pos h1,hd]
  simp only
  rw[if_pos h2]
 simp only[List.length_append,List.length_take,List.length_drop]
 omega
theorem WI.stop {c:aq}{l:List ai}{out:List Int}{i:Nat}{sum:Int}(h:WI c l l.length out i sum):iy c l=some (out++c.t.drop i,sum):=by
 rw[← h.hw,List.drop_length,Q5]
def xG (c:aq)(l:List ai):PV:=match iy c l with
 |some (o,n)=>.bp [ints o,.int .i64 n,.bool true]
 |none=>.bp [ints [],.int .i64 0,.bool false]
theorem LK {a b:PV}(ha:a.aB=true)(hb:b.aB=true):et (.bp [.aF,a,b]) (.bp [.vec [],a,b]):=BT (.cons .dJ (.cons (.same _ ha) (.cons (.same _ hb) .nil)))
theorem Q8 (c:aq)(l:List ai):(xG c l).aB=true:=by
 unfold xG
 split<;>simp[PV.aB,PV.aG]
section
variable [bE]
theorem F2 (c:aq)(l:List ai)(hk:bP c=0)(fa:l.length≤200):aM prog 110 [aK c,.vec (l.map encS)] fun r=>et r (xG c l):=by
 have bq:=j7 hk
 have o4:=bq.tl
 have hC:dh c=(cQ c):=rfl
 have hE:∀s:ai,encS s=.agg [.int .i64 s.k,.int .i64 s.a,.int .i64 s.i,.int .i64 s.l,.int .i64 s.w]:=fun _=>rfl
 have db:=fun s=>Ff c s hk
 have jx:=fun a i:Int=>vg a i (c.t.length:Int)
 have xC:=WI.start c l
 unfold aK at db ⊢
 rw[hC] at db ⊢
 have vv:iy c l=none→xG c l=.bp [.vec [],.int .i64 0,.bool false]:=fun h=>by unfold xG;rw[h];rfl
 refine .bV func110 rfl rfl ?_
 refine .sr ?_
 refine .sr ?_
 refine .sr ?_
 refine .seq (.sr ?_)
 refine .block ?_
 refine .dF (fun z:Nat×List Int×Nat×Int=>([(2,.ptr 0 0),(7,.grow 1 z.2.1.length true),(8,.int .i64 z.2.2.1),(9,.int .i64 z.2.2.2),(16,.vec (l.map encS)),(17,.int .i64 l.length),(18,.int .i64 z.1)],⟨2,[(1,.grow 1 (z.2.1.map (.int .i64))),(0,.box (cQ c))]⟩)) (fun z=>WI c l z.1 z.2.1 z.2.2.1 z.2.2.2) (fun z=>l.length - z.1) (0,[],0,0) xC bx ?_
 clear xC
 rintro⟨k,out,i,sum⟩ hI
 simp only at hI ⊢
 have fD:=hI.hk
 have cT:=hI.hi
 have x9:=hI.h0
 have rK:=hI.h1
 have A4:=hI.ho
 refine .sr ?_
 refine .seq ?_
 refine .cs ?_ ?_<;>intro jJ
 ·try simp at jJ
  have eP:=fy k
  have fA:k<l.length:=by omega
  obtain⟨s,hs⟩:∃s,l[k]?=some s:=⟨l[k],List.getElem?_eq_getElem fA⟩
  have ft:l[k]=s:=(List.getElem?_eq_some_iff.1 hs).2
  have jx:=jx s.a i
  obtain⟨wi,eD⟩:∃b,(decide ((i:Int)≤s.a)&&decide (s.a≤(c.t.length:Int)))=b:=⟨_,rfl⟩
  rw[eD] at jx
  have db:=db s
  rw[hE] at db
  refine .skip (.seq (.block (.sr ?_)))
  refine .seq (.seq (.aD lF rfl af (.rn jR _ ?_)))
  refine .pc rfl rfl rfl rfl rfl call85 (jx) ?_
  refine .rn [7] [] ?_
  refine .done ?_
  refine .cs ?_ ?_<;>intro xH
  ·try simp at xH
   have hb:=hI.bad hs (.inl (fun hh=>by rw[xH] at eD;simp[hh.1,hh.2] at eD))
   refine .sr ?_
   refine .ret (aH ?_)
   rw[vv hb];exact LK rfl rfl
  try simp at xH
  have di:(i:Int)≤s.a∧s.a≤(c.t.length:Int):=by rw[xH] at eD;simpa using eD
  obtain⟨a,ha⟩:∃a:Nat,s.a=a:=⟨s.a.toNat,by omega⟩
  have oR:s.a.toNat=a:=by omega
  have qP:i≤a:=by omega
  have ef:a≤c.t.length:=by omega
  have fL:=@WI.bad c l k out i sum hI s hs
  have eU:=@WI.next c bq l k out i sum hI s hs
  rw[oR] at fL eU
  have iz:(a:Int)≤(c.t.length:Int):=by omega
  have LM:(i:Int)≤(a:Int):=by omega
  rw[ha] at db
  have aU:((c.t.drop i).take (a - i)).length=a - i:=by rw[List.length_take,List.length_drop];omega
  have oH:List.take (a - i) (List.drop i (c.t.map (PV.int .i64)))=((c.t.drop i).take (a - i)).map (PV.int .i64):=by rw[List.map_take,List.map_drop]
  obtain⟨Q,hQ⟩:∃Q,(c.t.drop i).take (a - i)=Q:=⟨_,rfl⟩
  rw[hQ] at aU oH fL eU
  have Zo:out.length+Q.length≤4294967296:=by omega
  have LN:out.length+Q.length≤20000:=by omega
  clear aU
  rcases hd:aR c s with _|⟨n,i',w⟩
  ·skip
   refine .skip (.sr ?_)
   refine .seq (.aD j5 rfl af (.rn [0,1] _ ?_))
   refine .step rfl rfl (.pure rfl rfl rfl call95 (by decide) (db) (by first|rfl|simp[*]) ?_)
   intro _ e;rw[Ah hd] at e;subst e;unfold ik;have uv:=fL (.inr (.inl hd))
   refine .rn [3,4,5,6,7,8,9,10,11,12] [] ?_
   refine .done (.seq (.seq (.aD qJ rfl af ?_)))
   refine .rn [0,1,2] _ ?_
   refine .split (t:=48) rfl (fun iO=>?_) (fun iO=>?_)
   ·try subst iO
    try simp at iO
    refine .rn [3,4,5,6,7,8] [] ?_
    refine .done (.eK rfl (.sr ?_))
    refine .ret (aH ?_)
    rw[vv uv];exact LK rfl rfl
   try subst iO
   try simp at iO
  skip
  refine .skip (.sr ?_)
  refine .seq (.aD j5 rfl af (.rn [0,1] _ ?_))
  refine .step rfl rfl (.pure rfl rfl rfl call95 (by decide) (db) (by first|rfl|simp[*]) ?_)
  intro _ e;rw[yI hd] at e;subst e;unfold ik;obtain⟨d1,d2,d3,d4,d5,d6⟩:=mf bq hd;have Zp:IntKind.i64.wrap (sum+n)=sum+n:=wrap64 (by omega) (by omega);have Zq:out.length+Q.length+w.length≤4294967296:=by omega
  refine .rn [3,4,5,6,7,8,9,10,11,12] [] ?_
  refine .done (.seq (.seq (.aD qJ rfl af ?_)))
  refine .rn [0,1,2] _ ?_
  refine .split (t:=48) rfl (fun iO=>?_) (fun iO=>?_)
  ·try subst iO
   try simp at iO
  try subst iO
  try simp at iO
  refine .rn [3,4,5,6,7,8] [] ?_
  refine .done ?_
  refine .cs ?_ ?_<;>intro xz
  ·try simp at xz
   have uv:=fL (.inr (.inr (fun e=>xz (by rw[e];simp))))
   refine .sr ?_
   refine .ret (aH ?_)
   rw[vv uv];exact LK rfl rfl
  try simp at xz
  have qM:=eU di hd (by rw[xz];simp)
  rcases Iz w with⟨rfl,hw⟩|hw<;>simp only[hw]
  ·skip
   refine .skip (.sr ?_)
   refine .rn ?_
   refine .rn ?_
   refine⟨(k+1,out++Q++[],i',sum+n),qM,bt,(.mk [] [(1,5)] gK il rfl rfl rfl)⟩
  skip
  refine .skip (.sr ?_)
  refine .rn ?_
  refine .rn ?_
  have LO:=Nat.add_assoc out.length Q.length w.length
  refine⟨(k+1,out++Q++w,i',sum+n),qM,bt,(.mk [] [(1,5)] gK il rfl rfl rfl)⟩
 try simp at jJ
 obtain rfl:k=l.length:=by omega
 have dw:=hI.stop
 obtain⟨D,hD⟩:∃D,c.t.drop i=D:=⟨_,rfl⟩
 have Zr:List.drop i (c.t.map (PV.int .i64))=D.map (PV.int .i64):=by rw[← hD,List.map_drop]
 have Zs:List.take (c.t.length - i) (D.map (PV.int .i64))=D.map (PV.int .i64):=List.take_of_length_le (by rw[← hD];simp)
 have vK:D.length≤48:=by rw[← hD,List.length_drop];omega
 have bT:out.length+D.length≤4294967296:=by omega
 rw[hD] at dw
 clear hD
 have LP:(i:Int)≤(c.t.length:Int):=by omega
 have sE:xG c l=.bp [ints (out++D),.int .i64 sum,.bool true]:=by unfold xG;rw[dw]
 refine .exit (.sr ?_)
 refine .ret (aH ?_)
 rw[sE];simp only[ints,List.map_append];exact q7 rfl
theorem LQ (c:aq)(l:List ai)(hk:bP c=0)(fa:l.length≤200):aM prog 100 [aK c,.vec (l.map encS)] fun r=>r=.bp [.int .i64 ((eO c l).getD 0),.bool (eO c l).isSome]:=by
 have bq:=j7 hk
 have hC:dh c=(cQ c):=rfl
 have gN:=aM.soft (F2 c l hk fa) (Q8 c l)
 have hx:eO c l=if 100<l.length then none else match iy c l with|some (o,n)=>if o=c.c then some n else none|none=>none:=rfl
 unfold aK at gN ⊢
 rw[hC] at gN ⊢
 unfold xG at gN
 refine .bV func100 rfl rfl ?_
 rcases hw:iy c l with _|⟨o,n⟩
 ·
  rw[hw] at hx gN
  simp only at hx gN
  have mE:eO c l=none:=by rw[hx];split<;>rfl
  rw[mE]
  refine .sr ?_
  refine .seq (.sr ?_)
  refine .cs ?_ ?_<;>intro ku
  ·try simp at ku
   skip
   refine .sr ?_
   refine .ret (aH ?_)
   exact zk
  try simp at ku
  refine .skip (.seq (.aD ij rfl af (.rn [0,1] _ ?_)))
  refine .pc rfl rfl rfl rfl rfl call110 (gN) ?_
  refine .rn [3,4,5,6,7,8,9] [] ?_
  refine .done (.seq (.seq (.aD qJ rfl af ?_)))
  refine .rn [0,1,2] _ ?_
  refine .split (t:=21) rfl (fun dG=>?_) (fun dG=>?_)
  ·try subst dG
   try simp at dG
   refine .rn [3,4,5,6,7,8] [] ?_
   refine .done (.eK rfl (.sr ?_))
   refine .ret (aH ?_)
   exact zk
  try subst dG
  try simp at dG
 ·
  rw[hw] at hx gN
  simp only at hx gN
  have oS:=Q7 bq hw
  have ep:=bq.cl
  have F3:=Fl o c.c (by omega) (by omega)
  obtain⟨eb,kX⟩:∃b,decide (o=c.c)=b:=⟨_,rfl⟩
  rw[kX] at F3
  refine .sr ?_
  refine .seq (.sr ?_)
  refine .cs ?_ ?_<;>intro ku
  ·try simp at ku
   rw[if_pos (show 100<l.length by omega)] at hx
   refine .sr ?_
   refine .ret (aH ?_)
   first|(rw[hx];rfl)|(rw[mE];rfl)
  try simp at ku
  rw[if_neg (by omega)] at hx
  refine .skip (.seq (.aD ij rfl af (.rn [0,1] _ ?_)))
  refine .pc rfl rfl rfl rfl rfl call110 (gN) ?_
  refine .rn [3,4,5,6,7,8,9] [] ?_
  refine .done (.seq (.seq (.aD qJ rfl af ?_)))
  refine .rn [0,1,2] _ ?_
  refine .split (t:=21) rfl (fun dG=>?_) (fun dG=>?_)
  ·try subst dG
   try simp at dG
  try subst dG
  try simp at dG
  refine .rn [3,4,5] _ ?_
  refine .pc rfl rfl rfl rfl rfl call144 (F3) ?_
  refine .rn [7,8] [] ?_
  refine .done ?_
  refine .cs ?_ ?_<;>intro eZ
  ·try simp at eZ
   have mE:eO c l=none:=by rw[hx,if_neg (fun hh=>by rw[hh] at kX;simp[eZ] at kX)]
   refine .sr ?_
   refine .ret (aH ?_)
   first|(rw[hx];rfl)|(rw[mE];rfl)
  try simp at eZ
  have mE:eO c l=some n:=by rw[hx,if_pos (by rw[eZ] at kX;simpa using kX)]
  refine .skip (.sr ?_)
  refine .ret (aH ?_)
  first|(rw[hx];rfl)|(rw[mE];rfl)
end
end Go.Am.Sl
end
section
namespace Go.Am.Sl
def tc (c:aq):Nat→List ai→Prop
 |_,[]=>True
 |i,s::r=>(i:Int)≤s.a∧s.a≤(c.t.length:Int)∧∃n i' w,aR c s=some (n,i',w)∧tc c i' r
theorem tc.mono {c:aq}{i j:Nat}{l:List ai}(h:tc c j l)(eT:i≤j):tc c i l:=by
 cases l with
 |nil=>trivial
 |cons s r=>obtain⟨h1,h2⟩:=h;exact⟨by omega,h2⟩
theorem Q9 {c:aq}:∀(l:List ai) {out:List Int} {i:Nat} {sum:Int} {o:List Int} {m:Int},yY c l out i sum=some (o,m)→tc c i l
 |[],_,_,_,_,_,_=>trivial
 |s::r,out,i,sum,o,m,h=>by
  rw[F1] at h
  split at h
  ·rename_i di
   split at h
   ·rename_i n i' w hd
    split at h
    ·exact⟨di.1,di.2,n,i',w,hd,Q9 r h⟩
    cases h
   cases h
  cases h
theorem tc.erase {c:aq}(hr:Rt c):∀ {l:List ai} {i:Nat} (k:Nat),tc c i l→tc c i (l.eraseIdx k)
 |[],_,_,_=>trivial
 |s::r,i,0,h=>by
  obtain⟨h1,h2,n,i',w,hd,h3⟩:=h
  have:=(mf hr hd).2.2.1
  exact h3.mono (by omega)
 |s::r,i,k+1,h=>by
  obtain⟨h1,h2,n,i',w,hd,h3⟩:=h
  exact⟨h1,h2,n,i',w,hd,h3.erase hr k⟩
theorem Zt {c:aq}{l:List ai}{n:Int}(h:eO c l=some n):l.length≤100∧iy c l=some (c.c,n):=by
 unfold eO at h
 split at h
 ·cases h
 split at h
 ·rename_i o m hw
  split at h
  ·rename_i ho
   injection h with h
   subst h;subst ho
   exact⟨by omega,hw⟩
  cases h
 cases h
theorem Ra {c:aq}{l:List ai}{n:Int}(h:eO c l=some n):tc c 0 l:=Q9 l (Zt h).2
theorem Rb {c:aq}{s:ai}{x:Int}(hx:0≤x)(hs:0≤s.i):aR c { s with i:=x }=aR c s:=by
 unfold aR
 simp only[hx,hs,and_true]
def vL (c:aq):List ai→Nat→Nat→List ai
 |[],_,_=>[]
 |s::r,i,j=>match aR c s with
  |some (_,i',w)=>{ s with i:=((j+(s.a.toNat - i):Nat):Int) }::vL c r i' (j+(s.a.toNat - i)+w.length)
  |none=>[]
theorem Rc {c:aq}{s:ai}{r:List ai}{i j:Nat}{n:Int}{i':Nat}{w:List Int}(hd:aR c s=some (n,i',w)):vL c (s::r) i j={ s with i:=((j+(s.a.toNat - i):Nat):Int) }::vL c r i' (j+(s.a.toNat - i)+w.length):=by
 show (match aR c s with|some (_,i',w)=>_|none=>_)=_
 rw[hd]
theorem Re {c:aq}(hr:Rt c):∀ {l:List ai} {i j:Nat} {out:List Int} {sum:Int},tc c i l→i≤c.t.length→out.length=j→∃o m,yY c (vL c l i j) out i sum=some (o,m)
 |[],_,_,_,_,_,_,_=>⟨_,_,rfl⟩
 |s::r,i,j,out,sum,h,hi,ho=>by
  obtain⟨h1,h2,n,i',w,hd,h3⟩:=h
  obtain⟨d1,d2,d3,d4,d5,d6⟩:=mf hr hd
  rw[Rc hd,F1]
  have hk:((c.t.drop i).take (s.a.toNat - i)).length=s.a.toNat - i:=by rw[List.length_take,List.length_drop];omega
  have oO:aR c { s with i:=((j+(s.a.toNat - i):Nat):Int) }=some (n,i',w):=by rw[Rb (by omega) d2.2.2,hd]
  rw[if_pos ⟨h1,h2⟩,oO]
  simp only
  rw[if_pos (by rw[List.length_append,hk,ho])]
  exact Re hr h3 d4 (by rw[List.length_append,List.length_append,hk,ho])
theorem Zu {c:aq}(hr:Rt c){l:List ai}(h:tc c 0 l):∃o m,iy c (vL c l 0 0)=some (o,m):=Re hr h (Nat.zero_le _) rfl
def yZ:aq:=⟨0,0,0,0,0,[],[],[],[]⟩
def Au (c:aq)(l:List ai)(k:Int):List ai:=vL c (l.eraseIdx k.toNat) 0 0
def DK (c:aq)(l:List ai):List Int:=match iy c l with|some (o,_)=>o|none=>[]
def xI (c:aq)(l:List ai)(k:Int):Int:=if bP c≠0 then bP c else if eO c l=none∨¬(0≤k∧k≤(l.length:Int) - 1) then 1 else if 48<(DK c (Au c l k)).length then 2 else 0
def IA (c:aq)(l:List ai)(k:Int):aq:=if xI c l k=0 then { c with c:=DK c (Au c l k) } else yZ
def IB (c:aq)(l:List ai)(k:Int):List ai:=if xI c l k=0 then Au c l k else []
structure MI (c:aq) (l:List ai) (D R:List ai) (i j:Nat):Prop where
  ch:tc c i R
  hi:i≤c.t.length
  hd:D++vL c R i j=vL c l 0 0
  hl:D.length+R.length=l.length
  hj:j≤96*D.length
theorem MI.start {c:aq}{l:List ai}(h:tc c 0 l):MI c l [] l 0 0:=⟨h,Nat.zero_le _,rfl,by simp,by simp⟩
theorem MI.next {c:aq}(hr:Rt c){l D R:List ai}{s:ai}{i j:Nat}(h:MI c l D (s::R) i j){n:Int}{i':Nat}{w:List Int}(hd:aR c s=some (n,i',w)) :
  MI c l (D++[{ s with i:=((j+(s.a.toNat - i):Nat):Int) }]) R i' (j+(s.a.toNat - i)+w.length):=by
 obtain⟨⟨h1,h2,n',i'',w',tQ,h3⟩,hi,h4,h5,h6⟩:=h
 rw[hd] at tQ
 injection tQ with e;injection e with e1 e;injection e with e2 e3
 subst e1;subst e2;subst e3
 obtain⟨d1,d2,d3,d4,d5,d6⟩:=mf hr hd
 have:=hr.tl
 refine⟨h3,d4,?_,by simp at h5 ⊢;omega,by rw[List.length_append,List.length_singleton];omega⟩
 rw[Rc hd] at h4
 rw[← h4,List.append_assoc];rfl
theorem MI.stop {c:aq}{l D:List ai}{i j:Nat}(h:MI c l D [] i j):D=vL c l 0 0:=by
 have:=h.hd
 rw[show vL c [] i j=[] from rfl,List.append_nil] at this
 exact this
open Go Go.Am Go.Proofs Tryz Go.RowKit Go.Lib
theorem Zv (w:World):(zeroValue 48).run prog w=.ok (.agg #[.int .i64 0,.int .i64 0,.int .i64 0,.int .i64 0,.int .i64 0]) w:=zeroValue48 w
theorem Zw (w:World)(ty:TypeId)(b o c:Nat)(hc:∀j,j<5→(w.cell? ⟨b,o+j,none⟩).isSome=true)(hf:∀j,j<5→w.frozen? ⟨b,o+j,none⟩=false) :
  (Builtin.clear_ #[31] ty #[.slice (some ⟨b,o,none⟩) 1 c]).run prog w=.ok (.tuple #[]) (w.setCells b o (List.replicate 5 (.int .i64 0))):=by
 have ht:prog.underlying 31=some (.slice 48):=underlying31
 have Hu:(Builtin.zeroCells (Value.agg #[.int .i64 0,.int .i64 0,.int .i64 0,.int .i64 0,.int .i64 0]).cells 1).toList=List.replicate 5 (.int .i64 0):=by
  exact range_zero #[.int .i64 0,.int .i64 0,.int .i64 0,.int .i64 0,.int .i64 0] 1
 have dw:=run_storeCells_cells (P:=prog) b o (List.replicate 5 (.int .i64 0)) 0 w (by simpa using hc) (by simpa using hf) (by intro v aX;rw[List.eq_of_mem_replicate aX];rfl)
 simp only[Nat.add_zero] at dw
 obtain⟨Z,hZ⟩:∃Z,List.replicate 5 (Value.int .i64 0)=Z:=⟨_,rfl⟩
 rw[hZ] at Hu dw ⊢
 simp[Builtin.clear_,run_underlying ht,Zv,Hu,dw]
theorem Zx:(prog.info? 48).map (fun i=>(i.zero,i.size,i.bytes))=some (some (.agg #[.int .i64 0,.int .i64 0,.int .i64 0,.int .i64 0,.int .i64 0]),5,40):=by kernel_rfl
set_option maxHeartbeats 4000000 in
set_option maxRecDepth 1000000 in
theorem Zy (ju off cap i n:Nat)(F:List Value)(w:World)(hF:F.length=n*5)(h1:∀u∈F,u.oneCell'=true)(hc:∀t u,F[t]?=some u→w.cell? ⟨ju,off+t,none⟩=some u)(sg:∀t,w.frozen? ⟨ju,t,none⟩=false)
  (fF:n≤cap) (hi:i<n) :
  Calls prog 111 #[.slice (some ⟨ju,off,none⟩) n cap,.int .i64 i,.int .i64 ((i:Int)+1)] w fun e w'=>e=.returned (.slice (some ⟨ju,off,none⟩) (i+(n - (i+1))) cap)∧
   w'=(w.drew.setCells ju (off+i*5) (F.drop ((i+1)*5))).setCells ju (off+(i+(n - (i+1)))*5) (List.replicate 5 (.int .i64 0)):=by
 obtain⟨i0,Cf,j9,kP,sy⟩:=info_parts Zx
 have ht:prog.underlying 31=some (.slice 48):=underlying31
 have mixed:prog.follows .mixedOrders=true:=rfl
 obtain⟨news,pe⟩:∃news,news=F.drop ((i+1)*5):=⟨_,rfl⟩
 have hlen:news.length=(n - (i+1))*5:=by rw[pe,List.length_drop,hF,Nat.sub_mul]
 have fV:∀t u,news[t]?=some u→w.cell? ⟨ju,off+((i+1)*5+t),none⟩=some u:=fun t u hu=>by
  rw[pe,List.getElem?_drop] at hu
  exact hc _ u hu
 obtain⟨A,hA,qg⟩:∃A:Addr,(if cap=i+1 then some (⟨ju,off,none⟩:Addr) else some ⟨ju,off+(i+1)*5,none⟩)=some A∧Hid (∀t u,news[t]?=some u→w.drew.cell? (A.add t)=some u):=by
  by_cases h:cap=i+1
  ·refine⟨⟨ju,off,none⟩,by simp[h],fun t u hu=>?_⟩
   have h0:news.length=0:=by rw[hlen];omega
   rw[List.length_eq_zero_iff.1 h0] at hu
   simp at hu
  refine⟨⟨ju,off+(i+1)*5,none⟩,by simp[h],fun t u hu=>?_⟩
  rw[Addr.add_lit,Nat.add_assoc]
  exact fV t u hu
 have r6:∀t,t<n*5→(w.cell? ⟨ju,off+t,none⟩).isSome=true:=fun t ht=>by
  rw[hc t F[t] (List.getElem?_eq_getElem (by omega))];rfl
 have s1:Hid (news.length=(n - (i+1))*5):=hlen
 have s2:Hid (∀u∈news,u.oneCell'=true):=fun u hu=>h1 u (List.mem_of_mem_drop (by rw[← pe];exact hu))
 have s3:Hid (∀t,t<news.length→(w.drew.cell? ⟨ju,off+i*5+t,none⟩).isSome=true∧w.drew.frozen? ⟨ju,off+i*5+t,none⟩=false):=by
  intro t ht
  rw[hlen] at ht
  rw[Nat.add_assoc]
  exact⟨r6 (i*5+t) (by omega),sg _⟩
 obtain⟨W1,Cg⟩:∃W1,W1=w.drew.setCells ju (off+i*5) news:=⟨_,rfl⟩
 have di:∀t,t<n*5→(W1.cell? ⟨ju,off+t,none⟩).isSome=true:=fun t ht=>by
  rw[Cg]
  by_cases hr:i*5≤t∧t<i*5+news.length
  ·have:=World.cell?_setCells_in ju news (off+i*5) w.drew (fun j hj=>by rw[Nat.add_assoc];exact r6 _ (by omega)) (t - i*5) (by omega)
   rw[show off+i*5+(t - i*5)=off+t by omega] at this
   rw[this];rfl
  rw[World.cell?_setCells_out ju news (off+i*5) w.drew _ (fun _ _=>by simp;omega)]
  exact r6 t ht
 have ep:∀ty,(Builtin.clear_ #[31] ty #[.slice (some ⟨ju,off+(i+(n - (i+1)))*5,none⟩) (n - (i+(n - (i+1)))) (cap - (i+(n - (i+1))))]).run prog W1=.ok (.tuple #[]) (W1.setCells ju (off+(i+(n - (i+1)))*5) (List.replicate 5 (.int .i64 0))):=fun ty=>by
  rw[show n - (i+(n - (i+1)))=1 by omega]
  exact Zw W1 ty ju _ _ (fun j hj=>by rw[Nat.add_assoc];exact di _ (by omega)) (fun j hj=>by rw[Cg,World.frozen?_setCells];exact sg _)
 have hW:Hid (W1=w.drew.setCells ju (off+i*5) news):=Cg
 have oh:i≤cap:=by omega
 have nI:i+1≤cap:=by omega
 have Qc:(0:Int)≤(i:Int)+1:=by omega
 have pC:(i:Int)+1≤(n:Int):=by omega
 have sX:((i:Int)+1).toNat=i+1:=by omega
 have aU:¬((i:Int)=(i:Int)+1):=by omega
 rw[← pe,← Cg]
 clear Cg fV pe hlen hc sg di r6 h1
 go_enter func111,ntmps111
 go_wp2_with fail
 go_region_law_o (refine step_append_room rfl (.tmp 22) (.tmp 25) 31 rfl 48 i0 5 ht Cf kP ju off i cap (by simp[Act.eval,Act.put]) A (n - (i+1)) (cap - (i+1)) news (by simp[Act.eval,Act.put]) s1.out qg.out s2.out (by omega) s3.out ?_;rw[← hW.out])
 go_wp2
 go_ret
 exact⟨rfl,rfl⟩
theorem Zz (F:List Value)(n k m:Nat)(hF:F.length=n*m)(hk:k<n)(Z:List Value)(hZ:Z.length=m) :
  e9 (e9 F (k*m) (F.drop ((k+1)*m))) ((n - 1)*m) Z=F.take (k*m)++F.drop ((k+1)*m)++Z:=by
 obtain⟨d,rfl⟩:∃d,n=k+1+d:=⟨n - (k+1),by omega⟩
 have e1:(k+1+d)*m=k*m+m+d*m:=by rw[Nat.add_mul,Nat.add_mul,Nat.one_mul]
 have e2:(k+1)*m=k*m+m:=by rw[Nat.add_mul,Nat.one_mul]
 have e3:(k+1+d - 1)*m=k*m+d*m:=by rw[show k+1+d - 1=k+d by omega,Nat.add_mul]
 rw[e1] at hF
 rw[e2,e3]
 have hd:(F.drop (k*m+m)).length=d*m:=by rw[List.length_drop];omega
 have ht:(F.take (k*m)).length=k*m:=by rw[List.length_take];omega
 have h1:e9 F (k*m) (F.drop (k*m+m))=F.take (k*m)++F.drop (k*m+m)++F.drop (k*m+d*m):=by
  unfold e9
  rw[hd]
 rw[h1]
 have hc:(F.drop (k*m+d*m)).length=m:=by rw[List.length_drop];omega
 generalize F.take (k*m)=A at *
 generalize F.drop (k*m+m)=B at *
 generalize F.drop (k*m+d*m)=C at *
 unfold e9
 rw[List.take_left' (by rw[List.length_append,ht,hd])]
 have h0:(A++B++C).drop (k*m+d*m+Z.length)=[]:=List.drop_eq_nil_of_le (by rw[List.length_append,List.length_append,ht,hd,hc,hZ];exact Nat.le_refl _)
 rw[h0,List.append_nil]
theorem Rf {α β:Type}{l:α→List β}{m:Nat}(hl:∀x,(l x).length=m):∀(zs:List α) (k:Nat),(zs.eraseIdx k).flatMap l=(zs.flatMap l).take (k*m)++(zs.flatMap l).drop ((k+1)*m)
 |[],k=>by simp
 |a::r,0=>by
  rw[List.eraseIdx_cons_zero,Nat.zero_mul,List.take_zero,List.nil_append,Nat.zero_add,Nat.one_mul,List.flatMap_cons,List.drop_left' (hl a)]
 |a::r,k+1=>by
  have t1:∀R,(l a++R).take ((k+1)*m)=l a++R.take (k*m):=fun R=>by
   rw[show (k+1)*m=(l a).length+k*m by rw[hl,Nat.add_mul,Nat.one_mul,Nat.add_comm],List.take_append,List.take_of_length_le (l:=l a) (Nat.le_add_right _ _),Nat.add_sub_cancel_left]
  have t2:∀R,(l a++R).drop ((k+1+1)*m)=R.drop ((k+1)*m):=fun R=>by
   rw[show (k+1+1)*m=(l a).length+(k+1)*m by rw[hl,Nat.add_mul (k+1),Nat.one_mul,Nat.add_comm],List.drop_append]
   have h0:(l a).drop ((l a).length+(k+1)*m)=[]:=List.drop_eq_nil_of_le (Nat.le_add_right _ _)
   rw[h0,Nat.add_sub_cancel_left,List.nil_append]
  rw[List.eraseIdx_cons_succ,List.flatMap_cons,Rf hl r k,List.flatMap_cons,t1,t2,List.append_assoc]
theorem F4 {α:Type}(u v:Option α):∀(n:Nat) (t:Tr α) (i:Nat),Tr.set v n (Tr.set u n t i) i=Tr.set v n t i
 |0,t,i=>rfl
 |n+1,.nil,i=>by
  cases h1:Nat.beq i 0 with
  |true=>simp[Tr.set,h1]
  |false=>
   cases h2:Nat.beq (i % 2) 1 with
   |true=>simp[Tr.set,h1,h2,F4 u v n]
   |false=>simp[Tr.set,h1,h2,F4 u v n]
 |n+1,.node l x r,i=>by
  cases h1:Nat.beq i 0 with
  |true=>simp[Tr.set,h1]
  |false=>
   cases h2:Nat.beq (i % 2) 1 with
   |true=>simp[Tr.set,h1,h2,F4 u v n]
   |false=>simp[Tr.set,h1,h2,F4 u v n]
theorem ZA (h:ae)(o:Nat)(x y:Option a7):(h.put o x).put o y=h.put o y:=by
 unfold ae.put
 simp only[F4]
section
variable {lo:Nat} {h:ae}
variable [bE] in
theorem mr.delete {o n k kk s:Nat}{F:List Value}(hg:h.get o=some (.cells s F))(hl:lo≤o)(hF:F.length=n*5)(h1:∀u∈F,kB u=true∧u.oneCell'=true)(hk:k<n)(lY:kk<dC) :
  mr prog lo 111 [.slice (some ⟨o,0,none⟩) n kk,.int .i64 k,.int .i64 ((k:Int)+1)] h fun r h'=>r=.slice (some ⟨o,0,none⟩) (n - 1) kk∧h'=h.put o (some (.cells s (F.take (k*5)++F.drop ((k+1)*5)++List.replicate 5 (.int .i64 0)))):=by
 refine .HW fun U w a6 ha r=>?_
 obtain⟨v1,r1,gQ,iK,oJ⟩:=ha.dt
 obtain⟨v2,r2,fT,eI,iU⟩:=oJ.dt
 obtain⟨v3,r3,hP,Av,Ch⟩:=iU.dt
 have:=Ch.iP;subst this
 cases eI;cases Av
 subst hP;subst fT
 have fH:a6=#[v1,.int .i64 k,.int .i64 ((k:Int)+1)]:=Array.ext' (by simpa using gQ)
 subst fH
 cases iK with
 |slice _ _ _ _ b a C hm zG jr=>
  have oS:=mM r hg hm
  have kv:∀t u,F[t]?=some u→w.cell? ⟨b,a+0+t,none⟩=some u:=fun t u hu=>by
   obtain⟨v',e1,e2⟩:=oS.2.1 t u hu
   rw[EI (h1 u (List.mem_of_getElem? hu)).1 e2] at e1
   rw[Nat.add_zero];exact e1
  refine(Zy b (a+0) (gb C kk) k n F w hF (fun u hu=>(h1 u hu).2) kv (fun t=>r.eo o _ b a C hl hg hm t) zG hk).mono fun e w' ⟨e1,e2⟩=>?_
  have self:∀l:List Value,(∀u∈l,u∈F∨u=.int .i64 0)→bn U l l:=fun l hl=>⟨rfl,fun i v hv=>⟨v,hv,by
   rcases hl v (List.mem_of_getElem? hv) with hm|rfl
   ·exact .xX (h1 v hm).1
   exact .int _ _⟩⟩
  have l5:k*5+5+(n - (k+1))*5=n*5:=by omega
  obtain⟨r2,f2⟩:=CT r.drew hg hl hm (k*5) (F.drop ((k+1)*5)) (F.drop ((k+1)*5)) (self _ fun u hu=>.inl (List.mem_of_mem_drop hu)) (by rw[List.length_drop];omega)
  have ud:(h.put o (some (.cells s (e9 F (k*5) (F.drop ((k+1)*5)))))).get o=some (.cells s (e9 F (k*5) (F.drop ((k+1)*5)))):=by rw[ae.dB _ _ _ _ (ae.fC hg),if_pos rfl]
  have gd:(e9 F (k*5) (F.drop ((k+1)*5))).length=n*5:=by rw[Jq _ _ _ (by rw[List.length_drop];omega),hF]
  obtain⟨r3,f3⟩:=CT r2 ud hl hm ((n - 1)*5) (List.replicate 5 (.int .i64 0)) (List.replicate 5 (.int .i64 0)) (self _ fun u hu=>.inr (List.eq_of_mem_replicate hu)) (by rw[gd,List.length_replicate];omega)
  rw[Zz F n k 5 hF hk _ (by rw[List.length_replicate])] at r3 f3
  rw[ZA] at r3 f3
  have ew:w'=(w.drew.setCells b (a+k*5) (F.drop ((k+1)*5))).setCells b (a+(n - 1)*5) (List.replicate 5 (.int .i64 0)):=by rw[e2,Nat.add_zero,show k+(n - (k+1))=n - 1 by omega]
  rw[← ew] at r3 f3
  refine⟨.slice (some ⟨o,0,none⟩) (n - 1) kk,.slice (some ⟨b,a+0,none⟩) (n - 1) (gb C kk),_,U,by rw[e1,show k+(n - (k+1))=n - 1 by omega],.slice _ _ _ _ _ _ _ hm (by omega) jr,r3,(Frame.drew lo U h w).trans (f2.trans f3),rfl,rfl⟩
 |bK=>exact absurd lY (Nat.lt_irrefl _)
 |b7=>omega
end
variable [bE] in
theorem LR {vh:ah}{i n k:Nat}{nl:Bool}{zs:List ai}(hg:vh.get i=some (.grow 5 (zs.map encS)))(hn:zs.length=n)(hk:k<n) :
  cR prog 111 [.grow i n nl,.int .i64 k,.int .i64 ((k:Int)+1)] vh fun r ak=>r=.sub i 0 (n - 1)∧ak=vh.put i (.arr true 5 (((zs.eraseIdx k).flatMap lS++[0,0,0,0,0]).map (PV.int .i64))):=fun lo ga σ h au ha s=>by
 subst hn
 obtain⟨v1,r1,rfl,hv,hr⟩:=ha.dt
 obtain⟨v2,r2,rfl,eI,iU⟩:=hr.dt
 obtain⟨v3,r3,rfl,Av,Ch⟩:=iU.dt
 have:=Ch.iP;subst this
 have e2:v2=.int .i64 k:=by cases eI with|fr _ _ h=>cases h;rfl
 have e3:v3=.int .i64 ((k:Int)+1):=by cases Av with|fr _ _ h=>cases h;rfl
 subst e2;subst e3
 have LS:zs.map encS=zs.map fun x=>PV.agg ((lS x).map (PV.int .i64)):=rfl
 rw[LS] at hg
 obtain⟨hi,Rg,ep,di,kF⟩:=s.obj i _ hg
 have cC:zs≠[]:=fun e=>by subst e;simp at hk
 rcases kF with s9|⟨s0,ao,h1,h2,h3,h4⟩
 ·exact absurd (by simpa using s9) cC
 rw[LU] at h3
 have oA:=bc.ints h3
 generalize hm:zs.length=m at hv
 cases hv with
 |fr _ _ h=>cases h
 |bW=>omega
 |bX=>omega
 |grow _ _ o a kk _ dD hs hn=>
  subst hm
  have fm:(aI.grow 5 (zs.map fun x=>PV.agg ((lS x).map (PV.int .i64)))).live=true:=by
   cases zs with
   |nil=>simp at hn
   |cons=>rfl
  have bC:=s.low i _ hg fm
  rw[hs] at h1 h2 h4 bC;simp only at h1 h2 h4 bC;subst h2
  subst oA
  have y0:zs.length<4611686018427387904:=by
   have h6:(zs.map fun x=>PV.agg ((lS x).map (PV.int .i64))).length<4611686018427387904:=di
   rw[List.length_map] at h6
   exact h6
  have dI:kk+(zs.length - 1)<dC:=by
   show kk+(zs.length - 1)<9223372036854775808
   rcases h4 with⟨rfl,_⟩|rfl
   ·simp only[ar];omega
   rw[List.length_map];omega
  have fD:zs.length - 1≤kk:=by
   rcases h4 with⟨rfl,_⟩|rfl
   ·simp only[ar];omega
   rw[List.length_map];omega
  have hS:=mr.delete (h:=h) (lo:=lo) (kk:=kk) h1 bC (by rw[List.length_map,DL (fun _=>rfl) (k:=5)]) (fun u hu=>by obtain⟨x,_,rfl⟩:=List.mem_map.1 hu;exact⟨rfl,rfl⟩) hk (by omega)
  refine hS.mono fun r h' ⟨e1,e2⟩=>?_
  have kQ:((zs.flatMap lS).map (Value.int .i64)).take (k*5)++((zs.flatMap lS).map (Value.int .i64)).drop ((k+1)*5)++List.replicate 5 (Value.int .i64 0)=(((zs.eraseIdx k).flatMap lS++[0,0,0,0,0]).map (Value.int .i64)):=by
   rw[Rf (l:=lS) (m:=5) (fun _=>rfl),List.map_append,List.map_append,List.map_take,List.map_drop];rfl
  rw[kQ] at e2
  subst e1;subst e2
  have hw:=s.write hg fm (x':=.arr true 5 (((zs.eraseIdx k).flatMap lS++[0,0,0,0,0]).map (PV.int .i64))) (.cells s0 (((zs.eraseIdx k).flatMap lS++[0,0,0,0,0]).map (Value.int .i64)))
   ⟨by decide,s0,_,by rw[ae.dB _ _ _ _ (by rw[hs];exact ae.fC h1),if_pos rfl],by rw[hs],bc.LV _⟩
  rw[hs] at hw
  refine⟨ga,σ,.sub i 0 (zs.length - 1),_,?_,hw.1,Fz.le_refl ga,fun _ _=>rfl,hw.2,Nat.le_refl _,dK.refl _ _ _ _,rfl,rfl⟩
  have:=VR.sub (g:=ga) (σ:=σ) (n:=vh.next) i 0 (zs.length - 1) kk o 0 _ dD hs fD dI
  rw[Nat.zero_add] at this
  exact this
open Go Go.Am Go.Proofs Tryz
attribute [local simp] fx ie rS dS ig nD ah.back de gJ l8 bm Nat.testBit_eq_decide_div_mod_eq cF iX ny vO qE ja qF jw cW oX oV qB jb qC pI mW rR pH qD qv qq qw qt qu qz qA od fI kl fw qG oZ pK qH qI oc rP rQ iY nz gp fY gq lV hU pA oD oE jY qi bo pG fX bU bS l9 ah.get ah.alloc ah.put ah.drop ah.empty bh dm iF jP gI cB chunk List.range List.range.loop ma rT mX bz b9 PV.aB PV.aG PV.dy PV.fW jc jd pL PV.one PV.ids PV.cO gx beq_eq sJ tW
attribute [local simp] cQ bQ jf ua yR rY sR pQ gz fG
attribute [local simp ↓ high] vm tZ
section
variable [bE]
theorem ZB:aM prog 146 [.vec []] fun r=>r=.vec []∨r=.aF:=by
 refine .bV func146 rfl rfl ?_
 refine .sr ?_
 refine .seq (.seq (.aD [0,1] rfl af (.rn [0] _ ?_)))
 refine .step rfl rfl (.F5 ⟨_,rfl⟩ ZC rfl rfl (by decide) fun q=>?_)
 refine .done ?_
 cases q with
 |true=>
  refine .eK rfl (.sr ?_)
  refine .ret ?_
  exact⟨_,.aF,gj,(by simp),.inr rfl⟩
 |false=>
  refine .iM rfl (.skip (.sr ?_))
  refine .ret ?_
  first|exact⟨_,.vec [],gj,(by simp),.inl rfl⟩|exact⟨_,.aF,gj,(by simp),.inr rfl⟩
theorem ZD:aM prog 146 [.vec []] fun r=>r=.vec []:=
 ZB.alt fun r h=>by
  rcases h with rfl|rfl
  ·exact⟨.vec [],.same _ rfl,rfl,rfl⟩
  exact⟨.vec [],.dJ,rfl,rfl⟩
theorem ZE:aM prog 147 [.vec []] fun r=>r=.vec []∨r=.aF:=by
 refine .bV func147 rfl rfl ?_
 refine .sr ?_
 refine .seq (.seq (.aD [0,1] rfl af (.rn [0] _ ?_)))
 refine .step rfl rfl (.F5 ⟨_,rfl⟩ ZF rfl rfl (by decide) fun q=>?_)
 refine .done ?_
 cases q with
 |true=>
  refine .eK rfl (.sr ?_)
  refine .ret ?_
  exact⟨_,.aF,gj,(by simp),.inr rfl⟩
 |false=>
  refine .iM rfl (.skip (.sr ?_))
  refine .ret ?_
  first|exact⟨_,.vec [],gj,(by simp),.inl rfl⟩|exact⟨_,.aF,gj,(by simp),.inr rfl⟩
theorem ZG:aM prog 147 [.vec []] fun r=>r=.vec []:=
 ZE.alt fun r h=>by
  rcases h with rfl|rfl
  ·exact⟨.vec [],.same _ rfl,rfl,rfl⟩
  exact⟨.vec [],.dJ,rfl,rfl⟩
theorem ZH (l:List Int)(hl:l.length<4294967296)(h0:0<l.length):aM prog 146 [ints l] fun r=>r=ints l:=by
 obtain⟨a,r,rfl⟩:∃a r,l=a::r:=by cases l with|nil=>simp at h0|cons a r=>exact⟨a,r,rfl⟩
 have By:r.length+1≤4294967296:=by simp at hl;omega
 have h1:kj 1 (PV.int .i64 a::r.map (PV.int .i64))=true:=xj (f:=PV.int .i64) (n:=1) (fun _=>rfl) (a::r)
 have h2:kG (PV.int .i64 a::r.map (PV.int .i64))=true:=xm (f:=PV.int .i64) (fun _=>rfl) (a::r)
 refine .bV func146 rfl rfl ?_
 refine .sr ?_
 refine .seq (.sr ?_)
 refine .cs ?_ ?_<;>intro c4
 ·try simp at c4
 try simp at c4
 refine .skip (.sr ?_)
 refine .ret (aH ?_)
 exact zk
theorem ZI (l:List mc)(hl:l.length<4294967296)(h0:0<l.length):cR prog 147 [.vec (l.map cb)] ah.empty fun v ak=>∃i nl,v=.grow i l.length nl∧ak.get i=some (.grow 2 (l.map cb)):=by
 obtain⟨a,r,rfl⟩:∃a r,l=a::r:=by cases l with|nil=>simp at h0|cons a r=>exact⟨a,r,rfl⟩
 have By:r.length+1≤4294967296:=by simp at hl;omega
 have h1:kj 2 (cb a::r.map cb)=true:=xj (f:=cb) (n:=2) (fun _=>rfl) (a::r)
 have h2:kG (cb a::r.map cb)=true:=xm (f:=cb) (fun _=>rfl) (a::r)
 refine .bV func147 rfl rfl ?_
 refine .sr ?_
 refine .seq (.sr ?_)
 refine .cs ?_ ?_<;>intro c4
 ·try simp at c4
 try simp at c4
 refine .skip (.sr ?_)
 refine .ret ?_
 exact⟨_,gj,_,_,rfl,by simp⟩
theorem ZJ (l:List ai)(hl:l.length<4294967296)(h0:0<l.length):cR prog 112 [.vec (l.map encS)] ah.empty fun v ak=>∃i nl,v=.grow i l.length nl∧ak.get i=some (.grow 5 (l.map encS)):=by
 obtain⟨a,r,rfl⟩:∃a r,l=a::r:=by cases l with|nil=>simp at h0|cons a r=>exact⟨a,r,rfl⟩
 have By:r.length+1≤4294967296:=by simp at hl;omega
 have h1:kj 5 (encS a::r.map encS)=true:=xj (f:=encS) (n:=5) (fun _=>rfl) (a::r)
 have h2:kG (encS a::r.map encS)=true:=xm (f:=encS) (fun _=>rfl) (a::r)
 refine .bV func112 rfl rfl ?_
 refine .sr ?_
 refine .seq (.sr ?_)
 refine .cs ?_ ?_<;>intro c4
 ·try simp at c4
 try simp at c4
 refine .skip (.sr ?_)
 refine .ret ?_
 exact⟨_,gj,_,_,rfl,by simp⟩
theorem te (l:List Int)(hl:l.length<4294967296):aM prog 146 [ints l] fun r=>r=ints l:=by
 cases l with
 |nil=>exact ZD
 |cons a r=>exact ZH (a::r) hl (by simp)
end
theorem LW (l:List jI):jK 3 (l.map bs):=.map (g:=fun m=>[.int .i64 m.f,.int .i64 m.t,.int .i64 m.c]) (fun _=>rfl) (fun _=>rfl) l
theorem LX (l:List mc):jK 2 (l.map cb):=.map (g:=fun g=>[.int .i64 g.at_,ints g.ws]) (fun _=>rfl) (fun _=>rfl) l
theorem ZK (l:List jI):kG (l.map bs)=true:=xm (f:=bs) (fun _=>rfl) l
theorem LY (l:List jI):kj 3 (l.map bs)=true:=xj (f:=bs) (n:=3) (fun _=>rfl) l
def lM (l:List mc):List PV:=(l.map cb).flatMap PV.cells
@[simp] theorem xa1 (l:List mc):(lM l).length=l.length*2:=by unfold lM;rw[(LX l).len,List.length_map]
theorem Rh:∀(l:List mc) (k:Nat) {y:mc},l[k]?=some y→∃A B,lM l=A++.int .i64 y.at_::ints y.ws::B∧A.length=k*2
 |[],k,y,h=>by simp at h
 |a::r,0,y,h=>by
  simp only[List.getElem?_cons_zero,ax] at h
  subst h
  exact⟨[],lM r,rfl,rfl⟩
 |a::r,k+1,y,h=>by
  obtain⟨A,B,h1,h2⟩:=Rh r k (y:=y) (by simpa using h)
  refine⟨.int .i64 a.at_::ints a.ws::A,B,?_,by simp[h2];omega⟩
  show .int .i64 a.at_::ints a.ws::lM r=_
  rw[h1];rfl
theorem Ri {l:List mc}(h:0<l.length){vh:ah}{n2:Nat}{D:Nat→Bool}{ρ:Nat→Nat}:kf vh n2 D ρ (.grow 2 (l.map cb)) (.arr true 2 (lM l)):=by
 cases l with
 |nil=>simp at h
 |cons a r=>exact⟨rfl,⟨_,_,rfl⟩,rfl⟩
theorem Rj {l:List mc}{k:Nat}{y:mc}(h:l[k]?=some y):(lM l)[k*2+1]?=some (ints y.ws):=by
 obtain⟨A,B,h1,h2⟩:=Rh l k h
 rw[h1,← h2,List.getElem?_append_right (by omega)]
 simp
theorem ZL {l:List mc}{k:Nat}{y:mc}(h:l[k]?=some y):(lM l).take (k*2+1)++ints y.ws::(lM l).drop (k*2+1+1)=lM l:=by
 have hg:=Rj h
 obtain⟨hl,he⟩:=List.getElem?_eq_some_iff.1 hg
 rw[← he,← List.drop_eq_getElem_cons hl,List.take_append_drop]
variable [bE] in
theorem LZ (c:aq)(hk:bP c=0):aM prog 101 [aK c] fun r=>r=aK c:=by
 have bq:=j7 hk
 have o4:=bq.tl
 have ep:=bq.cl
 have ia:=bq.KV
 have hg6:=bq.vn
 have hC:dh c=(cQ c):=rfl
 unfold aK
 rw[hC]
 have cj:(c.mx.length:Int)≤4294967296:=by omega
 have hvc:=fun (vh:ah) (hg:vh.get 2=some (.arr true 3 (cB [.int .i64 0,.int .i64 0,.int .i64 0] c.mx.length)))=>ZM (P:=prog) (t:=22) (k:=c.mx.length) (z:=[.int .i64 0,.int .i64 0,.int .i64 0]) rfl (by decide) (LW c.mx) (LY c.mx) (ZK c.mx) rfl (by simp) hg
 have ZN:=fun l hl=>te l hl
 refine .bV func101 rfl rfl ?_
 rcases Nat.eq_zero_or_pos c.g.length with qL|vM
 ·
  have xD:c.g=[]:=List.eq_nil_of_length_eq_zero qL
  unfold cQ
  rw[xD]
  refine .seq ?_
  refine .run af (by simp[*,-cW,-cB]<;>first|exact⟨rfl,rfl⟩|exact rfl) ?_
  refine .seq ?_
  refine .run af (by simp[*,-cW,-cB]<;>first|exact⟨rfl,rfl⟩|exact rfl) ?_
  refine .seq ?_
  refine .run af (by simp[*,-cW,-cB]<;>first|exact⟨rfl,rfl⟩|exact rfl) ?_
  refine .seq ?_
  refine .run af (by simp[*,-cW,-cB]<;>first|exact⟨rfl,rfl⟩|exact rfl) ?_
  refine .seq ?_
  refine .rec (ay:=[(1,.ptr 0 0),(2,.ptr 1 0)]) (aQ:=⟨2,[(1,.box [.int .i64 0,.int .i64 0,.int .i64 0,.int .i64 0,.int .i64 0,.aF,.aF,.aF,.aF]),(0,.box (cQ c))]⟩) (.mk [2] [] F6 F7 rfl rfl rfl) ?_
  refine .drawn (ms:=[0,1,3,0,8,31,0,64,255,223,1023,2047,4095,8191,16383]) (W:=[2,5,8,10,12,14]) (items:=Rk) rfl af af af ?_
  refine .rd rfl rfl (by decide) rfl (by decide) (by simp[*,-cW,-cB]<;>first|exact⟨rfl,rfl⟩|exact rfl) ?_
  refine .rd rfl rfl (by decide) rfl (by decide) (by simp[*,-cW,-cB]<;>first|exact⟨rfl,rfl⟩|exact rfl) ?_
  refine .rd rfl rfl (by decide) rfl (by decide) (by simp[*,-cW,-cB]<;>first|exact⟨rfl,rfl⟩|exact rfl) ?_
  refine .rd rfl rfl (by decide) rfl (by decide) (by simp[*,-cW,-cB]<;>first|exact⟨rfl,rfl⟩|exact rfl) ?_
  refine .rd rfl rfl (by decide) rfl (by decide) (by simp[*,-cW,-cB]<;>first|exact⟨rfl,rfl⟩|exact rfl) ?_
  refine .rd rfl rfl (by decide) rfl (by decide) (by simp[*,-cW,-cB]<;>first|exact⟨rfl,rfl⟩|exact rfl) ?_
  refine .wp rfl rfl rfl rfl rfl call146 (te c.t (by omega)) ?_
  refine .ck rfl eM ?_
  refine .ck rfl eM ?_
  refine .rd rfl rfl (by decide) rfl (by decide) (by simp[*,-cW,-cB]<;>first|exact⟨rfl,rfl⟩|exact rfl) ?_
  refine .wp rfl rfl rfl rfl rfl call146 (te c.c (by omega)) ?_
  refine .ck rfl eM ?_
  refine .wp rfl rfl rfl rfl rfl call147 (ZG) ?_
  refine .wr rfl rfl (by decide) (.dS (by simp[*,-cW,-cB]<;>first|exact⟨rfl,rfl⟩|exact rfl) (by decide) ?_)
  refine .rd rfl rfl (by decide) rfl (by decide) (by simp[*,-cW,-cB]<;>first|exact⟨rfl,rfl⟩|exact rfl) ?_
  refine .wr rfl rfl (by decide) (.dS (by simp[*,-cW,-cB]<;>first|exact⟨rfl,rfl⟩|exact rfl) (by decide) ?_)
  refine .rd rfl rfl (by decide) rfl (by decide) (by simp[*,-cW,-cB]<;>first|exact⟨rfl,rfl⟩|exact rfl) ?_
  refine .wr rfl rfl (by decide) (.dS (by simp[*,-cW,-cB]<;>first|exact⟨rfl,rfl⟩|exact rfl) (by decide) ?_)
  refine .done (.seq (.seq ?_))
  refine .run af (by simp[*,-cW,-cB]<;>first|exact⟨rfl,rfl⟩|exact rfl) ?_
  refine .block ?_
  refine .dF (fun k:Nat=>([(1,.ptr 0 0),(2,.ptr 1 0),(32,.int .i64 0),(33,.int .i64 k)],⟨2,[(1,.box [.int .i64 0,.int .i64 0,.int .i64 0,.int .i64 0,.int .i64 0,.aF,.aF,.aF,.aF]),(0,.box [.int .i64 c.om,.int .i64 c.le,.int .i64 c.tw,.int .i64 c.gl,.int .i64 c.ad,.vec (c.mx.map bs),ints c.t,.vec [],ints c.c])]⟩)) (fun k=>k=0) (fun k=>0) 0 rfl bx ?_
  rintro k iT
  simp only at iT ⊢
  refine .seq ?_
  refine .run af (by simp[*,-cW,-cB]<;>first|exact⟨rfl,rfl⟩|exact rfl) ?_
  refine .seq ?_
  refine .cs ?_ ?_<;>intro na
  ·try simp at na
  try simp at na
  refine .exit (.seq ?_)
  refine .run af (by simp[*,-cW,-cB]<;>first|exact⟨rfl,rfl⟩|exact rfl) ?_
  refine .ret (aH ?_)
  exact zk
 ·
  refine .seq ?_
  refine .run af (by simp[*,-cW,-cB]<;>first|exact⟨rfl,rfl⟩|exact rfl) ?_
  refine .seq ?_
  refine .run af (by simp[*,-cW,-cB]<;>first|exact⟨rfl,rfl⟩|exact rfl) ?_
  refine .seq ?_
  refine .run af (by simp[*,-cW,-cB]<;>first|exact⟨rfl,rfl⟩|exact rfl) ?_
  refine .seq ?_
  refine .run af (by simp[*,-cW,-cB]<;>first|exact⟨rfl,rfl⟩|exact rfl) ?_
  refine .seq ?_
  refine .rec (ay:=[(1,.ptr 0 0),(2,.ptr 1 0)]) (aQ:=⟨2,[(1,.box [.int .i64 0,.int .i64 0,.int .i64 0,.int .i64 0,.int .i64 0,.aF,.aF,.aF,.aF]),(0,.box (cQ c))]⟩) (.mk [2] [] F6 F7 rfl rfl rfl) ?_
  refine .drawn (ms:=[0,1,3,0,8,31,0,64,255,223,1023,2047,4095,8191,16383]) (W:=[2,5,8,10,12,14]) (items:=Rk) rfl af af af ?_
  refine .rd rfl rfl (by decide) rfl (by decide) (by simp[*,-cW,-cB]<;>first|exact⟨rfl,rfl⟩|exact rfl) ?_
  refine .rd rfl rfl (by decide) rfl (by decide) (by simp[*,-cW,-cB]<;>first|exact⟨rfl,rfl⟩|exact rfl) ?_
  refine .rd rfl rfl (by decide) rfl (by decide) (by simp[*,-cW,-cB]<;>first|exact⟨rfl,rfl⟩|exact rfl) ?_
  refine .rd rfl rfl (by decide) rfl (by decide) (by simp[*,-cW,-cB]<;>first|exact⟨rfl,rfl⟩|exact rfl) ?_
  refine .rd rfl rfl (by decide) rfl (by decide) (by simp[*,-cW,-cB]<;>first|exact⟨rfl,rfl⟩|exact rfl) ?_
  refine .rd rfl rfl (by decide) rfl (by decide) (by simp[*,-cW,-cB]<;>first|exact⟨rfl,rfl⟩|exact rfl) ?_
  refine .wp rfl rfl rfl rfl rfl call146 (te c.t (by omega)) ?_
  refine .ck rfl eM ?_
  refine .ck rfl eM ?_
  refine .rd rfl rfl (by decide) rfl (by decide) (by simp[*,-cW,-cB]<;>first|exact⟨rfl,rfl⟩|exact rfl) ?_
  refine .wp rfl rfl rfl rfl rfl call146 (te c.c (by omega)) ?_
  refine .ck rfl eM ?_
  refine .wr rfl rfl (by decide) (.call rfl rfl rfl call147 (by decide) (((cR.vN (by simp) (ZI c.g (by omega) vM) rfl vM)).mono ?_))
  rintro _ _ ⟨rfl,rfl⟩
  refine .wr rfl rfl (by decide) (.dS (by simp[*,-cW,-cB]<;>first|exact⟨rfl,rfl⟩|exact rfl) (by decide) ?_)
  refine .rd rfl rfl (by decide) rfl (by decide) (by simp[*,-cW,-cB]<;>first|exact⟨rfl,rfl⟩|exact rfl) ?_
  refine .wr rfl rfl (by decide) (.dS (by simp[*,-cW,-cB]<;>first|exact⟨rfl,rfl⟩|exact rfl) (by decide) ?_)
  refine .rd rfl rfl (by decide) rfl (by decide) (by simp[*,-cW,-cB]<;>first|exact⟨rfl,rfl⟩|exact rfl) ?_
  refine .wr rfl rfl (by decide) (.dS (by simp[*,-cW,-cB]<;>first|exact⟨rfl,rfl⟩|exact rfl) (by decide) ?_)
  refine .done (.seq (.seq ?_))
  refine .run af (by simp[*,-cW,-cB]<;>first|exact⟨rfl,rfl⟩|exact rfl) ?_
  refine .block ?_
  refine .dF (fun k:Nat=>([(1,.ptr 0 0),(2,.ptr 1 0),(32,.int .i64 c.g.length),(33,.int .i64 k)],⟨3,[(2,.arr true 2 (lM c.g)),(1,.box [.int .i64 0,.int .i64 0,.int .i64 0,.int .i64 0,.int .i64 0,.aF,.aF,.aF,.aF]),(0,.box [.int .i64 c.om,.int .i64 c.le,.int .i64 c.tw,.int .i64 c.gl,.int .i64 c.ad,.vec (c.mx.map bs),ints c.t,.sub 2 0 c.g.length,ints c.c])]⟩)) (fun k=>k≤c.g.length) (fun k=>c.g.length - k) 0 (by simp) (.mk [] [] (by repeat' (first|exact trivial|exact trivial|exact Alt.r7 2 2 _ _ 2 _ (aS rfl) rfl rfl (by simp) vM|exact Ri vM|refine And.intro (Exists.intro _ (And.intro rfl ?_)) ?_|(refine Alt.same _ ?_;first|rfl|(simp[*];done))|exact Alt.aY _ _ (aS rfl) rfl|exact Alt.grow _ _ _ _ (aS rfl) rfl|(refine Alt.xE _ _ _ _ _ ?_ (aS rfl) rfl;simp[*];done)|exact Alt.ptr _ _ _ (aS rfl) rfl|exact Alt.own _ _ _ _ _ (aS rfl) rfl|exact Alt.sub _ _ _ _ (aS rfl) rfl|exact Alt.bN _ _ (aS rfl) rfl|exact Alt.aF _ _|(refine Alt.mD _ _ _ ?_;simp[*];done)|exact Alt.e0 _|exact Alt.dv aA.nil (aA.cons (Alt.ptr _ _ _ (aS rfl) rfl) aA.nil)|exact Alt.dJ|exact Alt.lK _ _ _|(refine Alt.bJ _ _ _ _ _ rfl rfl ?_;simp[*];done)|exact Alt.gM _ _ _ _ _ _ _ _ rfl rfl rfl|exact Alt.dz _ _ rfl rfl|(refine Alt.xF ?_;simp[*]<;>rfl)|(refine Alt.ofEq rfl ?_;simp[*];done))) (by repeat' (first|exact trivial|exact trivial|exact Alt.r7 2 2 _ _ 2 _ (aS rfl) rfl rfl (by simp) vM|exact Ri vM|refine And.intro (And.intro (aS rfl) (Or.inr (And.intro rfl (Exists.intro _ (And.intro rfl ?_))))) ?_|refine And.intro (And.intro (aS rfl) (Or.inl (Exists.intro _ (And.intro rfl (aS rfl))))) ?_|refine And.intro (And.intro (aS rfl) (Or.inl (Exists.intro _ (And.intro (congrArg (aI.grow _) (by simp[*])) (aS rfl))))) ?_|rfl|exact aA.nil|(refine congrArg (aI.grow _) ?_;simp[*];done)|(refine congrArg aI.map ?_;simp[*];done)|(refine congrArg (aI.arr _ _) ?_;simp[*];done)|refine pY.mk rfl rfl rfl rfl rfl ?_|refine And.intro (Exists.intro _ (And.intro rfl ?_)) ?_|refine aA.cons ?_ ?_|(refine Alt.same _ ?_;first|rfl|(simp[*];done))|exact Alt.aY _ _ (aS rfl) rfl|exact Alt.grow _ _ _ _ (aS rfl) rfl|(refine Alt.xE _ _ _ _ _ ?_ (aS rfl) rfl;simp[*];done)|exact Alt.ptr _ _ _ (aS rfl) rfl|exact Alt.own _ _ _ _ _ (aS rfl) rfl|exact Alt.sub _ _ _ _ (aS rfl) rfl|exact Alt.bN _ _ (aS rfl) rfl|exact Alt.aF _ _|(refine Alt.mD _ _ _ ?_;simp[*];done)|exact Alt.e0 _|exact Alt.dv aA.nil (aA.cons (Alt.ptr _ _ _ (aS rfl) rfl) aA.nil)|exact Alt.dJ|exact Alt.lK _ _ _|(refine Alt.bJ _ _ _ _ _ rfl rfl ?_;simp[*];done)|exact Alt.gM _ _ _ _ _ _ _ _ rfl rfl rfl|exact Alt.dz _ _ rfl rfl|(refine Alt.xF ?_;simp[*]<;>rfl)|(refine Alt.ofEq rfl ?_;simp[*];done))) rfl rfl rfl) ?_
  rintro k iT
  simp only at iT ⊢
  refine .seq ?_
  refine .run af (by simp[*,-cW,-cB]<;>first|exact⟨rfl,rfl⟩|exact rfl) ?_
  refine .seq ?_
  refine .cs ?_ ?_<;>intro na
  ·try simp at na
   have rW:k<c.g.length:=na
   obtain⟨y,hy⟩:∃y,c.g[k]?=some y:=⟨c.g[k],List.getElem?_eq_getElem rW⟩
   have ZO:y∈c.g:=List.mem_of_getElem? hy
   have ss:=(bq.Ic y ZO).2.2.1
   have fV:=Rj hy
   have lL:=ZL hy
   have l4:k*2+1+1≤c.g.length*2:=by omega
   have eP:=fy k
   refine .skip (.seq (.block (.seq ?_)))
   refine .run af (by simp[*,-cW,-cB]<;>first|exact⟨rfl,rfl⟩|exact rfl) ?_
   refine .drawn (ms:=[0,1,0,0,8,0,56,120,248,504,1023,2047,4095]) (W:=[9,12]) (items:=[.op 0,.op 1,.op 2,.op 3,.op 4,.op 5,.op 6,.op 7,.op 8,.op 9,.ck 1,.op 10,.op 11,.op 12]) rfl af af af ?_
   refine .rd rfl rfl (by decide) rfl (by decide) (by simp[*,-cW,-cB]<;>first|exact⟨rfl,rfl⟩|exact rfl) ?_
   refine .rd rfl rfl (by decide) rfl (by decide) (by simp[*,-cW,-cB]<;>first|exact⟨rfl,rfl⟩|exact rfl) ?_
   refine .rd rfl rfl (by decide) rfl (by decide) (by simp[*,-cW,-cB]<;>first|exact⟨rfl,rfl⟩|exact rfl) ?_
   refine .rd rfl rfl (by decide) rfl (by decide) (by simp[*,-cW,-cB]<;>first|exact⟨rfl,rfl⟩|exact rfl) ?_
   refine .rd rfl rfl (by decide) rfl (by decide) (by simp[*,-cW,-cB]<;>first|exact⟨rfl,rfl⟩|exact rfl) ?_
   refine .rd rfl rfl (by decide) rfl (by decide) (by simp[*,-cW,-cB]<;>first|exact⟨rfl,rfl⟩|exact rfl) ?_
   refine .rd rfl rfl (by decide) rfl (by decide) (by simp[*,-cW,-cB]<;>first|exact⟨rfl,rfl⟩|exact rfl) ?_
   refine .rd rfl rfl (by decide) rfl (by decide) (by simp[*,-cW,-cB]<;>first|exact⟨rfl,rfl⟩|exact rfl) ?_
   refine .rd rfl rfl (by decide) rfl (by decide) (by simp[*,-cW,-cB]<;>first|exact⟨rfl,rfl⟩|exact rfl) ?_
   refine .wp rfl rfl rfl rfl rfl call146 (te y.ws (by omega)) ?_
   refine .ck rfl eM ?_
   refine .rd rfl rfl (by decide) rfl (by decide) (by simp[*,-cW,-cB]<;>first|exact⟨rfl,rfl⟩|exact rfl) ?_
   refine .rd rfl rfl (by decide) rfl (by decide) (by simp[*,-cW,-cB]<;>first|exact⟨rfl,rfl⟩|exact rfl) ?_
   refine .wr rfl rfl (by decide) (.dS (by simp[*,-cW,-cB]<;>first|exact⟨rfl,rfl⟩|exact rfl) (by decide) ?_)
   refine .done ?_
   refine .run af (by simp[*,-cW,-cB]<;>first|exact⟨rfl,rfl⟩|exact rfl) ?_
   refine⟨k+1,bt,bt,bx⟩
  try simp at na
  refine .exit (.seq ?_)
  refine .rec (ay:=[(1,.ptr 0 0),(2,.ptr 1 0)]) (aQ:=⟨2,[(1,.box [.int .i64 0,.int .i64 0,.int .i64 0,.int .i64 0,.int .i64 0,.aF,.aF,.aF,.aF]),(0,.box (cQ c))]⟩) (.mk [2] [] L3 L4 rfl rfl rfl) ?_
  refine .run af (by simp[*,-cW,-cB]<;>first|exact⟨rfl,rfl⟩|exact rfl) ?_
  refine .ret (aH ?_)
  exact zk
end Go.Am.Sl
end
