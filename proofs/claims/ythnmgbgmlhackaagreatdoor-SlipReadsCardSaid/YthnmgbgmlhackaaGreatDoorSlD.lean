/-
 What is used in the proof of a statement (part SlD); no condition.
-/
import Derived.Shelf.RegionOpenPlain
import Derived.WalkKit
import Derived.Deep.RegionLaw
import Derived.Lib.Walk
import Derived.Lib.SliceRun
import Derived.Test.YthnmgbgmlhackaaGreatDoorSlZ
import Derived.Test.YthnmgbgmlhackaaGreatDoorVm2
import Derived.Test.YthnmgbgmlhackaaGreatDoorSlT
import Derived.Test.YthnmgbgmlhackaaGreatDoorSlA
import Derived.Test.YthnmgbgmlhackaaGreatDoorSlC
import Derived.Test.YthnmgbgmlhackaaGreatDoorSlB
set_option linter.all false
set_option maxHeartbeats 40000000
set_option maxRecDepth 100000
section
namespace Go.Am.Sl
open Go Go.Am Go.Proofs Tryz
attribute [local simp] fZ jh tW eo jM pg ai.back dE ji nr bm Nat.testBit_eq_decide_div_mod_eq cN jL o9 vO sy kh sA jY dh qq qo ss ki su rp oz tU rm sv sg sd sh se sf sj sn pO gz lq fY sB qt rq sC sD pN tR tS kg pa iz gO iA nc jF qZ qe qf kL rY bp rl gN bZ cm nR ai.get ai.alloc ai.put ai.drop ai.empty bs dN jz kx gA cG chunk List.range List.range.loop ns tX oA bK cA PV.aH PV.aJ PV.dU PV.gM kQ kj ru PV.one PV.ids PV.di ia beq_eq vc xq
attribute [local simp] cQ bQ km jk gr
section
variable [bG]
theorem FY (a:Int):aN prog 179 [.int .i64 a] fun r=>r=.bool false:=by
 refine .bP func179 rfl rfl ?_
 refine .sr ?_
 refine .sr ?_
 refine .ret (aA ?_)
 exact zk
theorem vH (a b:Int):aN prog 157 [.int .i64 a,.int .i64 b] fun r=>r=.int .i64 (iJ a b):=by
 have hc:iJ a b=if a<b then -1 else if b<a then 1 else 0:=rfl
 refine .bP func157 rfl rfl ?_
 refine .sr ?_
 refine .seq (.au [0,1,2] rfl af (.rn [0] _ ?_))
 refine .pc rfl rfl rfl rfl rfl call179 (FY _) ?_
 refine .rn [2] [] ?_
 refine .done (.seq (.au [0,1,2] rfl af ?_))
 refine .rn [0] _ ?_
 refine .pc rfl rfl rfl rfl rfl call179 (FY _) ?_
 refine .rn [2] [] ?_
 refine .done (.seq (.sr ?_))
 refine .cs ?_ ?_<;>intro jq
 ·try simp at jq
 try simp at jq
 refine .skip (.seq (.sr ?_))
 refine .cs ?_ ?_<;>intro gg
 ·try simp at gg
 try simp at gg
 refine .skip (.seq (.sr ?_))
 refine .cs ?_ ?_<;>intro sG
 ·try simp at sG
  rw[if_pos sG] at hc
  refine .sr ?_
  refine .ret (aA ?_)
  exact zk
 try simp at sG
 rw[if_neg (by omega)] at hc
 refine .skip (.seq (.sr ?_))
 refine .cs ?_ ?_<;>intro jC
 ·try simp at jC
  rw[if_pos jC] at hc
  refine .sr ?_
  refine .ret (aA ?_)
  exact zk
 try simp at jC
 rw[if_neg (by omega)] at hc
 refine .skip (.sr ?_)
 refine .ret (aA ?_)
 exact zk
theorem LB (l:List Int)(hl:l.length<4294967296):aN prog 156 [ints l] fun r=>r=.int .i64 (s7 l):=by
 refine .bP func156 rfl rfl ?_
 refine .sr ?_
 refine .sr ?_
 refine .seq (.sr ?_)
 refine .block ?_
 refine .ec (fun i:Nat=>([(3,.int .i64 0),(6,ints l),(7,.int .i64 l.length),(8,.int .i64 i)],ai.empty)) (fun i=>i≤l.length∧∀x∈l.take i,x=0) (fun i=>l.length - i) 0 (by simp) (.pure (by simp[*]) (by simp)) ?_
 rintro i ⟨hi,hz⟩
 simp only at hi hz ⊢
 refine .sr ?_
 refine .seq ?_
 refine .cs ?_ ?_<;>intro c9
 ·try simp at c9
  have eO:=gD i
  have qx:i<l.length:=by omega
  refine .skip (.seq (.block (.sr ?_)))
  refine .sr ?_
  refine .cs ?_ ?_<;>intro gR
  ·try simp at gR
   have kP:=YF qx hz gR
   refine .sr ?_
   refine .ret (aA ?_)
   rw[kP]
  try simp at gR
  have jT:∀x∈l.take (i+1),x=0:=fun x hx=>by
   rw[List.take_succ_eq_append_getElem qx,List.mem_append,List.mem_singleton] at hx
   rcases hx with h|h
   ·exact hz x h
   rw[h];exact gR
  refine .skip (.rn ?_)
  refine⟨i+1,⟨bC,jT⟩,bC,.pure (by simp[*]) (by simp)⟩
 try simp at c9
 have:i=l.length:=by omega
 have kP:=YG (l:=l) (fun x hx=>hz x (by rw[this,List.take_length];exact hx))
 refine .exit (.sr ?_)
 refine .ret (aA ?_)
 rw[kP]
theorem LC (a b:aq):aN prog 118 [encS a,encS b] fun r=>r=.int .i64 (mO a b):=by
 unfold encS mO
 have FZ:=LB [iJ a.a b.a,iJ a.i b.i,iJ a.k b.k,iJ a.l b.l,iJ a.w b.w] (by simp)
 simp only[ints,List.map] at FZ
 refine .bP func118 rfl rfl ?_
 refine .sr ?_
 refine .seq ?_
 refine .drawn (ms:=[0,1,0,4,15,0,32,0,128,511,0,1024,0,4096,16383,0,32768,0,131072,524287,0,1048576,0,4194304,16777215,33554431,67108863,134217727]) (W:=[4,9,14,19,24,25,26]) (items:=[.op 0,.op 1,.op 2,.op 3,.op 5,.op 6,.op 7,.op 8,.op 10,.op 11,.op 12,.op 13,.op 15,.op 16,.op 17,.op 18,.op 20,.op 21,.op 22,.op 23,.op 4,.ck 23,.ck 21,.ck 18,.ck 16,.ck 13,.ck 11,.ck 8,.ck 6,.op 9,.ck 23,.ck 21,.ck 18,.ck 16,.ck 13,.ck 11,.op 14,.ck 23,.ck 21,.ck 18,.ck 16,.op 19,.ck 23,.ck 21,.op 24,.op 25,.op 26,.op 27]) rfl af af af ?_
 iterate 20 refine .rx ?_
 refine .wp rfl rfl rfl rfl rfl call157 (vH _ _) ?_
 refine .ck rfl eQ ?_
 refine .ck rfl eQ ?_
 refine .ck rfl eQ ?_
 refine .ck rfl eQ ?_
 refine .ck rfl eQ ?_
 refine .ck rfl eQ ?_
 refine .ck rfl eQ ?_
 refine .ck rfl eQ ?_
 refine .wp rfl rfl rfl rfl rfl call157 (vH _ _) ?_
 refine .ck rfl eQ ?_
 refine .ck rfl eQ ?_
 refine .ck rfl eQ ?_
 refine .ck rfl eQ ?_
 refine .ck rfl eQ ?_
 refine .ck rfl eQ ?_
 refine .wp rfl rfl rfl rfl rfl call157 (vH _ _) ?_
 refine .ck rfl eQ ?_
 refine .ck rfl eQ ?_
 refine .ck rfl eQ ?_
 refine .ck rfl eQ ?_
 refine .wp rfl rfl rfl rfl rfl call157 (vH _ _) ?_
 refine .ck rfl eQ ?_
 refine .ck rfl eQ ?_
 refine .wp rfl rfl rfl rfl rfl call157 (vH _ _) ?_
 refine .wv ?_
 refine .wr rfl rfl (by decide) (.Iv rfl rfl rfl call156 (by decide) (by first|(simp<;>rfl)|(simp[*]<;>rfl)|(simp[*];done)) (FZ) ?_)
 rintro _ rfl
 refine .rx ?_
 refine .done (.ret (aA ?_))
 exact zk
end
end Go.Am.Sl
end
section
namespace Go.Am.Sl
open Go Go.Am Go.Proofs Tryz Go.Shelf Go.Sort
def YH:Ren where
  f := fun x => match x with
    |6=>117
    |15=>155
    |14=>154
    |28=>177
    |29=>178
    |20=>169
    |21=>170
    |22=>171
    |23=>172
    |24=>173
    |25=>174
    |26=>175
    |27=>176
    |46=>183
    |47=>184
    |48=>185
    |49=>186
    |50=>187
    |57=>191
    |n=>n
  t := fun x => match x with
    |22=>31
    |24=>48
    |25=>192
    |3=>3
    |39=>228
    |0=>0
    |53=>256
    |55=>258
    |4=>4
    |46=>250
    |45=>249
    |50=>147
    |5=>5
    |9=>9
    |66=>260
    |70=>174
    |76=>269
    |77=>270
    |n=>n
  g:=fun n=>n
theorem LD:SlLaysF0.n6 prog YH where
  mixed:=rfl
  f6:=⟨ "slices.SortFunc[[]pecia/api.Slip,pecia/api.Slip]", by decide,func117⟩
  f14:=⟨ "slices.pdqsortCmpFunc[pecia/api.Slip]", by decide,func154⟩
  f15:=func155
  f20:=⟨ "slices.insertionSortCmpFunc[pecia/api.Slip]", by decide,func169⟩
  f21:=⟨ "slices.heapSortCmpFunc[pecia/api.Slip]", by decide,func170⟩
  f22:=⟨ "slices.breakPatternsCmpFunc[pecia/api.Slip]", by decide,func171⟩
  f23:=⟨ "slices.choosePivotCmpFunc[pecia/api.Slip]", by decide,func172⟩
  f24:=⟨ "slices.reverseRangeCmpFunc[pecia/api.Slip]", by decide,func173⟩
  f25:=⟨ "slices.partialInsertionSortCmpFunc[pecia/api.Slip]", by decide,func174⟩
  f26:=⟨ "slices.partitionEqualCmpFunc[pecia/api.Slip]", by decide,func175⟩
  f27:=⟨ "slices.partitionCmpFunc[pecia/api.Slip]", by decide,func176⟩
  f28:=func177
  f29:=func178
  f46:=⟨ "slices.siftDownCmpFunc[pecia/api.Slip]", by decide,func183⟩
  f47:=func184
  f48:=func185
  f49:=⟨ "slices.medianAdjacentCmpFunc[pecia/api.Slip]", by decide,func186⟩
  f50:=⟨ "slices.medianCmpFunc[pecia/api.Slip]", by decide,func187⟩
  f57:=⟨ "slices.order2CmpFunc[pecia/api.Slip]", by decide,func191⟩
  t0:=underlying0
  a0:=isAgg0
  z0:=sizeOf0
  v0:=zeroValue0
  t3:=underlying3
  a3:=isAgg3
  z3:=sizeOf3
  v3:=zeroValue3
  t4:=underlying4
  a4:=isAgg4
  z4:=sizeOf4
  v4:=zeroValue4
  t5:=underlying5
  a5:=isAgg5
  z5:=sizeOf5
  v5:=zeroValue5
  t9:=underlying9
  a9:=isAgg9
  z9:=sizeOf9
  v9:=zeroValue9
  t22:=underlying31
  a22:=isAgg31
  z22:=sizeOf31
  v22:=zeroValue31
  t25:=underlying192
  a25:=isAgg192
  z25:=sizeOf192
  v25:=zeroValue192
  t39:=underlying228
  a39:=isAgg228
  z39:=sizeOf228
  v39:=zeroValue228
  t45:=underlying249
  a45:=isAgg249
  z45:=sizeOf249
  v45:=zeroValue249
  t46:=underlying250
  a46:=isAgg250
  z46:=sizeOf250
  v46:=zeroValue250
  t50:=underlying147
  a50:=isAgg147
  z50:=sizeOf147
  v50:=zeroValue147
  t53:=underlying256
  a53:=isAgg256
  z53:=sizeOf256
  v53:=zeroValue256
  t55:=underlying258
  a55:=isAgg258
  z55:=sizeOf258
  v55:=zeroValue258
  t66:=underlying260
  a66:=isAgg260
  z66:=sizeOf260
  v66:=zeroValue260
  t70:=underlying174
  a70:=isAgg174
  z70:=sizeOf174
  v70:=zeroValue174
  t76:=underlying269
  a76:=isAgg269
  z76:=sizeOf269
  v76:=zeroValue269
  t77:=underlying270
  a77:=isAgg270
  z77:=sizeOf270
  v77:=zeroValue270
instance:Inhabited aq:=⟨⟨0,0,0,0,0⟩⟩
def lS (s:aq):List Int:=[s.k,s.a,s.i,s.l,s.w]
theorem F0 (a b:aq):ltOf mO a b=decide (a.lt b):=by
 unfold ltOf
 exact decide_eq_decide.2 YI
theorem LF:SWO (ltOf mO) where
  irrefl x:=by rw[F0,decide_eq_false_iff_not];exact aq.F1 x
  trans x y z h1 h2:=by rw[F0,decide_eq_true_eq] at *;exact aq.lt_trans h1 h2
  ntrans x y z h1 h2:=by
    rw[F0,decide_eq_false_iff_not] at *
    unfold aq.lt at *
    omega
theorem YJ:AA mO=DH:=by
 funext a b
 unfold AA DH
 rw[F0]
theorem LG (x y:aq)(h1:ltOf mO x y=false)(h2:ltOf mO y x=false):x=y:=by
 rw[F0,decide_eq_false_iff_not] at *
 rcases aq.Qw x y with h|h|h
 ·exact absurd h h1
 ·exact h
 exact absurd h h2
variable [bG] in
theorem LH {vh:ai}{i n:Nat}{nl:Bool}{zs:List aq}(hg:vh.get i=some (.grow 5 (zs.map encS)))(hn:zs.length=n) :
  du prog 117 [.grow i n nl,.func 118 [] []] vh fun r ak=>r=.bn []∧ak=vh.put i (.grow 5 ((zs.mergeSort DH).map encS)):=by
 have:=du.YK LD (α:=aq) (k:=5) (by decide) (fun w=>isAgg48 w) (fun w=>sizeOf48 w) lS (fun _=>rfl) mO LF LG 118 call118 (fun x y w=>aN.cmp (a:=lS x) (b:=lS y) (@LC bG.no x y) w) (vh:=vh) (i:=i) (n:=n) (nl:=nl) (zs:=zs) hg hn
 rw[YJ] at this
 exact this
abbrev kX:Int:=1099511627776
theorem YL {p:aR→Bool}(l:List aR):∀ {o:lX} {k:Nat},nC o k→100*(k:Int)+100*(l.length:Int)+100≤kX→(∀x∈l,0≤x.n∧x.n≤100)→l.foldl (eD p) (val kX o)=val kX (y5 o (l.filter p)):=by
 generalize hF:kX=F
 have Qx:F=1099511627776:=hF.symm
 induction l with
 |nil=>exact fun _ _ _=>rfl
 |cons x r ih=>
  intro o k h hf hx
  have h1:=hx x List.mem_cons_self
  have Qy:=fun y hy=>hx y (List.mem_cons_of_mem _ hy)
  simp only[List.length_cons] at hf
  have Qz:100*((k+1:Nat):Int)+100*(r.length:Int)+100≤F:=by omega
  have hs:100*(k:Int)+100≤F:=by omega
  have hl:100*(k:Int)<F:=by omega
  rw[List.foldl_cons,List.filter_cons]
  cases hp:p x with
  |false=>
   have:eD p (val F o) x=val F o:=by unfold eD;rw[if_neg (by simp[hp])]
   rw[this]
   exact ih (h.mono (Nat.le_succ k)) Qz Qy
  |true=>
   have:eD p (val F o) x=val F (mB o x):=by
    unfold eD
    by_cases hv:val F o x.i x.j<F
    ·rw[if_pos ⟨by rw[← Qx];exact hv,hp⟩,YM h hs h1.1 h1.2]
    rw[if_neg (fun hh=>hv (by rw[Qx] at *;exact hh.1)),YN h hl hv]
   rw[this]
   exact ih (h.mB h1.1 h1.2) Qz Qy
theorem YO:bz (fun _ _=>(1099511627776:Int)) 0 0 0=val kX start:=by
 funext a b
 unfold bz val start
 split<;>rfl
theorem YP {c:ao}(hr:Rt c)(p:aR→Bool):fwd c p=val kX (mP ((graph c).filter p)):=by
 unfold fwd
 rw[YO]
 have:=IA hr
 exact YL (graph c) nC.start (by simp only[kX];omega) (QA hr)
theorem YQ {c:ao}(hr:Rt c)(p:aR→Bool):nC (mP ((graph c).filter p)) 139258:=by
 have h:=(nC.foldl (l:=(graph c).filter p) nC.start fun x hx=>QA hr x (List.mem_filter.1 hx).1)
 refine h.mono ?_
 have h1:=IA hr
 have h2:=List.length_filter_le p (graph c)
 omega
theorem YR {c:ao}(hr:Rt c):aZ c=val kX (mP (graph c)):=by
 have:=YP hr fun _=>true
 rwa [List.filter_eq_self.2 fun _ _=>rfl] at this
theorem YS {c:ao}(hr:Rt c):nC (mP (graph c)) 139258:=by
 have:=YQ hr fun _=>true
 rwa [List.filter_eq_self.2 fun _ _=>rfl] at this
theorem IB {c:ao}:∀(l:List (Nat×Nat)) {D:Nat→Nat→Int} {i j:Nat},Rt c→(∀q∈l,¬(i=c.t.length - q.1∧j=c.c.length - q.2))→l.foldl (oF c) D i j=D i j
 |[],_,_,_,_,_=>rfl
 |q::r,D,i,j,hr,h=>by
  rw[List.foldl_cons,IB r hr fun q' b8=>h q' (List.mem_cons_of_mem _ b8)]
  have hq:=h q List.mem_cons_self
  unfold oF
  split
  ·rfl
  have:∀(l:List aR) (D:Nat→Nat→Int),(∀x∈l,x.i=c.t.length - q.1∧x.j=c.c.length - q.2)→l.foldl iH D i j=D i j:=by
   intro l
   induction l with
   |nil=>exact fun _ _=>rfl
   |cons x r ih=>
    intro D hx
    rw[List.foldl_cons,ih _ fun y hy=>hx y (List.mem_cons_of_mem _ hy)]
    have:=hx x List.mem_cons_self
    unfold iH bz
    rw[if_neg (by rw[this.1,this.2];exact hq)]
  rw[this _ _ fun x hx=>⟨(jn hr hx).fi,(jn hr hx).fj⟩]
  unfold bz
  rw[if_neg hq]
theorem QB {i j:Nat}:∀(l:List aR) (D:Nat→Nat→Int),(∀x∈l,x.i=i∧x.j=j∧¬(x.i'=i∧x.j'=j))→l.foldl iH D i j=l.foldl (fun m x=>min m (D x.i' x.j'+x.n)) (D i j)
 |[],_,_=>rfl
 |x::r,D,h=>by
  obtain⟨h1,h2,h3⟩:=h x List.mem_cons_self
  rw[List.foldl_cons,QB r _ fun y hy=>h y (List.mem_cons_of_mem _ hy),List.foldl_cons]
  have e1:iH D x i j=min (D i j) (D x.i' x.j'+x.n):=by unfold iH bz;rw[h1,h2,if_pos ⟨rfl,rfl⟩]
  rw[e1]
  have:∀(l:List aR) (m:Int),(∀y∈l,¬(y.i'=i∧y.j'=j))→l.foldl (fun m y=>min m (iH D x y.i' y.j'+y.n)) m=l.foldl (fun m y=>min m (D y.i' y.j'+y.n)) m:=by
   intro l
   induction l with
   |nil=>exact fun _ _=>rfl
   |cons y r ih=>
    intro m hy
    rw[List.foldl_cons,List.foldl_cons,ih _ fun z hz=>hy z (List.mem_cons_of_mem _ hz)]
    have e2:iH D x y.i' y.j'=D y.i' y.j':=by unfold iH bz;rw[h1,h2,if_neg (hy y List.mem_cons_self)]
    rw[e2]
  exact this r _ fun y hy=>(h y (List.mem_cons_of_mem _ hy)).2.2
theorem DI {c:ao}(hr:Rt c):bwd c c.t.length c.c.length=0:=by
 obtain⟨r,hp⟩:=Lt c (Nat.zero_le _) (Nat.zero_le _)
 have hp:places c=(0,0)::r:=by rw[hp];rfl
 have hl:=IC c
 rw[hp,List.pairwise_cons] at hl
 unfold bwd
 rw[hp,List.foldl_cons]
 have e0:oF c (bz (fun _ _=>1099511627776) c.t.length c.c.length 0) (0,0)=bz (fun _ _=>1099511627776) c.t.length c.c.length 0:=by unfold oF;rw[if_pos ⟨rfl,rfl⟩]
 rw[e0,IB r hr fun q hq=>?_]
 ·unfold bz;rw[if_pos ⟨rfl,rfl⟩]
 have h1:=hl.1 q hq
 have h2:q∈places c:=by rw[hp];exact List.mem_cons_of_mem _ hq
 have h3:=xE.1 (show (q.1,q.2)∈places c from h2)
 unfold s8 at h1
 simp only at h1
 omega
theorem QC {c:ao}(hr:Rt c){i j:Nat}(hi:i≤c.t.length)(hj:j≤c.c.length)(he:¬(i=c.t.length∧j=c.c.length)) :
  bwd c i j=(steps c i j).foldl (fun m x=>min m (bwd c x.i' x.j'+x.n)) kX:=by
 obtain⟨a,ha⟩:∃a,a=c.t.length - i:=⟨_,rfl⟩
 obtain⟨b,hb⟩:∃b,b=c.c.length - j:=⟨_,rfl⟩
 obtain⟨j4,hp⟩:=Lt c (i:=a) (j:=b) (by omega) (by omega)
 obtain⟨pre,Bv⟩:∃pre,pre=mu (c.c.length+1) a b:=⟨_,rfl⟩
 rw[← Bv] at hp
 have hl:=IC c
 rw[hp,List.pairwise_append,List.pairwise_cons] at hl
 obtain⟨_,⟨lj,_⟩,BD⟩:=hl
 obtain⟨D,hD⟩:∃D,pre.foldl (oF c) (bz (fun _ _=>1099511627776) c.t.length c.c.length 0)=D:=⟨_,rfl⟩
 have kf:bwd c=j4.foldl (oF c) (oF c D (a,b)):=by unfold bwd;rw[hp,List.foldl_append,List.foldl_cons,hD]
 have cS:bwd c=((a,b)::j4).foldl (oF c) D:=kf
 have dm:∀q∈j4,q.1≤c.t.length∧q.2≤c.c.length:=fun q hq=>xE.1 (show (q.1,q.2)∈places c by rw[hp];exact List.mem_append_right _ (List.mem_cons_of_mem _ hq))
 have h1:bwd c i j=oF c D (a,b) i j:=by
  rw[kf]
  refine IB j4 hr fun q hq=>?_
  have:=lj q hq
  have:=dm q hq
  unfold s8 at *
  simp only at *
  omega
 have gu:¬(a=0∧b=0):=by omega
 have ei:c.t.length - a=i:=by omega
 have ej:c.c.length - b=j:=by omega
 rw[h1]
 unfold oF
 rw[if_neg gu]
 simp only[ei,ej]
 have hx:∀x∈steps c i j,x.i=i∧x.j=j∧¬(x.i'=i∧x.j'=j):=fun x hx=>by
  have:=jn hr hx
  have h1:=this.uh;have h2:=this.ui;have h3:=this.on
  exact⟨this.fi,this.fj,by omega⟩
 rw[QB _ _ hx]
 have e0:bz D i j 1099511627776 i j=kX:=by unfold bz;rw[if_pos ⟨rfl,rfl⟩]
 rw[e0]
 have:∀(l:List aR) (m:Int),(∀x∈l,x∈steps c i j)→l.foldl (fun m x=>min m (bz D i j 1099511627776 x.i' x.j'+x.n)) m=l.foldl (fun m x=>min m (bwd c x.i' x.j'+x.n)) m:=by
  intro l
  induction l with
  |nil=>exact fun _ _=>rfl
  |cons x r ih=>
   intro m hm
   rw[List.foldl_cons,List.foldl_cons,ih _ fun y hy=>hm y (List.mem_cons_of_mem _ hy)]
   have q7:=hm x List.mem_cons_self
   have ho:=jn hr q7
   have h1:=ho.uh;have h2:=ho.ui;have h3:=ho.on;have h4:=ho.it;have h5:=ho.jt
   have e1:bz D i j 1099511627776 x.i' x.j'=D x.i' x.j':=by unfold bz;rw[if_neg (hx x q7).2.2]
   have e2:bwd c x.i' x.j'=D x.i' x.j':=by
    rw[cS]
    refine IB _ hr fun q hq=>?_
    rcases List.mem_cons.1 hq with rfl|hq
    ·simp only;omega
    have:=lj q hq
    have:=dm q hq
    unfold s8 at *
    simp only at *
    omega
   rw[e1,e2]
 exact this _ _ fun x hx=>hx
theorem QD {f:aR→Int}:∀(l:List aR) (m:Int),l.foldl (fun m x=>min m (f x)) m≤m∧∀x∈l,l.foldl (fun m x=>min m (f x)) m≤f x
 |[],m=>⟨Int.le_refl _,fun x hx=>by cases hx⟩
 |a::r,m=>by
  obtain⟨h1,h2⟩:=QD (f:=f) r (min m (f a))
  rw[List.foldl_cons]
  refine⟨by omega,fun x hx=>?_⟩
  rcases List.mem_cons.1 hx with rfl|hx
  ·omega
  exact h2 x hx
theorem QE {f:aR→Int}:∀(l:List aR) (m:Int),l.foldl (fun m x=>min m (f x)) m=m∨∃x∈l,l.foldl (fun m x=>min m (f x)) m=f x
 |[],m=>.inl rfl
 |a::r,m=>by
  rw[List.foldl_cons]
  rcases QE (f:=f) r (min m (f a)) with h|⟨x,hx,h⟩
  ·rw[h]
   rcases Int.le_total m (f a) with hm|hm
   ·exact .inl (by omega)
   exact .inr ⟨a,List.mem_cons_self,by omega⟩
  exact .inr ⟨x,List.mem_cons_of_mem _ hx,h⟩
theorem QF {c:ao}(hr:Rt c){i j:Nat}(hi:i<c.t.length)(hj:j≤c.c.length):(⟨i,j,i+1,j,c.om,some ⟨2,i,j,0,0⟩⟩:aR)∈steps c i j:=by
 unfold steps
 refine List.mem_append_right _ (List.mem_filterMap.2 ⟨⟨2,i,j,0,0⟩,?_,?_⟩)
 ·unfold kE;simp
 have hd:aK c ⟨2,i,j,0,0⟩=some (c.om,i+1,[]):=by
  unfold aK
  rw[if_pos (by simp;omega)]
  simp[hi]
 have hb:hasB c j []=true:=by unfold hasB;simp;exact hj
 unfold stepOf
 rw[hd]
 simp only[hb,if_true]
 rfl
theorem QG {c:ao}(hr:Rt c){i j:Nat}(hi:i≤c.t.length)(hj:j<c.c.length):(⟨i,j,i,j+1,c.ad,some ⟨6,i,j,0,c.c.getD j 0⟩⟩:aR)∈steps c i j:=by
 have hw:fa (c.c.getD j 0)=true:=hr.YT _ (QH hj)
 unfold steps
 refine List.mem_append_right _ (List.mem_filterMap.2 ⟨⟨6,i,j,0,c.c.getD j 0⟩,?_,?_⟩)
 ·unfold kE;simp[hj]
 have hd:aK c ⟨6,i,j,0,c.c.getD j 0⟩=some (c.ad,i,[c.c.getD j 0]):=by
  unfold aK
  rw[if_pos (by simp;omega)]
  simp only[show ¬((6:Int)=1) by decide,show ¬((6:Int)=2) by decide,show ¬((6:Int)=3) by decide,show ¬((6:Int)=4) by decide,show ¬((6:Int)=5) by decide,if_false,if_true]
  rw[if_pos ⟨hw,by simp⟩,Int.toNat_natCast]
 have hb:hasB c j [c.c.getD j 0]=true:=by
  unfold hasB
  rw[bV,decide_eq_true_eq,decide_eq_true_eq]
  refine⟨by simp;omega,?_⟩
  rw[List.getD_eq_getElem?_getD,List.getElem?_eq_getElem hj]
  simp only[List.length_singleton,Option.getD_some]
  rw[List.drop_eq_getElem_cons hj,List.take_succ_cons,List.take_zero]
 unfold stepOf
 rw[hd]
 simp only[hb,if_true]
 rfl
theorem Cl {c:ao}{i j:Nat}{x:aR}(hi:i≤c.t.length)(hj:j≤c.c.length)(h:x∈steps c i j):x∈graph c:=F2.2 ⟨i,j,hi,hj,h⟩
theorem Cm {c:ao}(hr:Rt c){x:aR}(h:x∈graph c):x∈steps c x.i x.j∧x.i≤c.t.length∧x.j≤c.c.length:=by
 obtain⟨i,j,hi,hj,hx⟩:=F2.1 h
 have h1:=jn hr hx
 have e1:=h1.fi;have e2:=h1.fj
 subst e1;subst e2
 exact⟨hx,hi,hj⟩
theorem LI {c:ao}(hr:Rt c){x:aR}(h:x∈graph c):bwd c x.i x.j≤bwd c x.i' x.j'+x.n:=by
 obtain⟨h1,h2,h3⟩:=Cm hr h
 have ho:=jn hr h1
 by_cases he:x.i=c.t.length∧x.j=c.c.length
 ·have:=ho.uh;have:=ho.ui;have:=ho.on;have:=ho.it;have:=ho.jt
  omega
 rw[QC hr h2 h3 he]
 exact(QD (f:=fun x=>bwd c x.i' x.j'+x.n) _ _).2 x h1
theorem LJ {c:ao}(hr:Rt c):∀(k i j:Nat),i≤c.t.length→j≤c.c.length→(c.t.length - i)+(c.c.length - j)=k→bwd c i j≤100*(k:Int)
 |0,i,j,hi,hj,hk=>by
  obtain rfl:i=c.t.length:=by omega
  obtain rfl:j=c.c.length:=by omega
  rw[DI hr];simp
 |k+1,i,j,hi,hj,hk=>by
  by_cases h:i<c.t.length
  ·have h1:=LI hr (Cl hi hj (QF hr h hj))
   have h2:=LJ hr k (i+1) j (by omega) hj (by omega)
   have h3:=hr.om
   simp only at h1
   omega
  have mY:j<c.c.length:=by omega
  have h1:=LI hr (Cl hi hj (QG hr hi mY))
  have h2:=LJ hr k i (j+1) hi (by omega) (by omega)
  have h3:=hr.ad
  simp only at h1
  omega
theorem QI {c:ao}(hr:Rt c){i j:Nat}(hi:i≤c.t.length)(hj:j≤c.c.length)(he:¬(i=c.t.length∧j=c.c.length)):∃x∈steps c i j,bwd c i j=bwd c x.i' x.j'+x.n:=by
 have h1:=QC hr hi hj he
 rcases QE (f:=fun x=>bwd c x.i' x.j'+x.n) (steps c i j) kX with h|⟨x,hx,h⟩
 ·exfalso
  rw[h] at h1
  have:=LJ hr _ i j hi hj rfl
  have:=hr.tl;have:=hr.cl
  simp only[kX] at h1
  omega
 exact⟨x,hx,h1.trans h⟩
theorem LK {c:ao}(hr:Rt c):∀(k i j:Nat),i≤c.t.length→j≤c.c.length→(c.t.length - i)+(c.c.length - j)≤k→∃w,Way (graph c) i j c.t.length c.c.length (bwd c i j) w
 |0,i,j,hi,hj,hk=>by
  obtain rfl:i=c.t.length:=by omega
  obtain rfl:j=c.c.length:=by omega
  rw[DI hr];exact⟨[],.nil _ _⟩
 |k+1,i,j,hi,hj,hk=>by
  by_cases he:i=c.t.length∧j=c.c.length
  ·obtain⟨rfl,rfl⟩:=he
   rw[DI hr];exact⟨[],.nil _ _⟩
  obtain⟨x,hx,h⟩:=QI hr hi hj he
  have ho:=jn hr hx
  have h1:=ho.uh;have h2:=ho.ui;have h3:=ho.on;have h4:=ho.it;have h5:=ho.jt
  obtain⟨w,hw⟩:=LK hr k x.i' x.j' h4 h5 (by omega)
  refine⟨x::w,?_⟩
  have:=Way.cons x (Cl hi hj hx) hw
  rw[ho.fi,ho.fj] at this
  rw[h,Int.add_comm]
  exact this
theorem YU {c:ao}(hr:Rt c){i j:Nat}{n:Int}{w:List aR}(h:Way (graph c) i j c.t.length c.c.length n w):bwd c i j≤n:=by
 have:∀ {i j a b:Nat} {n:Int} {w:List aR},Way (graph c) i j a b n w→bwd c i j≤bwd c a b+n:=by
  intro i j a b n w h
  induction h with
  |nil i j=>omega
  |cons x hx h ih=>have:=LI hr hx;omega
 have:=this h
 rw[DI hr] at this
 omega
theorem LM {c:ao}(hr:Rt c):∀(k i j:Nat),i≤c.t.length→j≤c.c.length→i+j=k→∃n w,Way (graph c) 0 0 i j n w∧n≤100*(k:Int)
 |0,i,j,hi,hj,hk=>by
  obtain rfl:i=0:=by omega
  obtain rfl:j=0:=by omega
  exact⟨0,[],.nil 0 0,by simp⟩
 |k+1,i,j,hi,hj,hk=>by
  by_cases h:0<i
  ·obtain⟨a,rfl⟩:∃a,i=a+1:=⟨i - 1,by omega⟩
   obtain⟨n,w,hw,hn⟩:=LM hr k a j (by omega) hj (by omega)
   have hs:=Cl (by omega) hj (QF hr (show a<c.t.length by omega) hj)
   have h3:=hr.om
   exact⟨n+c.om,_,hw.snoc hs rfl rfl,by omega⟩
  obtain rfl:i=0:=by omega
  obtain⟨b,rfl⟩:∃b,j=b+1:=⟨j - 1,by omega⟩
  obtain⟨n,w,hw,hn⟩:=LM hr k 0 b hi (by omega) (by omega)
  have hs:=Cl hi (by omega) (QG hr hi (show b<c.c.length by omega))
  have h3:=hr.ad
  exact⟨n+c.ad,_,hw.snoc hs rfl rfl,by omega⟩
theorem LN {c:ao}(hr:Rt c){i j:Nat}(hi:i≤c.t.length)(hj:j≤c.c.length):mP (graph c) i j=some (aZ c i j)∧0≤aZ c i j∧aZ c i j≤100*((i:Int)+j):=by
 obtain⟨n,w,hw,hn⟩:=LM hr _ i j hi hj rfl
 obtain⟨v,h1,h2⟩:=QJ (QK hr) hw
 have h3:=YS hr i j v h1
 rw[YR hr,QL h1]
 exact⟨h1,h3.1,by omega⟩
theorem LO {c:ao}(hr:Rt c){i j:Nat}(hi:i≤c.t.length)(hj:j≤c.c.length):∃w,Way (graph c) 0 0 i j (aZ c i j) w:=YV (LN hr hi hj).1
theorem YW {c:ao}(hr:Rt c){i j a b:Nat}{n:Int}{w:List aR}(h:Way (graph c) i j a b n w):i≤c.t.length→j≤c.c.length→a≤c.t.length∧b≤c.c.length:=by
 induction h with
 |nil i j=>exact fun h1 h2=>⟨h1,h2⟩
 |cons x hx h ih=>exact fun _ _=>ih (jn hr (Cm hr hx).1).it (jn hr (Cm hr hx).1).jt
theorem ID {c:ao}(hr:Rt c){i j:Nat}{n:Int}{w:List aR}(h:Way (graph c) 0 0 i j n w):aZ c i j≤n:=by
 obtain⟨hi,hj⟩:=YW hr h (Nat.zero_le _) (Nat.zero_le _)
 obtain⟨v,h1,h2⟩:=QJ (QK hr) h
 rw[(LN hr hi hj).1] at h1
 injection h1 with h1
 omega
theorem YX {c:ao}(hr:Rt c){x:aR}(h:x∈graph c):aZ c x.i' x.j'≤aZ c x.i x.j+x.n:=by
 obtain⟨h1,h2,h3⟩:=Cm hr h
 obtain⟨w,hw⟩:=LO hr h2 h3
 exact ID hr (hw.snoc h rfl rfl)
theorem QM {c:ao}(hr:Rt c):aZ c 0 0=0:=by
 have h1:=ID hr (.nil 0 0)
 have h2:=(LN hr (Nat.zero_le _) (Nat.zero_le _)).2.1
 omega
def rI (c:ao):Int:=aZ c c.t.length c.c.length
theorem LP {c:ao}(hr:Rt c):rI c=bwd c 0 0:=by
 obtain⟨w,hw⟩:=LO hr (Nat.le_refl c.t.length) (Nat.le_refl c.c.length)
 have h1:=YU hr hw
 obtain⟨w2,eO⟩:=LK hr _ 0 0 (Nat.zero_le _) (Nat.zero_le _) (Nat.le_refl _)
 have h2:=ID hr eO
 unfold rI
 omega
theorem YY {c:ao}(hr:Rt c){i j:Nat}(hi:i≤c.t.length)(hj:j≤c.c.length):rI c≤aZ c i j+bwd c i j:=by
 obtain⟨w,hw⟩:=LO hr hi hj
 obtain⟨w2,eO⟩:=LK hr _ i j hi hj (Nat.le_refl _)
 exact ID hr (hw.append eO)
theorem QN {c:ao}(hr:Rt c){i j:Nat}(hi:i≤c.t.length)(hj:j≤c.c.length)(he:¬(i=c.t.length∧j=c.c.length))(ht:aZ c i j+bwd c i j=rI c):∃x∈steps c i j,iI c x=true:=by
 obtain⟨x,hx,h⟩:=QI hr hi hj he
 refine⟨x,hx,?_⟩
 have ho:=jn hr hx
 unfold iI
 rw[decide_eq_true_eq,ho.fi,ho.fj]
 show _=rI c
 omega
theorem QO {c:ao}(hr:Rt c){x:aR}(h:x∈graph c)(ht:iI c x=true):aZ c x.i' x.j'+bwd c x.i' x.j'=rI c:=by
 unfold iI at ht
 rw[decide_eq_true_eq] at ht
 have h1:=YX hr h
 obtain⟨h2,_,_⟩:=Cm hr h
 have h4:=YY hr (jn hr h2).it (jn hr h2).jt
 unfold rI at *
 omega
def uk (c:ao)(i j:Nat):Option aR:=(steps c i j).find? (iI c)
def AB (c:ao):Nat→Nat→Nat→List aR
 |0,_,_=>[]
 |n+1,i,j=>match uk c i j with
  |some x=>x::AB c n x.i' x.j'
  |none=>[]
def y6 (c:ao):List aR:=AB c (c.t.length+c.c.length) 0 0
def lY (l:List aR):List aq:=l.filterMap (·.s)
def vI (c:ao):List aq:=lY (y6 c)
theorem YZ {c:ao}(hr:Rt c):steps c c.t.length c.c.length=[]:=by
 refine List.eq_nil_iff_forall_not_mem.2 fun x hx=>?_
 have h:=jn hr hx
 have:=h.uh;have:=h.ui;have:=h.on;have:=h.it;have:=h.jt
 omega
theorem LQ {c:ao}(hr:Rt c):uk c c.t.length c.c.length=none:=by unfold uk;rw[YZ hr];rfl
theorem LR {c:ao}{i j:Nat}{x:aR}(h:uk c i j=some x):x∈steps c i j∧iI c x=true:=⟨List.mem_of_find?_eq_some h,List.find?_some h⟩
theorem Y0 {c:ao}{i j:Nat}{pre j4:List aR}{x:aR}(h:steps c i j=pre++x::j4)(hp:∀y∈pre,iI c y=false)(hx:iI c x=true):uk c i j=some x:=by
 unfold uk
 rw[h,List.find?_append,List.find?_eq_none.2 fun y hy=>by simp[hp y hy]]
 simp[hx]
theorem Y1 {c:ao}(hr:Rt c){i j:Nat}(hi:i≤c.t.length)(hj:j≤c.c.length)(he:¬(i=c.t.length∧j=c.c.length))(ht:aZ c i j+bwd c i j=rI c):uk c i j≠none:=fun h=>by
 obtain⟨x,hx,h2⟩:=QN hr hi hj he ht
 unfold uk at h
 have:=List.find?_eq_none.1 h x hx
 exact this h2
theorem DJ (c:ao)(n i j:Nat):AB c (n+1) i j=match uk c i j with|some x=>x::AB c n x.i' x.j'|none=>[]:=rfl
theorem QP {c:ao}(hr:Rt c):∀(n m i j:Nat),i≤c.t.length→j≤c.c.length→(c.t.length - i)+(c.c.length - j)≤n→(c.t.length - i)+(c.c.length - j)≤m→AB c n i j=AB c m i j
 |0,0,_,_,_,_,_,_=>rfl
 |0,m+1,i,j,hi,hj,h1,h2=>by
  obtain rfl:i=c.t.length:=by omega
  obtain rfl:j=c.c.length:=by omega
  rw[DJ,LQ hr];rfl
 |n+1,0,i,j,hi,hj,h1,h2=>by
  obtain rfl:i=c.t.length:=by omega
  obtain rfl:j=c.c.length:=by omega
  rw[DJ,LQ hr];rfl
 |n+1,m+1,i,j,hi,hj,h1,h2=>by
  rw[DJ,DJ]
  cases hx:uk c i j with
  |none=>rfl
  |some x=>
   have ho:=jn hr (LR hx).1
   have:=ho.uh;have:=ho.ui;have:=ho.on;have:=ho.it;have:=ho.jt
   simp only
   rw[QP hr n m x.i' x.j' ho.it ho.jt (by omega) (by omega)]
def Cn (c:ao)(i j:Nat):List aR:=AB c ((c.t.length - i)+(c.c.length - j)) i j
theorem Y2 (c:ao):Cn c 0 0=y6 c:=rfl
theorem Y3 (c:ao):Cn c c.t.length c.c.length=[]:=by unfold Cn;rw[Nat.sub_self,Nat.sub_self];rfl
theorem Y4 {c:ao}(hr:Rt c){i j:Nat}{x:aR}(hi:i≤c.t.length)(hj:j≤c.c.length)(h:uk c i j=some x):Cn c i j=x::Cn c x.i' x.j':=by
 have ho:=jn hr (LR h).1
 have:=ho.uh;have:=ho.ui;have:=ho.on;have:=ho.it;have:=ho.jt
 obtain⟨n,hn⟩:∃n,(c.t.length - i)+(c.c.length - j)=n+1:=⟨(c.t.length - i)+(c.c.length - j) - 1,by omega⟩
 unfold Cn
 rw[hn,DJ,h]
 simp only
 rw[QP hr n _ x.i' x.j' ho.it ho.jt (by omega) (Nat.le_refl _)]
theorem QQ {c:ao}(hr:Rt c):∀(n i j:Nat),i≤c.t.length→j≤c.c.length→(c.t.length - i)+(c.c.length - j)≤n→aZ c i j+bwd c i j=rI c→Way (graph c) i j c.t.length c.c.length (bwd c i j) (AB c n i j)
 |0,i,j,hi,hj,hn,ht=>by
  obtain rfl:i=c.t.length:=by omega
  obtain rfl:j=c.c.length:=by omega
  rw[DI hr];exact .nil _ _
 |n+1,i,j,hi,hj,hn,ht=>by
  rw[DJ]
  by_cases he:i=c.t.length∧j=c.c.length
  ·obtain⟨rfl,rfl⟩:=he
   rw[LQ hr,DI hr];exact .nil _ _
  cases hx:uk c i j with
  |none=>exact absurd hx (Y1 hr hi hj he ht)
  |some x=>
   obtain⟨h1,h2⟩:=LR hx
   have ho:=jn hr h1
   have:=ho.uh;have:=ho.ui;have:=ho.on;have:=ho.it;have:=ho.jt
   have hg:=Cl hi hj h1
   have h3:=QO hr hg h2
   have hw:=Way.cons x hg (QQ hr n x.i' x.j' ho.it ho.jt (by omega) h3)
   unfold iI at h2
   rw[decide_eq_true_eq,ho.fi,ho.fj] at h2
   rw[ho.fi,ho.fj] at hw
   have e:x.n+bwd c x.i' x.j'=bwd c i j:=by unfold rI at ht;omega
   rwa [e] at hw
theorem Y5 {c:ao}(hr:Rt c):Way (graph c) 0 0 c.t.length c.c.length (rI c) (y6 c):=by
 have:=QQ hr (c.t.length+c.c.length) 0 0 (Nat.zero_le _) (Nat.zero_le _) (by omega) (by rw[QM hr,LP hr];omega)
 rw[LP hr];exact this
theorem Y6 {c:ao}(hr:Rt c){i j a b:Nat}{n:Int}{w:List aR}(h:Way (graph c) i j a b n w):i+j+w.length≤a+b:=by
 induction h with
 |nil i j=>simp
 |cons x hx h ih=>
  have ho:=jn hr (Cm hr hx).1
  have:=ho.uh;have:=ho.ui;have:=ho.on
  rw[List.length_cons];omega
theorem Y7 (l:List aR):(lY l).length≤l.length:=List.length_filterMap_le _ _
theorem Y8 {c:ao}(hr:Rt c){n:Int}{w:List aR}(h:Way (graph c) 0 0 c.t.length c.c.length n w):(lY w).length≤96:=by
 have h1:=Y6 hr h
 have h2:=Y7 w
 have:=hr.tl;have:=hr.cl
 omega
theorem Y9 {c:ao}(hr:Rt c){i j:Nat}{x:aR}(h:x∈steps c i j) :
  (x=⟨i,j,i+1,j+1,0,none⟩∧i<c.t.length∧j<c.c.length∧c.t.getD i 0=c.c.getD j 0)∨
  ∃s n i' w,x=⟨i,j,i',j+w.length,n,some s⟩∧s∈kE c i j∧aK c s=some (n,i',w)∧hasB c j w=true:=by
 unfold steps at h
 rcases List.mem_append.1 h with h|h
 ·split at h
  ·rename_i hc
   rw[List.mem_singleton] at h
   exact .inl ⟨h,hc.1,hc.2.1,hc.2.2⟩
  cases h
 obtain⟨s,hs,he⟩:=List.mem_filterMap.1 h
 unfold stepOf at he
 split at he
 ·rename_i n i' w hd
  split at he
  ·rename_i hb
   injection he with he
   exact .inr ⟨s,n,i',w,he.symm,hs,hd,hb⟩
  cases he
 cases he
theorem QR (l m:List aR):lY (l++m)=lY l++lY m:=List.filterMap_append
theorem Za {c:ao}{i j:Nat}{s:aq}(hs:s∈kE c i j):((stepOf c i j s).bind (·.s))=if jj c s=true then some s else none:=by
 obtain⟨_,hi⟩:=DK hs
 unfold stepOf jj
 cases aK c s with
 |none=>rfl
 |some y=>
  obtain⟨n,i',w⟩:=y
  simp only[hi,Int.toNat_natCast]
  split<;>rfl
theorem Zb (c:ao)(i j:Nat):lY (steps c i j)=kF c i j:=by
 unfold steps kF
 rw[QR]
 have e1:lY (if i<c.t.length∧j<c.c.length∧c.t.getD i 0=c.c.getD j 0 then [(⟨i,j,i+1,j+1,0,none⟩:aR)] else [])=[]:=by split<;>rfl
 rw[e1,List.nil_append]
 unfold lY
 rw[List.filterMap_filterMap]
 have:∀l:List aq,(∀s∈l,s∈kE c i j)→l.filterMap (fun s=>(stepOf c i j s).bind (·.s))=l.filter (jj c):=by
  intro l
  induction l with
  |nil=>exact fun _=>rfl
  |cons s r ih=>
   intro h
   rw[List.filterMap_cons,Za (h s List.mem_cons_self),List.filter_cons]
   cases jj c s with
   |true=>simp only[if_true];rw[ih fun x hx=>h x (List.mem_cons_of_mem _ hx)]
   |false=>simp only[Bool.false_eq_true,if_false];exact ih fun x hx=>h x (List.mem_cons_of_mem _ hx)
 exact this _ fun _ h=>h
theorem Zc (c:ao)(l:List (Nat×Nat)):lY (l.flatMap fun p=>steps c p.1 p.2)=l.flatMap fun p=>kF c p.1 p.2:=by
 induction l with
 |nil=>rfl
 |cons p r ih=>rw[List.flatMap_cons,QR,Zb,ih,List.flatMap_cons]
theorem Zd (c:ao):(lY (graph c)).Pairwise aq.lt:=by
 unfold graph
 rw[Zc,List.pairwise_flatMap]
 refine⟨fun p _=>(QS c p.1 p.2).filter _,(IC c).imp fun {p q} h x hx y hy=>?_⟩
 obtain⟨a1,a2⟩:=DK (List.mem_filter.1 hx).1
 obtain⟨b1,b2⟩:=DK (List.mem_filter.1 hy).1
 unfold aq.lt
 unfold s8 at h
 omega
theorem Ze {c:ao}{l:List aR}(h:l.Sublist (graph c)):(lY l).Pairwise aq.lt:=(Zd c).sublist (h.filterMap _)
open Go Go.Am Go.Proofs Tryz
attribute [local simp] fZ jh tW eo jM pg ai.back dE ji nr bm Nat.testBit_eq_decide_div_mod_eq cN jL o9 vO sy kh sA jY dh qq qo ss ki su rp oz tU rm sv sg sd sh se sf sj sn pO gz lq fY sB qt rq sC sD pN tR tS kg pa iz gO iA nc jF qZ qe qf kL rY bp rl gN bZ cm nR ai.get ai.alloc ai.put ai.drop ai.empty bs dN jz kx gA cG chunk List.range List.range.loop ns tX oA bK cA PV.aH PV.aJ PV.dU PV.gM kQ kj ru PV.one PV.ids PV.di ia beq_eq vc xq
attribute [local simp] cQ bQ km tZ y1 ue uf sU jk gr
attribute [local simp ↓ high] xu vi
def QT (c:ao)(s:aq):Bool:=!decide (uj c s<1099511627776)||decide (0<uj c s - aZ c c.t.length c.c.length)
def F3 (c:ao)(x:aR):Bool:=match x.s with|some s=>QT c s|none=>false
def pW (q:aR→Bool)(d:List aq)(x:aR):List aq:=match x.s with|some s=>if q x then d++[s] else d|none=>d
def um (c:ao)(q:aR→Bool):List aq:=(nZ c).foldl (pW q) []
theorem QU (q:aR→Bool):∀(l:List aR) (d:List aq),l.foldl (pW q) d=d++lY (l.filter q)
 |[],d=>by simp[lY]
 |x::r,d=>by
  rw[List.foldl_cons,QU q r,List.filter_cons]
  unfold pW
  cases hs:x.s with
  |none=>
   cases hq:q x with
   |true=>simp[lY,hs]
   |false=>simp
  |some s=>
   cases hq:q x with
   |true=>simp[lY,hs]
   |false=>simp
theorem Zf (c:ao)(q:aR→Bool):um c q=lY ((nZ c).filter q):=by unfold um;rw[QU];rfl
theorem Zg (c:ao)(q:aR→Bool):(um c q).mergeSort DH=um c q:=by
 rw[Zf]
 exact Zh (Ze (List.filter_sublist.trans List.filter_sublist))
theorem Zi (q:aR→Bool)(d:List aq)(x:aR):(pW q d x).length≤d.length+1:=by
 unfold pW
 split
 ·split<;>simp
 exact Nat.le_succ _
theorem QV (q:aR→Bool):∀(l:List aR) (d:List aq),(l.foldl (pW q) d).length≤d.length+l.length
 |[],d=>Nat.le_refl _
 |x::r,d=>by
  rw[List.foldl_cons,List.length_cons]
  have h1:=QV q r (pW q d x)
  have h2:=Zi q d x
  omega
theorem Zj {c:ao}(hr:Rt c){pre j4:List aR}{x:aR}(h:nZ c=pre++x::j4):pre.length<139258:=by
 have h1:=IA hr
 have h2:(nZ c).length≤(graph c).length:=List.length_filter_le _ _
 rw[h,List.length_append,List.length_cons] at h2
 omega
theorem QW {x:aR}{s:aq}(h:x.s=some s):cV x=.agg [.int .i64 x.i,.int .i64 x.j,.int .i64 x.i',.int .i64 x.j',.int .i64 s.k,.int .i64 s.a,.int .i64 s.i,.int .i64 s.l,.int .i64 s.w,.int .i64 x.n,.bool false]:=by
 unfold cV;rw[h];rfl
theorem QX {x:aR}(h:x.s=none):cV x=.agg [.int .i64 x.i,.int .i64 x.j,.int .i64 x.i',.int .i64 x.j',.int .i64 0,.int .i64 0,.int .i64 0,.int .i64 0,.int .i64 0,.int .i64 x.n,.bool true]:=by
 unfold cV;rw[h];rfl
variable [bG] in
theorem LU (c:ao)(ps:List (Nat×Nat))(f:FuncId)(q:aR→Bool)(dR:∀cs w,(callFunc f cs).run prog w=.ok (.enter f cs) w)(n g:Nat)(d:List aq)(x:aR)(hn:900≤n)(hg:3<g)(xL:g<n)(hl:d.length<200000)(hp:∀s,x.s=some s→aN prog f [s4 c ps,cV x] fun r=>r=.bool (q x)):du prog 141 [cV x,.ptr 1 0,.ptr 2 0,.ptr 3 0] ⟨n,[(3,.box [.grow g (d).length true]),(2,.box (bQ c (.aC (a8 (places c) (aZ c))) (.aC (a8 ps (bwd c))) (.int .i64 (aZ c c.t.length c.c.length)))),(1,.box [.func f [] []]),(0,.box (cQ c)),(g,.grow 5 ((d).map encS))]⟩ fun v ak=>∃g',(g'=g∨(n+2≤g'∧g'<ak.next))∧bF [(3,.box [.grow g' (pW q d x).length true]),(2,.box (bQ c (.aC (a8 (places c) (aZ c))) (.aC (a8 ps (bwd c))) (.int .i64 (aZ c c.t.length c.c.length)))),(1,.box [.func f [] []]),(0,.box (cQ c)),(g',.grow 5 ((pW q d x).map encS))] ak.bg∧n≤ak.next∧jo n [(3,.box [.grow g (d).length true]),(2,.box (bQ c (.aC (a8 (places c) (aZ c))) (.aC (a8 ps (bwd c))) (.int .i64 (aZ c c.t.length c.c.length)))),(1,.box [.func f [] []]),(0,.box (cQ c)),(g,.grow 5 ((d).map encS))] [(3,.box [.grow g' (pW q d x).length true]),(2,.box (bQ c (.aC (a8 (places c) (aZ c))) (.aC (a8 ps (bwd c))) (.int .i64 (aZ c c.t.length c.c.length)))),(1,.box [.func f [] []]),(0,.box (cQ c)),(g',.grow 5 ((pW q d x).map encS))]:=by
  obtain⟨m,rfl⟩:∃m,n=m+900:=⟨n - 900,by omega⟩
  have g0:¬g=0:=by omega
  have g1:¬g=1:=by omega
  have g2:¬g=2:=by omega
  have g3:¬g=3:=by omega
  have h0:¬0=g:=by omega
  have h1:¬1=g:=by omega
  have h2:¬2=g:=by omega
  have h3:¬3=g:=by omega
  have gm:¬g=m+900:=by omega
  have gm1:¬g=m+900+1:=by omega
  have gm2:¬g=m+900+2:=by omega
  have hm:¬m+900=g:=by omega
  have q8:d.length≤4294967295:=by omega
  have yd:∀s:aq,kz [PV.agg [.int .i64 s.k,.int .i64 s.a,.int .i64 s.i,.int .i64 s.l,.int .i64 s.w]]=true:=fun _=>rfl
  have n3:pW q d x=match x.s with|some s=>if q x then d++[s] else d|none=>d:=rfl
  have hE:∀s:aq,encS s=.agg [.int .i64 s.k,.int .i64 s.a,.int .i64 s.i,.int .i64 s.l,.int .i64 s.w]:=fun _=>rfl
  refine .bP func141 rfl rfl ?_
  rcases hs:x.s with _|s
  ·
    rw[hs] at n3
    simp only at n3
    rw[QX hs]
    refine .sr ?_
    refine .seq (.au pQ rfl af (.rn dt _ ?_))
    refine .split (t:=8) rfl (fun c8=>?_) (fun c8=>?_)
    · try subst c8
      try simp at c8
    try subst c8
    try simp at c8
    refine .rn [4,5,6,7,8] [] ?_
    refine .done (.gn rfl (.skip ?_))
    refine⟨_,gp,g,.inl rfl,?_,by simp,?_⟩
    · rw[n3]
      exact bN
    rw[n3]
    exact kW
  ·
    rw[hs] at n3
    simp only at n3
    have hp:=hp s hs
    rw[s5] at hp
    rw[QW hs] at hp ⊢
    obtain⟨b,hb⟩:∃b,q x=b:=⟨_,rfl⟩
    rw[hb] at hp n3
    refine .sr ?_
    refine .seq (.au pQ rfl af (.rn dt _ ?_))
    refine .split (t:=8) rfl (fun c8=>?_) (fun c8=>?_)
    · try subst c8
      try simp at c8
      refine .rn [4,5,6] _ ?_
      refine .step rfl rfl (.pure rfl rfl rfl dR (by decide) (hp) (by first|rfl|simp[*]) ?_)
      rintro _ rfl
      refine .rn [8] [] ?_
      refine .done ?_
      refine .cs ?_ ?_<;>intro gg
      · try simp at gg
        refine .rn ?_
        subst gg
        first
        | (rw [if_pos rfl] at n3
           refine⟨_,gp,m+902,.inr ⟨by omega,by simp⟩,?_,by simp,?_⟩
           · rw[n3,List.length_append,List.map_append]
             simp only[List.map_cons,List.map_nil,List.length_cons,List.length_nil,hE]
             exact bN
           rw[n3]
           exact kW)
        | (rw [if_neg (by decide)] at n3
           refine⟨_,gp,g,.inl rfl,?_,by simp,?_⟩
           · rw[n3]
             exact bN
           rw[n3]
           exact kW)
      try simp at gg
      refine .skip ?_
      subst gg
      first
      | (rw [if_pos rfl] at n3
         refine⟨_,gp,m+902,.inr ⟨by omega,by simp⟩,?_,by simp,?_⟩
         · rw[n3,List.length_append,List.map_append]
           simp only[List.map_cons,List.map_nil,List.length_cons,List.length_nil,hE]
           exact bN
         rw[n3]
         exact kW)
      | (rw [if_neg (by decide)] at n3
         refine⟨_,gp,g,.inl rfl,?_,by simp,?_⟩
         · rw[n3]
           exact bN
         rw[n3]
         exact kW)
    try subst c8
    try simp at c8
theorem Zk (c:ao)(ps:List (Nat×Nat))(f:FuncId)(d:List aq){n g:Nat}(hg:g=4∨(902≤g∧g<n)):∃g',(g'=4∨(902≤g'∧g'<1000))∧D9 [(3,.box [.grow g' (d).length true]),(2,.box (bQ c (.aC (a8 (places c) (aZ c))) (.aC (a8 ps (bwd c))) (.int .i64 (aZ c c.t.length c.c.length)))),(1,.box [.func f [] []]),(0,.box (cQ c)),(g',.grow 5 ((d).map encS))]∧∀i j:Nat,Wk 900 [(2,.ptr 900 0),(3,.ptr 901 0),(4,.int .i64 i),(11,.int .i64 ((c.t.length:Int)+1)),(12,.int .i64 i),(19,.int .i64 ((c.c.length:Int)+1)),(20,.int .i64 j)] ⟨n,(901,.box [.func 141 [] [.ptr 1 0,.ptr 2 0,.ptr 3 0]])::(900,.box (bQ c (.aC (a8 (places c) (aZ c))) (.aC (a8 ps (bwd c))) (.int .i64 (aZ c c.t.length c.c.length))))::[(3,.box [.grow g (d).length true]),(2,.box (bQ c (.aC (a8 (places c) (aZ c))) (.aC (a8 ps (bwd c))) (.int .i64 (aZ c c.t.length c.c.length)))),(1,.box [.func f [] []]),(0,.box (cQ c)),(g,.grow 5 ((d).map encS))]⟩ [(2,.ptr 900 0),(3,.ptr 901 0),(4,.int .i64 i),(11,.int .i64 ((c.t.length:Int)+1)),(12,.int .i64 i),(19,.int .i64 ((c.c.length:Int)+1)),(20,.int .i64 j)] ⟨1000,(901,.box [.func 141 [] [.ptr 1 0,.ptr 2 0,.ptr 3 0]])::(900,.box (bQ c (.aC (a8 (places c) (aZ c))) (.aC (a8 ps (bwd c))) (.int .i64 (aZ c c.t.length c.c.length))))::[(3,.box [.grow g' (d).length true]),(2,.box (bQ c (.aC (a8 (places c) (aZ c))) (.aC (a8 ps (bwd c))) (.int .i64 (aZ c c.t.length c.c.length)))),(1,.box [.func f [] []]),(0,.box (cQ c)),(g',.grow 5 ((d).map encS))]⟩:=by
 rcases hg with rfl|⟨hg,xL⟩
 ·exact⟨4,.inl rfl,⟨rfl,rfl⟩,fun i j=>Rec.wk (.mk [] [] F4 F5 rfl rfl rfl)⟩
 have fX:∀X1 X0,(⟨n,(901,X1)::(900,X0)::[(3,.box [.grow g (d).length true]),(2,.box (bQ c (.aC (a8 (places c) (aZ c))) (.aC (a8 ps (bwd c))) (.int .i64 (aZ c c.t.length c.c.length)))),(1,.box [.func f [] []]),(0,.box (cQ c)),(g,.grow 5 ((d).map encS))]⟩:ai).get g=some (.grow 5 (d.map encS)):=fun X1 X0=>by
  simp[show ¬g=901 by omega,show ¬g=900 by omega,show ¬g=3 by omega,show ¬g=2 by omega,show ¬g=1 by omega,show ¬g=0 by omega]
 refine⟨902,.inr ⟨Nat.le_refl _,by decide⟩,⟨rfl,rfl⟩,fun i j=>Rec.wk (.mk [] [(902,g)] LV (by refine⟨?_,?_,?_,?_,?_,?_,⟨⟨(aU rfl),.inr ⟨rfl,_,fX _ _,rfl⟩⟩,trivial⟩⟩<;>(refine⟨(aU rfl),.inr ⟨rfl,_,rfl,?_⟩⟩)<;>repeat' (first|exact trivial|exact Alt.dA aF.nil (aF.cons (Alt.ptr _ _ _ (aU rfl) rfl) (aF.cons (Alt.ptr _ _ _ (aU rfl) rfl) (aF.cons (Alt.ptr _ _ _ (aU rfl) rfl) aF.nil)))|refine And.intro (And.intro (aU rfl) (Or.inr (And.intro rfl (Exists.intro _ (And.intro rfl ?_))))) ?_|refine And.intro (And.intro (aU rfl) (Or.inl (Exists.intro _ (And.intro rfl (aU rfl))))) ?_|refine And.intro (And.intro (aU rfl) (Or.inl (Exists.intro _ (And.intro (congrArg (aL.grow _) (by simp[*])) (aU rfl))))) ?_|rfl|exact aF.nil|(refine congrArg (aL.grow _) ?_;simp[*];done)|(refine congrArg aL.map ?_;simp[*];done)|(refine congrArg (aL.arr _ _) ?_;simp[*];done)|refine pX.mk rfl rfl rfl rfl rfl ?_|refine And.intro (Exists.intro _ (And.intro rfl ?_)) ?_|refine aF.cons ?_ ?_|(refine Alt.same _ ?_;first|rfl|(simp[*];done))|exact Alt.ba _ _ (aU rfl) rfl|exact Alt.grow _ _ _ _ (aU rfl) rfl|(refine Alt.xM _ _ _ _ _ ?_ (aU rfl) rfl;simp[*];done)|exact Alt.ptr _ _ _ (aU rfl) rfl|exact Alt.own _ _ _ _ _ (aU rfl) rfl|exact Alt.sub _ _ _ _ (aU rfl) rfl|exact Alt.bw _ _ (aU rfl) rfl|exact Alt.aG _ _|(refine Alt.mQ _ _ _ ?_;simp[*];done)|exact Alt.e0 _|exact Alt.dA aF.nil (aF.cons (Alt.ptr _ _ _ (aU rfl) rfl) aF.nil)|exact Alt.dV|exact Alt.lZ _ _ _|(refine Alt.bR _ _ _ _ _ rfl rfl ?_;simp[*];done)|exact Alt.gU _ _ _ _ _ _ _ _ rfl rfl rfl|exact Alt.dD _ _ rfl rfl|(refine Alt.xN ?_;simp[*]<;>rfl)|(refine Alt.ofEq rfl ?_;simp[*];done))) ?_ rfl rfl)⟩
 simp[vJ,uo,Nat.beq_eq]
 omega
section
variable [bG]
theorem QY (c:ao)(f:FuncId)(q:aR→Bool)(hB:BC c)(dR:∀cs w,(callFunc f cs).run prog w=.ok (.enter f cs) w)(hp:bf c=0→∀ps x s,x.s=some s→aN prog f [s4 c ps,cV x] fun r=>r=.bool (q x)):aN prog 87 [aD c,.func f [] []] fun r=>dO r (.bn [.vec ((if bf c=0 then um c q else []).map encS),.int .i64 (bf c)]):=by
 have cK:=rz c hB
 have fQ:=Az c
 have hC:cw c=(cQ c):=rfl
 obtain⟨e,he⟩:∃e,bf c=e:=⟨_,rfl⟩
 have er:=he
 rw[he] at cK fQ hp ⊢
 unfold aD at cK fQ ⊢
 rw[hC] at cK fQ ⊢
 refine .bP func87 rfl rfl ?_
 refine .sr ?_
 refine .seq (.seq (.au [0,1,2] rfl af (.rn [0] _ ?_)))
 refine .pc rfl rfl rfl rfl rfl call55 (cK) ?_
 refine .rn [2] [] ?_
 refine .done (.sr ?_)
 refine .cs ?_ ?_<;>intro oC
 ·try simp at oC
  refine .sr ?_
  refine .ret (aA ?_)
  rw[if_neg oC];exact yX rfl
 try simp at oC
 subst oC
 have bj:=iC er
 refine .skip (.seq (.au dt rfl af (.rn [0] _ ?_)))
 refine .step rfl rfl (.pure rfl rfl rfl call77 (by decide) (fQ rfl) (by first|rfl|simp[*]) ?_)
 rintro _ ⟨ps,fy,rfl⟩
 have hp:=hp rfl ps
 have qG:=y4 c ps er fy 141 [] [.ptr 1 0,.ptr 2 0,.ptr 3 0] call141 [(3,.box [.grow 4 (([]:List aq)).length true]),(2,.box (bQ c (.aC (a8 (places c) (aZ c))) (.aC (a8 ps (bwd c))) (.int .i64 (aZ c c.t.length c.c.length)))),(1,.box [.func f [] []]),(0,.box (cQ c)),(4,.grow 5 ((([]:List aq)).map encS))] (fun pre n L=>∃g,(g=4∨(902≤g∧g<n))∧L=[(3,.box [.grow g (pre.foldl (pW q) []).length true]),(2,.box (bQ c (.aC (a8 (places c) (aZ c))) (.aC (a8 ps (bwd c))) (.int .i64 (aZ c c.t.length c.c.length)))),(1,.box [.func f [] []]),(0,.box (cQ c)),(g,.grow 5 ((pre.foldl (pW q) []).map encS))]) ⟨4,.inl rfl,rfl⟩ (fun _ _ _ _ ⟨g,h1,h2⟩ h=>⟨g,by omega,h2⟩) (fun pre x j4 n L iE hn ⟨g,hg,hL⟩=>by
 subst hL
 have q8:=Zj bj iE
 have lj:=QV q pre []
 exact(LU c ps f q dR n g _ x hn (by omega) (by omega) (by simp at lj;omega) (hp x)).mono fun v ak ⟨g',hg',h2,h3,h4⟩=>⟨_,h2,h3,h4,g',by omega,by rw[List.foldl_append];rfl⟩) (fun pre n L ⟨g,hg,hL⟩ hn hd=>by
 subst hL
 obtain⟨g2,h1,h2,h3⟩:=Zk c ps f (pre.foldl (pW q) []) hg
 exact⟨_,⟨g2,h1,rfl⟩,h2,h3⟩)
 rw[s5] at qG ⊢
 refine .rn [2,3] [] ?_
 refine .done (.sr ?_)
 refine .seq (.au [0,1,2] rfl af (.rn [0,1] _ ?_))
 refine .step rfl rfl (.qy (ax:=[(2,.ptr 0 0),(3,.ptr 1 0),(7,.ptr 2 0),(8,.ptr 3 0),(16,.agg (bQ c (.aC (a8 (places c) (aZ c))) (.aC (a8 ps (bwd c))) (.int .i64 (aZ c c.t.length c.c.length)))),(17,.func 141 [] [.ptr 1 0,.ptr 2 0,.ptr 3 0])]) (aP:=⟨900,[(3,.box [.grow 4 (([]:List aq)).length true]),(2,.box (bQ c (.aC (a8 (places c) (aZ c))) (.aC (a8 ps (bwd c))) (.int .i64 (aZ c c.t.length c.c.length)))),(1,.box [.func f [] []]),(0,.box (cQ c)),(4,.grow 5 ((([]:List aq)).map encS))]⟩) (.mk [] [] F4 F5 rfl rfl rfl) (.call rfl rfl rfl call81 (by decide) (((qG)).mono ?_)))
 rintro _ _ ⟨n,L,⟨g,hg,rfl⟩,rfl⟩
 have g0:¬g=0:=by omega
 have g1:¬g=1:=by omega
 have g2:¬g=2:=by omega
 have g3:¬g=3:=by omega
 have h3:¬3=g:=by omega
 have h2:¬2=g:=by omega
 have h1:¬1=g:=by omega
 have h0:¬0=g:=by omega
 obtain⟨d,hd⟩:∃d,(nZ c).foldl (pW q) []=d:=⟨_,rfl⟩
 have ke:um c q=d:=hd
 have o0:=Zg c q
 rw[ke] at o0
 rw[hd]
 clear qG hd
 refine .done (.seq (.au [0,1] rfl af ?_))
 refine .rn [0] _ ?_
 refine .step rfl rfl (.call rfl rfl rfl call117 (by decide) (((LH (zs:=d) (i:=g) (nl:=true) (n:=d.length) (by simp[*]) rfl)).mono ?_))
 rintro _ _ ⟨rfl,rfl⟩
 rw[o0]
 refine .done (.sr ?_)
 refine .ret ?_
 refine⟨_,_,gp,(by simp[*]<;>rfl),?_⟩
 rw[if_pos rfl,ke];exact ly (by simp[PV.aH,PV.aJ])
theorem Zl (c:ao)(hB:BC c):aN prog 26 [aD c] fun r=>dO r (.bn [.vec ((if bf c=0 then um c (F3 c) else []).map encS),.int .i64 (bf c)]):=by
 have Co:=aN.soft (QY c 88 (F3 c) hB call88 (fun hk ps x s hs=>by
  rw[show F3 c x=QT c s by unfold F3;rw[hs]]
  obtain⟨i,j,i',j',n,s0⟩:=x
  simp only at hs
  subst hs
  exact YA c ps hk i j i' j' n s)) (by simp[PV.aH,PV.aJ])
 have hC:cw c=(cQ c):=rfl
 unfold aD at Co ⊢
 rw[hC] at Co ⊢
 refine .bP func26 rfl rfl ?_
 refine .sr ?_
 refine .seq (.au iB rfl af (.rn [0] _ ?_))
 refine .pc rfl rfl rfl rfl rfl call87 (Co) ?_
 refine .rn [2,3,4,5] [] ?_
 refine .done (.ret (aA ?_))
 exact ly (by simp[PV.aH,PV.aJ])
theorem Zm (c:ao)(hB:BC c):aN prog 28 [aD c] fun r=>dO r (.bn [.vec ((if bf c=0 then um c (fun _=>true) else []).map encS),.int .i64 (bf c)]):=by
 have Co:=aN.soft (QY c 94 (fun _=>true) hB call94 (fun hk ps x s hs=>YB c ps x)) (by simp[PV.aH,PV.aJ])
 have hC:cw c=(cQ c):=rfl
 unfold aD at Co ⊢
 rw[hC] at Co ⊢
 refine .bP func28 rfl rfl ?_
 refine .sr ?_
 refine .seq (.au iB rfl af (.rn [0] _ ?_))
 refine .pc rfl rfl rfl rfl rfl call87 (Co) ?_
 refine .rn [2,3,4,5] [] ?_
 refine .done (.ret (aA ?_))
 exact ly (by simp[PV.aH,PV.aJ])
end
def fO (n:Nat)(F:Nat→Bool):List PV:=(List.range n).map fun (i:Nat)=>PV.bool (F i)
@[simp] theorem Zn (n:Nat)(F:Nat→Bool):(fO n F).length=n:=by simp[fO,-List.range,-List.range.loop]
@[simp] theorem xau (n:Nat)(F:Nat→Bool):(fO n F).all PV.one=true:=by simp[fO,PV.one]
@[simp] theorem z9w (n:Nat)(F:Nat→Bool):PV.aJ (fO n F)=true:=by
 unfold fO
 generalize List.range n=l
 induction l with
 |nil=>rfl
 |cons a r ih=>simp only[List.map_cons,PV.aJ,PV.aH,Bool.true_and];exact ih
theorem IE (n:Nat)(F:Nat→Bool)(i:Nat)(h:i<n):(fO n F)[i]?=some (PV.bool (F i)):=by
 simp[fO,h,-List.range,-List.range.loop]
theorem Zo (n:Nat):List.replicate n (PV.bool false)=fO n fun _=>false:=by
 simp[fO,List.map_const',-List.range,-List.range.loop]
theorem Zp (n:Nat)(F:Nat→Bool)(i:Nat)(h:i<n):(fO n F)[i]'(by simpa using h)=PV.bool (F i):=by
 have:=IE n F i h
 rw[List.getElem?_eq_getElem (by simpa using h)] at this
 injection this
def pt (F:Nat→Bool)(x:aR):Nat→Bool:=fun i=>F i||(x.s.isNone&&decide (x.i=i))
theorem Zq (n:Nat)(F:Nat→Bool)(i:Nat)(h:i<n):(fO n F).take i++PV.bool true::(fO n F).drop (i+1)=fO n (fun j=>F j||decide (i=j)):=by
 refine List.ext_getElem? fun j=>?_
 by_cases hj:j<n
 ·rw[IE n _ j hj,List.getElem?_append]
  simp only[List.length_take,Zn,Nat.min_eq_left (Nat.le_of_lt h)]
  by_cases h1:j<i
  ·rw[if_pos h1,List.getElem?_take_of_lt h1,IE n _ j hj]
   simp[show ¬i=j by omega]
  rw[if_neg h1]
  by_cases h2:j=i
  ·subst h2;simp
  rw[show j - i=(j - i - 1)+1 by omega,List.getElem?_cons_succ,List.getElem?_drop,show i+1+(j - i - 1)=j by omega,IE n _ j hj]
  simp[show ¬i=j by omega]
 rw[List.getElem?_eq_none (by simp;omega),List.getElem?_eq_none (by simp;omega)]
def Cp (c:ao):Nat→Bool:=(nZ c).foldl pt fun _=>false
def DL (c:ao)(i:Nat):Int:=fwd c (fun x=>!decide (x.s=none∧x.i=i)) c.t.length c.c.length
def DM (c:ao)(i:Nat):Bool:=Bool.or (!decide (DL c i<1099511627776)) (decide (0<DL c i - aZ c c.t.length c.c.length))
def uq (c:ao):Nat→List Int
 |0=>[]
 |k+1=>uq c k++if Cp c k=true then [(k:Int)] else []
def ur (c:ao):Nat→List Int
 |0=>[]
 |k+1=>ur c k++if Cp c k=true∧DM c k=true then [(k:Int)] else []
theorem QZ (c:ao):∀k,(uq c k).length≤k
 |0=>Nat.le_refl _
 |k+1=>by have:=QZ c k;unfold uq;rw[List.length_append];split<;>simp<;>omega
theorem Q0 (c:ao):∀k,(ur c k).length≤k
 |0=>Nat.le_refl _
 |k+1=>by have:=Q0 c k;unfold ur;rw[List.length_append];split<;>simp<;>omega
theorem Zr {c:ao}(hr:Rt c){x:aR}(h:x∈graph c)(hs:x.s=none):x.i<c.t.length:=by
 obtain⟨h1,h2,h3⟩:=Cm hr h
 rcases Y9 hr h1 with⟨_,h,_⟩|⟨s,n,i',w,e,_⟩
 ·exact h
 rw[e] at hs;cases hs
section
variable [bG]
theorem Zs (c:ao)(ps:List (Nat×Nat))(n:Nat)(F:Nat→Bool)(x:aR)(hn:900≤n)(hl:c.t.length≤48)(hx:x.s=none→x.i<c.t.length):du prog 82 [cV x,.ptr 3 0] ⟨n,[(3,.box [.own 2 0 c.t.length c.t.length]),(2,.arr false 1 (fO c.t.length (F))),(1,.box (bQ c (.aC (a8 (places c) (aZ c))) (.aC (a8 ps (bwd c))) (.int .i64 (aZ c c.t.length c.c.length)))),(0,.box (cQ c))]⟩ fun v ak=>bF [(3,.box [.own 2 0 c.t.length c.t.length]),(2,.arr false 1 (fO c.t.length (pt F x))),(1,.box (bQ c (.aC (a8 (places c) (aZ c))) (.aC (a8 ps (bwd c))) (.int .i64 (aZ c c.t.length c.c.length)))),(0,.box (cQ c))] ak.bg∧n≤ak.next:=by
 obtain⟨m,rfl⟩:∃m,n=m+900:=⟨n - 900,by omega⟩
 refine .bP func82 rfl rfl ?_
 rcases hs:x.s with _|s
 ·
  have hx:=hx hs
  rw[QX hs]
  have Q1:x.i+1≤c.t.length:=hx
  have pw:=Zq c.t.length F x.i hx
  have hG:pt F x=fun j=>F j||decide (x.i=j):=by unfold pt;rw[hs];rfl
  refine .sr ?_
  refine .sr ?_
  refine .cs ?_ ?_<;>intro c4
  ·try simp at c4
   refine .rn ?_
   refine⟨_,gp,?_,by simp⟩
   rw[hG]
   exact bN
  try simp at c4
 ·
  rw[QW hs]
  have hG:pt F x=F:=by funext i;unfold pt;rw[hs];simp
  refine .sr ?_
  refine .sr ?_
  refine .cs ?_ ?_<;>intro c4
  ·try simp at c4
  try simp at c4
  refine .skip ?_
  refine⟨_,gp,?_,by simp⟩
  rw[hG]
  exact bN
theorem Zt (c:ao)(hB:BC c):aN prog 22 [aD c] fun r=>dO r (.bn [ints (if bf c=0 then ur c c.t.length else []),ints (if bf c=0 then uq c c.t.length else []),.int .i64 (bf c)]):=by
 have cK:=rz c hB
 have fQ:=Az c
 have hC:cw c=(cQ c):=rfl
 obtain⟨e,he⟩:∃e,bf c=e:=⟨_,rfl⟩
 have er:=he
 rw[he] at cK fQ ⊢
 unfold aD at cK fQ ⊢
 rw[hC] at cK fQ ⊢
 have s9:=Zo c.t.length
 have Ll:ur c 0=[]:=rfl
 have hS0:uq c 0=[]:=rfl
 refine .bP func22 rfl rfl ?_
 refine .sr ?_
 refine .seq (.seq (.au [0,1,2] rfl af (.rn [0] _ ?_)))
 refine .pc rfl rfl rfl rfl rfl call55 (cK) ?_
 refine .rn [2] [] ?_
 refine .done (.sr ?_)
 refine .cs ?_ ?_<;>intro iT
 ·try simp at iT
  refine .sr ?_
  refine .ret (aA ?_)
  rw[if_neg iT,if_neg iT];exact Fx (.cons .dV (.cons .dV (.cons (.same _ rfl) .nil)))
 try simp at iT
 subst iT
 have bj:=iC er
 have oB:=bj.tl
 have Zu:c.t.length≤4294967296:=by omega
 have Zv:(c.t.length:Int)≤4294967296:=by omega
 refine .skip (.seq (.au dt rfl af (.rn [0] _ ?_)))
 refine .step rfl rfl (.pure rfl rfl rfl call77 (by decide) (fQ rfl) (by first|rfl|simp[*]) ?_)
 rintro _ ⟨ps,fy,rfl⟩
 have qG:=y4 c ps er fy 82 [] [.ptr 3 0] call82 [(3,.box [.own 2 0 c.t.length c.t.length]),(2,.arr false 1 (fO c.t.length (fun _=>false))),(1,.box (bQ c (.aC (a8 (places c) (aZ c))) (.aC (a8 ps (bwd c))) (.int .i64 (aZ c c.t.length c.c.length)))),(0,.box (cQ c))] (fun pre n L=>L=[(3,.box [.own 2 0 c.t.length c.t.length]),(2,.arr false 1 (fO c.t.length (pre.foldl pt fun _=>false))),(1,.box (bQ c (.aC (a8 (places c) (aZ c))) (.aC (a8 ps (bwd c))) (.int .i64 (aZ c c.t.length c.c.length)))),(0,.box (cQ c))]) rfl (fun _ _ _ _ h _=>h) (fun pre x j4 n L iE hn hL=>by
 subst hL
 exact(Zs c ps n _ x hn oB (Zr bj (List.mem_filter.1 (show x∈nZ c by rw[iE];simp)).1)).mono fun v ak ⟨h2,h3⟩=>⟨_,h2,h3,kW,by rw[List.foldl_append];rfl⟩) (fun pre n L hL hn hd=>by
 subst hL
 exact⟨_,rfl,⟨rfl,rfl⟩,fun i j=>Rec.wk bT⟩)
 rw[s5] at qG ⊢
 refine .rn [2,3] [] ?_
 refine .done (.sr ?_)
 refine .seq (.au [0,1,2] rfl af (.rn [0,1] _ ?_))
 refine .step rfl rfl (.qy (ax:=[(6,.ptr 1 0),(7,.ptr 3 0),(25,.agg (bQ c (.aC (a8 (places c) (aZ c))) (.aC (a8 ps (bwd c))) (.int .i64 (aZ c c.t.length c.c.length)))),(26,.func 82 [] [.ptr 3 0])]) (aP:=⟨900,[(3,.box [.own 2 0 c.t.length c.t.length]),(2,.arr false 1 (fO c.t.length (fun _=>false))),(1,.box (bQ c (.aC (a8 (places c) (aZ c))) (.aC (a8 ps (bwd c))) (.int .i64 (aZ c c.t.length c.c.length)))),(0,.box (cQ c))]⟩) bT (.call rfl rfl rfl call81 (by decide) (((qG)).mono ?_)))
 rintro _ _ ⟨n,L,rfl,rfl⟩
 rw[show (nZ c).foldl pt (fun _=>false)=Cp c from rfl]
 clear qG
 refine .done (.sr ?_)
 refine .seq (.sr ?_)
 refine .block ?_
 refine .ec (fun k:Nat=>([(6,.ptr 1 0),(8,.grow 4 (ur c k).length true),(9,.grow 5 (uq c k).length true),(28,.own 2 0 c.t.length c.t.length),(29,.int .i64 c.t.length),(30,.int .i64 k)],⟨6,[(5,.grow 1 ((uq c k).map (.int .i64))),(4,.grow 1 ((ur c k).map (.int .i64))),(2,.arr false 1 (fO c.t.length (Cp c))),(1,.box (bQ c (.aC (a8 (places c) (aZ c))) (.aC (a8 ps (bwd c))) (.int .i64 (aZ c c.t.length c.c.length))))]⟩)) (fun k=>k≤c.t.length) (fun k=>c.t.length - k) 0 (by simp) bT ?_
 rintro k hk
 simp only at hk ⊢
 refine .sr ?_
 refine .seq ?_
 refine .cs ?_ ?_<;>intro n4
 ·try simp at n4
  have gP:k<c.t.length:=by omega
  have eO:=gD k
  have iw:=Zp c.t.length (Cp c) k gP
  have q8:=QZ c k
  have lj:=Q0 c k
  have BD:(uq c k).length+1≤4294967296:=by omega
  have Q2:(ur c k).length+1≤4294967296:=by omega
  have hl5:(uq c k).length≤4294967295:=by omega
  have hl6:(ur c k).length≤4294967295:=by omega
  have AD:uq c (k+1)=uq c k++if Cp c k=true then [(k:Int)] else []:=rfl
  have oD:ur c (k+1)=ur c k++if Cp c k=true∧DM c k=true then [(k:Int)] else []:=rfl
  have yd:kz [PV.int .i64 (k:Int)]=true:=rfl
  have oG:=Ls c ps (fun x=>decide (x.s=none∧x.i=k)) 84 [] [.vp [.int .i64 k]] er rfl (by simp[PV.aJ,PV.aH]) call84 (fun x=>Yz k x)
  rw[show fwd c (fun x=>!decide (x.s=none∧x.i=k)) c.t.length c.c.length=DL c k from rfl,s5] at oG
  have ov:DM c k=Bool.or (!decide (DL c k<1099511627776)) (decide (0<DL c k - aZ c c.t.length c.c.length)):=rfl
  obtain⟨wo,DG⟩:∃w,DL c k=w:=⟨_,rfl⟩
  rw[DG] at oG ov
  obtain⟨lt,aY⟩:∃b,decide (wo<1099511627776)=b:=⟨_,rfl⟩
  rw[aY] at oG ov
  obtain⟨df,Zw⟩:∃d,wo - aZ c c.t.length c.c.length=d:=⟨_,rfl⟩
  rw[Zw] at oG ov
  refine .skip (.seq (.block (.sr ?_)))
  refine .seq (.sr ?_)
  refine .cs ?_ ?_<;>intro gT
  ·try simp at gT
   rw[gT] at AD oD
   simp only[Bool.false_eq_true,false_and,if_false,List.append_nil] at AD oD
   refine .exit (.rn ?_)
   refine⟨k+1,bC,bC,by rw[AD,oD];exact bT⟩
  try simp at gT
  rw[gT] at AD oD
  simp only[true_and,if_true] at AD oD
  refine .skip (.sr ?_)
  refine .seq (.au lV rfl af (.rn [0,1] _ ?_))
  refine .step rfl rfl (.borrow rfl rfl rfl call83 (by decide) (by first|(simp<;>rfl)|(simp[*]<;>rfl)|(simp[*];done)) (oG) (by rintro _ rfl<;>first|(simp;done)|rfl) ?_)
  rintro _ rfl
  refine .rn [3,4,5,6,7] [] ?_
  refine .done (.seq (.au iB rfl af ?_))
  refine .rn [0,1,2] _ ?_
  refine .split (t:=49) rfl (fun nW=>?_) (fun nW=>?_)
  ·try subst nW
   try simp at nW
   refine .rn [3,4,5] [] ?_
   refine .done (.ep rfl (.rn ?_))
   refine .rn ?_
   have F6:DM c k=true:=by rw[ov];simp[*]
   rw[if_pos F6] at oD
   refine⟨k+1,bC,bC,by rw[AD,oD];exact(.mk [] [(4,10),(5,8)] ib iQ rfl rfl rfl)⟩
  try subst nW
  try simp at nW
  refine .rn [3,4,5] [] ?_
  refine .done ?_
  refine .cs ?_ ?_<;>intro AE
  ·try simp at AE
   refine .rn ?_
   refine .rn ?_
   have F6:DM c k=true:=by rw[ov];simp[*]
   rw[if_pos F6] at oD
   refine⟨k+1,bC,bC,by rw[AD,oD];exact(.mk [] [(4,10),(5,8)] ib iQ rfl rfl rfl)⟩
  try simp at AE
  refine .skip (.rn ?_)
  have F6:¬DM c k=true:=by rw[ov];simp[*]
  rw[if_neg F6,List.append_nil] at oD
  refine⟨k+1,bC,bC,by rw[AD,oD];exact(.mk [] [(5,8)] ib iQ rfl rfl rfl)⟩
 try simp at n4
 obtain rfl:k=c.t.length:=by omega
 refine .exit (.sr ?_)
 refine .ret (aA ?_)
 simp only[if_true];exact ly (by simp[PV.aH,PV.aJ])
end
theorem IF (w:List Int):(w=[]∧eW w=.aG)∨eW w=ints w:=by
 cases w with
 |nil=>exact .inl ⟨rfl,rfl⟩
 |cons a r=>exact .inr rfl
theorem F7 (c:ao)(s:aq)(r:List aq)(out:List Int)(i:Nat)(sum:Int):y7 c (s::r) out i sum=if (i:Int)≤s.a∧s.a≤(c.t.length:Int) then
  match aK c s with
  |some (n,i',w)=>if s.i=((out++(c.t.drop i).take (s.a.toNat - i)).length:Int) then y7 c r (out++(c.t.drop i).take (s.a.toNat - i)++w) i' (sum+n) else none
  |none=>none
 else none:=rfl
theorem Q3 (c:ao)(out:List Int)(i:Nat)(sum:Int):y7 c [] out i sum=some (out++c.t.drop i,sum):=rfl
theorem Q4 {c:ao}(hr:Rt c):∀(l:List aq) (out:List Int) (i:Nat) (sum:Int) {o:List Int} {m:Int},y7 c l out i sum=some (o,m)→o.length≤out.length+96*l.length+48∧sum≤m∧m≤sum+100*(l.length:Int)
 |[],out,i,sum,o,m,h=>by
  rw[Q3] at h
  injection h with h;injection h with h1 h2
  subst h1;subst h2
  have:=hr.tl
  simp only[List.length_append,List.length_drop,List.length_nil]
  omega
 |s::r,out,i,sum,o,m,h=>by
  rw[F7] at h
  split at h
  ·split at h
   ·rename_i n i' w hd
    split at h
    ·obtain⟨e1,e2,e3⟩:=Q4 hr r _ _ _ h
     obtain⟨d1,d2,d3,d4,d5,d6⟩:=kS hr hd
     have:=hr.tl
     simp only[List.length_append,List.length_take,List.length_drop,List.length_cons] at e1 ⊢
     omega
    cases h
   cases h
  cases h
theorem IG {c:ao}(hr:Rt c){l:List aq}{o:List Int}{m:Int}(h:dF c l=some (o,m)):o.length≤96*l.length+48∧0≤m∧m≤100*(l.length:Int):=by
 have:=Q4 hr l [] 0 0 h
 simp only[List.length_nil] at this
 omega
structure WI (c:ao) (l:List aq) (k:Nat) (out:List Int) (i:Nat) (sum:Int):Prop where
  hk:k≤l.length
  hw:y7 c (l.drop k) out i sum=dF c l
  hi:i≤c.t.length
  h0:0≤sum
  h1:sum≤100*(k:Int)
  ho:out.length≤96*k
theorem WI.start (c:ao)(l:List aq):WI c l 0 [] 0 0:=⟨Nat.zero_le _,rfl,Nat.zero_le _,by decide,by simp,by simp⟩
theorem WI.bad {c:ao}{l:List aq}{k:Nat}{out:List Int}{i:Nat}{sum:Int}(h:WI c l k out i sum){s:aq}(hs:l[k]?=some s)(hn:¬((i:Int)≤s.a∧s.a≤(c.t.length:Int))∨aK c s=none∨s.i≠((out++(c.t.drop i).take (s.a.toNat - i)).length:Int)):dF c l=none:=by
 obtain⟨hk,rfl⟩:=List.getElem?_eq_some_iff.1 hs
 rw[← h.hw,List.drop_eq_getElem_cons hk,F7]
 rcases hn with h1|h1|h1
 ·rw[if_neg h1]
 ·split<;>simp[h1]
 split
 ·cases aK c l[k] with
  |none=>rfl
  |some y=>obtain⟨n,i',w⟩:=y;simp[h1]
 rfl
theorem WI.next {c:ao}(hr:Rt c){l:List aq}{k:Nat}{out:List Int}{i:Nat}{sum:Int}(h:WI c l k out i sum){s:aq}(hs:l[k]?=some s){n:Int}{i':Nat}{w:List Int}(h1:(i:Int)≤s.a∧s.a≤(c.t.length:Int))(hd:aK c s=some (n,i',w))(h2:s.i=((out++(c.t.drop i).take (s.a.toNat - i)).length:Int)) :
  WI c l (k+1) (out++(c.t.drop i).take (s.a.toNat - i)++w) i' (sum+n):=by
 obtain⟨hk,rfl⟩:=List.getElem?_eq_some_iff.1 hs
 obtain⟨d1,d2,d3,d4,d5,d6⟩:=kS hr hd
 have e0:=h.h0;have e1:=h.h1;have e2:=h.ho
 have oB:=hr.tl
 refine⟨hk,?_,d4,by omega,by rw[Int.natCast_add];omega,?_⟩
 ·rw[← h.hw,List.drop_eq_getElem_cons hk,F7,if_pos h1,hd]
  simp only
  rw[if_pos h2]
 simp only[List.length_append,List.length_take,List.length_drop]
 omega
theorem WI.stop {c:ao}{l:List aq}{out:List Int}{i:Nat}{sum:Int}(h:WI c l l.length out i sum):dF c l=some (out++c.t.drop i,sum):=by
 rw[← h.hw,List.drop_length,Q3]
def vK (c:ao)(l:List aq):PV:=match dF c l with
 |some (o,n)=>.bn [ints o,.int .i64 n,.bool true]
 |none=>.bn [ints [],.int .i64 0,.bool false]
theorem LW {a b:PV}(ha:a.aH=true)(hb:b.aH=true):dO (.bn [.aG,a,b]) (.bn [.vec [],a,b]):=Fx (.cons .dV (.cons (.same _ ha) (.cons (.same _ hb) .nil)))
def y8 (c:ao)(l:List aq):List Int:=if bf c=0 then (if 100<l.length then [] else match dF c l with|some (o,_)=>o|none=>[]) else []
def F8 (c:ao)(l:List aq):Int:=if bf c=0 then (if 100<l.length then 2 else match dF c l with|some _=>0|none=>7) else bf c
def F9 (c:ao)(s:aq):Int:=if bf c=0 then (match aK c s with|some (n,_,_)=>if s.i≤(c.c.length:Int) then n else 0|none=>0) else 0
def Ga (c:ao)(s:aq):Int:=if bf c=0 then (match aK c s with|some _=>if s.i≤(c.c.length:Int) then 0 else 5|none=>5) else bf c
theorem LX (c:ao)(l:List aq):(vK c l).aH=true:=by
 unfold vK
 split<;>simp[PV.aH,PV.aJ]
section
variable [bG]
theorem Cq (c:ao)(l:List aq)(hk:bf c=0)(da:l.length≤200):aN prog 110 [aD c,.vec (l.map encS)] fun r=>dO r (vK c l):=by
 have bj:=iC hk
 have oB:=bj.tl
 have hC:cw c=(cQ c):=rfl
 have hE:∀s:aq,encS s=.agg [.int .i64 s.k,.int .i64 s.a,.int .i64 s.i,.int .i64 s.l,.int .i64 s.w]:=fun _=>rfl
 have b7:=fun s=>BQ c s hk
 have jA:=fun a i:Int=>sE a i (c.t.length:Int)
 have xJ:=WI.start c l
 unfold aD at b7 ⊢
 rw[hC] at b7 ⊢
 have vo:dF c l=none→vK c l=.bn [.vec [],.int .i64 0,.bool false]:=fun h=>by unfold vK;rw[h];rfl
 refine .bP func110 rfl rfl ?_
 refine .sr ?_
 refine .sr ?_
 refine .sr ?_
 refine .seq (.sr ?_)
 refine .block ?_
 refine .ec (fun z:Nat×List Int×Nat×Int=>([(2,.ptr 0 0),(7,.grow 1 z.2.1.length true),(8,.int .i64 z.2.2.1),(9,.int .i64 z.2.2.2),(16,.vec (l.map encS)),(17,.int .i64 l.length),(18,.int .i64 z.1)],⟨2,[(1,.grow 1 (z.2.1.map (.int .i64))),(0,.box (cQ c))]⟩)) (fun z=>WI c l z.1 z.2.1 z.2.2.1 z.2.2.2) (fun z=>l.length - z.1) (0,[],0,0) xJ bT ?_
 clear xJ
 rintro⟨k,out,i,sum⟩ hI
 simp only at hI ⊢
 have gP:=hI.hk
 have dx:=hI.hi
 have yh:=hI.h0
 have xg:=hI.h1
 have A9:=hI.ho
 refine .sr ?_
 refine .seq ?_
 refine .cs ?_ ?_<;>intro jC
 ·try simp at jC
  have eO:=gD k
  have fH:k<l.length:=by omega
  obtain⟨s,hs⟩:∃s,l[k]?=some s:=⟨l[k],List.getElem?_eq_getElem fH⟩
  have fU:l[k]=s:=(List.getElem?_eq_some_iff.1 hs).2
  have jA:=jA s.a i
  obtain⟨wi,dW⟩:∃b,(decide ((i:Int)≤s.a)&&decide (s.a≤(c.t.length:Int)))=b:=⟨_,rfl⟩
  rw[dW] at jA
  have b7:=b7 s
  rw[hE] at b7
  refine .skip (.seq (.block (.sr ?_)))
  refine .seq (.seq (.au lV rfl af (.rn iB _ ?_)))
  refine .pc rfl rfl rfl rfl rfl call85 (jA) ?_
  refine .rn [7] [] ?_
  refine .done ?_
  refine .cs ?_ ?_<;>intro mL
  ·try simp at mL
   have hb:=hI.bad hs (.inl (fun hh=>by rw[mL] at dW;simp[hh.1,hh.2] at dW))
   refine .sr ?_
   refine .ret (aA ?_)
   rw[vo hb];exact LW rfl rfl
  try simp at mL
  have dm:(i:Int)≤s.a∧s.a≤(c.t.length:Int):=by rw[mL] at dW;simpa using dW
  obtain⟨a,ha⟩:∃a:Nat,s.a=a:=⟨s.a.toNat,by omega⟩
  have o6:s.a.toNat=a:=by omega
  have qx:i≤a:=by omega
  have eG:a≤c.t.length:=by omega
  have jQ:=@WI.bad c l k out i sum hI s hs
  have e9:=@WI.next c bj l k out i sum hI s hs
  rw[o6] at jQ e9
  have iK:(a:Int)≤(c.t.length:Int):=by omega
  have LY:(i:Int)≤(a:Int):=by omega
  rw[ha] at b7
  have aY:((c.t.drop i).take (a - i)).length=a - i:=by rw[List.length_take,List.length_drop];omega
  have oS:List.take (a - i) (List.drop i (c.t.map (PV.int .i64)))=((c.t.drop i).take (a - i)).map (PV.int .i64):=by rw[List.map_take,List.map_drop]
  obtain⟨Q,hQ⟩:∃Q,(c.t.drop i).take (a - i)=Q:=⟨_,rfl⟩
  rw[hQ] at aY oS jQ e9
  have Zx:out.length+Q.length≤4294967296:=by omega
  have LZ:out.length+Q.length≤20000:=by omega
  clear aY
  rcases hd:aK c s with _|⟨n,i',w⟩
  ·skip
   refine .skip (.sr ?_)
   refine .seq (.au gb rfl af (.rn [0,1] _ ?_))
   refine .step rfl rfl (.pure rfl rfl rfl call95 (by decide) (b7) (by first|rfl|simp[*]) ?_)
   intro _ e;rw[xy hd] at e;subst e;unfold gd;have uu:=jQ (.inr (.inl hd))
   refine .rn [3,4,5,6,7,8,9,10,11,12] [] ?_
   refine .done (.seq (.seq (.au pQ rfl af ?_)))
   refine .rn [0,1,2] _ ?_
   refine .split (t:=48) rfl (fun iU=>?_) (fun iU=>?_)
   ·try subst iU
    try simp at iU
    refine .rn [3,4,5,6,7,8] [] ?_
    refine .done (.ep rfl (.sr ?_))
    refine .ret (aA ?_)
    rw[vo uu];exact LW rfl rfl
   try subst iU
   try simp at iU
  skip
  refine .skip (.sr ?_)
  refine .seq (.au gb rfl af (.rn [0,1] _ ?_))
  refine .step rfl rfl (.pure rfl rfl rfl call95 (by decide) (b7) (by first|rfl|simp[*]) ?_)
  intro _ e;rw[ua hd] at e;subst e;unfold gd;obtain⟨d1,d2,d3,d4,d5,d6⟩:=kS bj hd;have Zy:IntKind.i64.wrap (sum+n)=sum+n:=wrap64 (by omega) (by omega);have Zz:out.length+Q.length+w.length≤4294967296:=by omega
  refine .rn [3,4,5,6,7,8,9,10,11,12] [] ?_
  refine .done (.seq (.seq (.au pQ rfl af ?_)))
  refine .rn [0,1,2] _ ?_
  refine .split (t:=48) rfl (fun iU=>?_) (fun iU=>?_)
  ·try subst iU
   try simp at iU
  try subst iU
  try simp at iU
  refine .rn [3,4,5,6,7,8] [] ?_
  refine .done ?_
  refine .cs ?_ ?_<;>intro sS
  ·try simp at sS
   have uu:=jQ (.inr (.inr (fun e=>sS (by rw[e];simp))))
   refine .sr ?_
   refine .ret (aA ?_)
   rw[vo uu];exact LW rfl rfl
  try simp at sS
  have qu:=e9 dm hd (by rw[sS];simp)
  rcases IF w with⟨rfl,hw⟩|hw<;>simp only[hw]
  ·skip
   refine .skip (.sr ?_)
   refine .rn ?_
   refine .rn ?_
   refine⟨(k+1,out++Q++[],i',sum+n),qu,bC,(.mk [] [(1,5)] ib iQ rfl rfl rfl)⟩
  skip
  refine .skip (.sr ?_)
  refine .rn ?_
  refine .rn ?_
  have L3:=Nat.add_assoc out.length Q.length w.length
  refine⟨(k+1,out++Q++w,i',sum+n),qu,bC,(.mk [] [(1,5)] ib iQ rfl rfl rfl)⟩
 try simp at jC
 obtain rfl:k=l.length:=by omega
 have dB:=hI.stop
 obtain⟨D,hD⟩:∃D,c.t.drop i=D:=⟨_,rfl⟩
 have ZA:List.drop i (c.t.map (PV.int .i64))=D.map (PV.int .i64):=by rw[← hD,List.map_drop]
 have ZB:List.take (c.t.length - i) (D.map (PV.int .i64))=D.map (PV.int .i64):=List.take_of_length_le (by rw[← hD];simp)
 have vL:D.length≤48:=by rw[← hD,List.length_drop];omega
 have bW:out.length+D.length≤4294967296:=by omega
 rw[hD] at dB
 clear hD
 have L4:(i:Int)≤(c.t.length:Int):=by omega
 have r9:vK c l=.bn [ints (out++D),.int .i64 sum,.bool true]:=by unfold vK;rw[dB]
 refine .exit (.sr ?_)
 refine .ret (aA ?_)
 rw[r9];simp only[ints,List.map_append];exact ly rfl
theorem Gb (c:ao)(l:List aq)(hk:bf c=0)(da:l.length≤200):aN prog 100 [aD c,.vec (l.map encS)] fun r=>r=.bn [.int .i64 ((cF c l).getD 0),.bool (cF c l).isSome]:=by
 have bj:=iC hk
 have hC:cw c=(cQ c):=rfl
 have dX:=aN.soft (Cq c l hk da) (LX c l)
 have hx:cF c l=if 100<l.length then none else match dF c l with|some (o,n)=>if o=c.c then some n else none|none=>none:=rfl
 unfold aD at dX ⊢
 rw[hC] at dX ⊢
 unfold vK at dX
 refine .bP func100 rfl rfl ?_
 rcases hw:dF c l with _|⟨o,n⟩
 ·
  rw[hw] at hx dX
  simp only at hx dX
  have lA:cF c l=none:=by rw[hx];split<;>rfl
  rw[lA]
  refine .sr ?_
  refine .seq (.sr ?_)
  refine .cs ?_ ?_<;>intro jq
  ·try simp at jq
   skip
   refine .sr ?_
   refine .ret (aA ?_)
   exact zk
  try simp at jq
  refine .skip (.seq (.au fw rfl af (.rn [0,1] _ ?_)))
  refine .pc rfl rfl rfl rfl rfl call110 (dX) ?_
  refine .rn [3,4,5,6,7,8,9] [] ?_
  refine .done (.seq (.seq (.au pQ rfl af ?_)))
  refine .rn [0,1,2] _ ?_
  refine .split (t:=21) rfl (fun dz=>?_) (fun dz=>?_)
  ·try subst dz
   try simp at dz
   refine .rn [3,4,5,6,7,8] [] ?_
   refine .done (.ep rfl (.sr ?_))
   refine .ret (aA ?_)
   exact zk
  try subst dz
  try simp at dz
 ·
  rw[hw] at hx dX
  simp only at hx dX
  have o7:=IG bj hw
  have eJ:=bj.cl
  have Gc:=Fq o c.c (by omega) (by omega)
  obtain⟨eb,vM⟩:∃b,decide (o=c.c)=b:=⟨_,rfl⟩
  rw[vM] at Gc
  refine .sr ?_
  refine .seq (.sr ?_)
  refine .cs ?_ ?_<;>intro jq
  ·try simp at jq
   rw[if_pos (show 100<l.length by omega)] at hx
   refine .sr ?_
   refine .ret (aA ?_)
   first|(rw[hx];rfl)|(rw[lA];rfl)
  try simp at jq
  rw[if_neg (by omega)] at hx
  refine .skip (.seq (.au fw rfl af (.rn [0,1] _ ?_)))
  refine .pc rfl rfl rfl rfl rfl call110 (dX) ?_
  refine .rn [3,4,5,6,7,8,9] [] ?_
  refine .done (.seq (.seq (.au pQ rfl af ?_)))
  refine .rn [0,1,2] _ ?_
  refine .split (t:=21) rfl (fun dz=>?_) (fun dz=>?_)
  ·try subst dz
   try simp at dz
  try subst dz
  try simp at dz
  refine .rn [3,4,5] _ ?_
  refine .pc rfl rfl rfl rfl rfl call144 (Gc) ?_
  refine .rn [7,8] [] ?_
  refine .done ?_
  refine .cs ?_ ?_<;>intro fg
  ·try simp at fg
   have lA:cF c l=none:=by rw[hx,if_neg (fun hh=>by rw[hh] at vM;simp[fg] at vM)]
   refine .sr ?_
   refine .ret (aA ?_)
   first|(rw[hx];rfl)|(rw[lA];rfl)
  try simp at fg
  have lA:cF c l=some n:=by rw[hx,if_pos (by rw[fg] at vM;simpa using vM)]
  refine .skip (.sr ?_)
  refine .ret (aA ?_)
  first|(rw[hx];rfl)|(rw[lA];rfl)
theorem ZC (c:ao)(l:List aq)(hB:BC c)(da:l.length≤200):aN prog 40 [aD c,.vec (l.map encS)] fun r=>r=.bn [.int .i64 (if bf c=0 then (cF c l).getD 0 else 0),.bool (if bf c=0 then (cF c l).isSome else false),.int .i64 (bf c)]:=by
 have cK:=rz c hB
 have mR:=Gb c l
 have hC:cw c=(cQ c):=rfl
 obtain⟨e,he⟩:∃e,bf c=e:=⟨_,rfl⟩
 rw[he] at cK mR ⊢
 unfold aD at cK mR ⊢
 rw[hC] at cK mR ⊢
 refine .bP func40 rfl rfl ?_
 refine .sr ?_
 refine .seq (.seq (.au [0,1,2] rfl af (.rn [0] _ ?_)))
 refine .pc rfl rfl rfl rfl rfl call55 (cK) ?_
 refine .rn [2] [] ?_
 refine .done (.sr ?_)
 refine .cs ?_ ?_<;>intro gg
 ·try simp at gg
  refine .sr ?_
  refine .ret (aA ?_)
  exact zk
 try simp at gg
 subst gg
 refine .skip (.seq (.au lV rfl af (.rn [0,1] _ ?_)))
 refine .pc rfl rfl rfl rfl rfl call100 (mR rfl da) ?_
 refine .rn [3,4,5,6,7] [] ?_
 refine .done (.sr ?_)
 refine .ret (aA ?_)
 exact zk
theorem ZD (c:ao)(l:List aq)(hB:BC c)(da:l.length≤200):aN prog 53 [aD c,.vec (l.map encS)] fun r=>dO r (.bn [ints (y8 c l),.int .i64 (F8 c l)]):=by
 have cK:=rz c hB
 have dX:=fun hk=>aN.soft (Cq c l hk da) (LX c l)
 have hC:cw c=(cQ c):=rfl
 have hO:y8 c l=if bf c=0 then (if 100<l.length then [] else match dF c l with|some (o,_)=>o|none=>[]) else []:=rfl
 have hX:F8 c l=if bf c=0 then (if 100<l.length then 2 else match dF c l with|some _=>0|none=>7) else bf c:=rfl
 obtain⟨e,he⟩:∃e,bf c=e:=⟨_,rfl⟩
 rw[he] at cK dX hO hX
 unfold aD at cK dX ⊢
 rw[hC] at cK dX ⊢
 unfold vK at dX
 refine .bP func53 rfl rfl ?_
 rcases hw:dF c l with _|⟨o,n⟩
 ·
  rw[hw] at hO hX dX
  simp only at hO hX dX
  refine .sr ?_
  refine .seq (.seq (.au [0,1,2] rfl af (.rn [0] _ ?_)))
  refine .pc rfl rfl rfl rfl rfl call55 (cK) ?_
  refine .rn [2] [] ?_
  refine .done (.sr ?_)
  refine .cs ?_ ?_<;>intro gg
  ·try simp at gg
   rw[if_neg gg] at hO hX
   refine .sr ?_
   refine .ret (aA ?_)
   rw[hO,hX];first|exact yX rfl|exact ly rfl
  try simp at gg
  subst gg
  rw[if_pos rfl] at hO hX
  refine .skip (.seq (.sr ?_))
  refine .cs ?_ ?_<;>intro iT
  ·try simp at iT
   rw[if_pos (show 100<l.length by omega)] at hO hX
   refine .sr ?_
   refine .ret (aA ?_)
   rw[hO,hX];first|exact yX rfl|exact ly rfl
  try simp at iT
  rw[if_neg (by omega)] at hO hX
  refine .skip (.seq (.au fw rfl af (.rn [0,1] _ ?_)))
  refine .pc rfl rfl rfl rfl rfl call110 (dX rfl) ?_
  refine .rn [3,4,5,6,7,8,9] [] ?_
  refine .done (.seq (.sr ?_))
  refine .cs ?_ ?_<;>intro kD
  ·try simp at kD
   refine .sr ?_
   refine .ret (aA ?_)
   rw[hO,hX];first|exact yX rfl|exact ly rfl
  try simp at kD
 ·
  rw[hw] at hO hX dX
  simp only at hO hX dX
  refine .sr ?_
  refine .seq (.seq (.au [0,1,2] rfl af (.rn [0] _ ?_)))
  refine .pc rfl rfl rfl rfl rfl call55 (cK) ?_
  refine .rn [2] [] ?_
  refine .done (.sr ?_)
  refine .cs ?_ ?_<;>intro gg
  ·try simp at gg
   rw[if_neg gg] at hO hX
   refine .sr ?_
   refine .ret (aA ?_)
   rw[hO,hX];first|exact yX rfl|exact ly rfl
  try simp at gg
  subst gg
  rw[if_pos rfl] at hO hX
  refine .skip (.seq (.sr ?_))
  refine .cs ?_ ?_<;>intro iT
  ·try simp at iT
   rw[if_pos (show 100<l.length by omega)] at hO hX
   refine .sr ?_
   refine .ret (aA ?_)
   rw[hO,hX];first|exact yX rfl|exact ly rfl
  try simp at iT
  rw[if_neg (by omega)] at hO hX
  refine .skip (.seq (.au fw rfl af (.rn [0,1] _ ?_)))
  refine .pc rfl rfl rfl rfl rfl call110 (dX rfl) ?_
  refine .rn [3,4,5,6,7,8,9] [] ?_
  refine .done (.seq (.sr ?_))
  refine .cs ?_ ?_<;>intro kD
  ·try simp at kD
  try simp at kD
  refine .skip (.sr ?_)
  refine .ret (aA ?_)
  rw[hO,hX];first|exact yX rfl|exact ly rfl
theorem ZE (c:ao)(s:aq)(hB:BC c):aN prog 52 [aD c,encS s] fun r=>r=.bn [.int .i64 (F9 c s),.int .i64 (Ga c s)]:=by
 have cK:=rz c hB
 have b7:=BQ c s
 have hC:cw c=(cQ c):=rfl
 have hE:encS s=.agg [.int .i64 s.k,.int .i64 s.a,.int .i64 s.i,.int .i64 s.l,.int .i64 s.w]:=rfl
 have hN:F9 c s=if bf c=0 then (match aK c s with|some (n,_,_)=>if s.i≤(c.c.length:Int) then n else 0|none=>0) else 0:=rfl
 have hX:Ga c s=if bf c=0 then (match aK c s with|some _=>if s.i≤(c.c.length:Int) then 0 else 5|none=>5) else bf c:=rfl
 obtain⟨e,he⟩:∃e,bf c=e:=⟨_,rfl⟩
 rw[he] at cK b7 hN hX
 unfold aD at cK b7 ⊢
 rw[hE] at b7 ⊢
 rw[hC] at cK b7 ⊢
 refine .bP func52 rfl rfl ?_
 rcases hd:aK c s with _|⟨n,i',w⟩
 ·
  rw[hd] at hN hX
  rw[xy hd] at b7
  unfold gd at b7
  simp only at hN hX
  refine .sr ?_
  refine .seq (.seq (.au [0,1,2] rfl af (.rn [0] _ ?_)))
  refine .pc rfl rfl rfl rfl rfl call55 (cK) ?_
  refine .rn [2] [] ?_
  refine .done (.sr ?_)
  refine .cs ?_ ?_<;>intro gR
  ·try simp at gR
   rw[if_neg gR] at hN hX
   refine .sr ?_
   refine .ret (aA ?_)
   rw[hN,hX]
  try simp at gR
  subst gR
  rw[if_pos rfl] at hN hX
  refine .skip (.seq (.au gb rfl af (.rn [0,1] _ ?_)))
  refine .pc rfl rfl rfl rfl rfl call95 (b7 rfl) ?_
  refine .rn [3,4,5,6,7,8,9,10,11,12] [] ?_
  refine .done (.seq (.seq (.au fw rfl af ?_)))
  refine .rn [0,1,2] _ ?_
  refine .split (t:=26) rfl (fun kD=>?_) (fun kD=>?_)
  ·try subst kD
   try simp at kD
   refine .rn [3,4,5,6,7,8,9] [] ?_
   refine .done (.ep rfl (.sr ?_))
   refine .ret (aA ?_)
   rw[hN,hX]
  try subst kD
  try simp at kD
 ·
  rw[hd] at hN hX
  rw[ua hd] at b7
  unfold gd at b7
  simp only at hN hX
  refine .sr ?_
  refine .seq (.seq (.au [0,1,2] rfl af (.rn [0] _ ?_)))
  refine .pc rfl rfl rfl rfl rfl call55 (cK) ?_
  refine .rn [2] [] ?_
  refine .done (.sr ?_)
  refine .cs ?_ ?_<;>intro gR
  ·try simp at gR
   rw[if_neg gR] at hN hX
   refine .sr ?_
   refine .ret (aA ?_)
   rw[hN,hX]
  try simp at gR
  subst gR
  rw[if_pos rfl] at hN hX
  refine .skip (.seq (.au gb rfl af (.rn [0,1] _ ?_)))
  refine .pc rfl rfl rfl rfl rfl call95 (b7 rfl) ?_
  refine .rn [3,4,5,6,7,8,9,10,11,12] [] ?_
  refine .done (.seq (.seq (.au fw rfl af ?_)))
  refine .rn [0,1,2] _ ?_
  refine .split (t:=26) rfl (fun kD=>?_) (fun kD=>?_)
  ·try subst kD
   try simp at kD
  try subst kD
  try simp at kD
  refine .rn [3,4,5,6,7,8,9] [] ?_
  refine .done ?_
  refine .cs ?_ ?_<;>intro rA
  ·try simp at rA
   rw[if_neg (by omega)] at hN hX
   refine .sr ?_
   refine .ret (aA ?_)
   rw[hN,hX]
  try simp at rA
  rw[if_pos (by omega)] at hN hX
  refine .skip (.sr ?_)
  refine .ret (aA ?_)
  rw[hN,hX]
end
end Go.Am.Sl
end
section
namespace Go.Am.Sl
def ta (c:ao):Nat→List aq→Prop
 |_,[]=>True
 |i,s::r=>(i:Int)≤s.a∧s.a≤(c.t.length:Int)∧∃n i' w,aK c s=some (n,i',w)∧ta c i' r
theorem ta.mono {c:ao}{i j:Nat}{l:List aq}(h:ta c j l)(e8:i≤j):ta c i l:=by
 cases l with
 |nil=>trivial
 |cons s r=>obtain⟨h1,h2⟩:=h;exact⟨by omega,h2⟩
theorem Q5 {c:ao}:∀(l:List aq) {out:List Int} {i:Nat} {sum:Int} {o:List Int} {m:Int},y7 c l out i sum=some (o,m)→ta c i l
 |[],_,_,_,_,_,_=>trivial
 |s::r,out,i,sum,o,m,h=>by
  rw[F7] at h
  split at h
  ·rename_i dm
   split at h
   ·rename_i n i' w hd
    split at h
    ·exact⟨dm.1,dm.2,n,i',w,hd,Q5 r h⟩
    cases h
   cases h
  cases h
theorem ta.erase {c:ao}(hr:Rt c):∀ {l:List aq} {i:Nat} (k:Nat),ta c i l→ta c i (l.eraseIdx k)
 |[],_,_,_=>trivial
 |s::r,i,0,h=>by
  obtain⟨h1,h2,n,i',w,hd,h3⟩:=h
  have:=(kS hr hd).2.2.1
  exact h3.mono (by omega)
 |s::r,i,k+1,h=>by
  obtain⟨h1,h2,n,i',w,hd,h3⟩:=h
  exact⟨h1,h2,n,i',w,hd,h3.erase hr k⟩
theorem ZF {c:ao}{l:List aq}{n:Int}(h:cF c l=some n):l.length≤100∧dF c l=some (c.c,n):=by
 unfold cF at h
 split at h
 ·cases h
 split at h
 ·rename_i o m hw
  split at h
  ·rename_i ho
   injection h with h
   subst h;subst ho
   exact⟨by omega,hw⟩
  cases h
 cases h
theorem Q6 {c:ao}{l:List aq}{n:Int}(h:cF c l=some n):ta c 0 l:=Q5 l (ZF h).2
theorem Q7 {c:ao}{s:aq}{x:Int}(hx:0≤x)(hs:0≤s.i):aK c { s with i:=x }=aK c s:=by
 unfold aK
 simp only[hx,hs,and_true]
def vN (c:ao):List aq→Nat→Nat→List aq
 |[],_,_=>[]
 |s::r,i,j=>match aK c s with
  |some (_,i',w)=>{ s with i:=((j+(s.a.toNat - i):Nat):Int) }::vN c r i' (j+(s.a.toNat - i)+w.length)
  |none=>[]
theorem Q8 {c:ao}{s:aq}{r:List aq}{i j:Nat}{n:Int}{i':Nat}{w:List Int}(hd:aK c s=some (n,i',w)):vN c (s::r) i j={ s with i:=((j+(s.a.toNat - i):Nat):Int) }::vN c r i' (j+(s.a.toNat - i)+w.length):=by
 show (match aK c s with|some (_,i',w)=>_|none=>_)=_
 rw[hd]
theorem Q9 {c:ao}(hr:Rt c):∀ {l:List aq} {i j:Nat} {out:List Int} {sum:Int},ta c i l→i≤c.t.length→out.length=j→∃o m,y7 c (vN c l i j) out i sum=some (o,m)
 |[],_,_,_,_,_,_,_=>⟨_,_,rfl⟩
 |s::r,i,j,out,sum,h,hi,ho=>by
  obtain⟨h1,h2,n,i',w,hd,h3⟩:=h
  obtain⟨d1,d2,d3,d4,d5,d6⟩:=kS hr hd
  rw[Q8 hd,F7]
  have hk:((c.t.drop i).take (s.a.toNat - i)).length=s.a.toNat - i:=by rw[List.length_take,List.length_drop];omega
  have o0:aK c { s with i:=((j+(s.a.toNat - i):Nat):Int) }=some (n,i',w):=by rw[Q7 (by omega) d2.2.2,hd]
  rw[if_pos ⟨h1,h2⟩,o0]
  simp only
  rw[if_pos (by rw[List.length_append,hk,ho])]
  exact Q9 hr h3 d4 (by rw[List.length_append,List.length_append,hk,ho])
theorem ZG {c:ao}(hr:Rt c){l:List aq}(h:ta c 0 l):∃o m,dF c (vN c l 0 0)=some (o,m):=Q9 hr h (Nat.zero_le _) rfl
def y9:ao:=⟨0,0,0,0,0,[],[],[],[]⟩
def AF (c:ao)(l:List aq)(k:Int):List aq:=vN c (l.eraseIdx k.toNat) 0 0
def DN (c:ao)(l:List aq):List Int:=match dF c l with|some (o,_)=>o|none=>[]
def xO (c:ao)(l:List aq)(k:Int):Int:=if bf c≠0 then bf c else if cF c l=none∨¬(0≤k∧k≤(l.length:Int) - 1) then 1 else if 48<(DN c (AF c l k)).length then 2 else 0
def IH (c:ao)(l:List aq)(k:Int):ao:=if xO c l k=0 then { c with c:=DN c (AF c l k) } else y9
def II (c:ao)(l:List aq)(k:Int):List aq:=if xO c l k=0 then AF c l k else []
structure MI (c:ao) (l:List aq) (D R:List aq) (i j:Nat):Prop where
  ch:ta c i R
  hi:i≤c.t.length
  hd:D++vN c R i j=vN c l 0 0
  hl:D.length+R.length=l.length
  hj:j≤96*D.length
theorem MI.start {c:ao}{l:List aq}(h:ta c 0 l):MI c l [] l 0 0:=⟨h,Nat.zero_le _,rfl,by simp,by simp⟩
theorem MI.next {c:ao}(hr:Rt c){l D R:List aq}{s:aq}{i j:Nat}(h:MI c l D (s::R) i j){n:Int}{i':Nat}{w:List Int}(hd:aK c s=some (n,i',w)) :
  MI c l (D++[{ s with i:=((j+(s.a.toNat - i):Nat):Int) }]) R i' (j+(s.a.toNat - i)+w.length):=by
 obtain⟨⟨h1,h2,n',i'',w',tK,h3⟩,hi,h4,h5,h6⟩:=h
 rw[hd] at tK
 injection tK with e;injection e with e1 e;injection e with e2 e3
 subst e1;subst e2;subst e3
 obtain⟨d1,d2,d3,d4,d5,d6⟩:=kS hr hd
 have:=hr.tl
 refine⟨h3,d4,?_,by simp at h5 ⊢;omega,by rw[List.length_append,List.length_singleton];omega⟩
 rw[Q8 hd] at h4
 rw[← h4,List.append_assoc];rfl
theorem MI.stop {c:ao}{l D:List aq}{i j:Nat}(h:MI c l D [] i j):D=vN c l 0 0:=by
 have:=h.hd
 rw[show vN c [] i j=[] from rfl,List.append_nil] at this
 exact this
open Go Go.Am Go.Proofs Tryz Go.RowKit Go.Lib
theorem ZH (w:World):(zeroValue 48).run prog w=.ok (.agg #[.int .i64 0,.int .i64 0,.int .i64 0,.int .i64 0,.int .i64 0]) w:=zeroValue48 w
theorem ZI (w:World)(ty:TypeId)(b o c:Nat)(hc:∀j,j<5→(w.cell? ⟨b,o+j,none⟩).isSome=true)(hf:∀j,j<5→w.frozen? ⟨b,o+j,none⟩=false) :
  (Builtin.clear_ #[31] ty #[.slice (some ⟨b,o,none⟩) 1 c]).run prog w=.ok (.tuple #[]) (w.setCells b o (List.replicate 5 (.int .i64 0))):=by
 have ht:prog.underlying 31=some (.slice 48):=underlying31
 have HB:(Builtin.zeroCells (Value.agg #[.int .i64 0,.int .i64 0,.int .i64 0,.int .i64 0,.int .i64 0]).cells 1).toList=List.replicate 5 (.int .i64 0):=by
  exact range_zero #[.int .i64 0,.int .i64 0,.int .i64 0,.int .i64 0,.int .i64 0] 1
 have dB:=run_storeCells_cells (P:=prog) b o (List.replicate 5 (.int .i64 0)) 0 w (by simpa using hc) (by simpa using hf) (by intro v aW;rw[List.eq_of_mem_replicate aW];rfl)
 simp only[Nat.add_zero] at dB
 obtain⟨Z,hZ⟩:∃Z,List.replicate 5 (Value.int .i64 0)=Z:=⟨_,rfl⟩
 rw[hZ] at HB dB ⊢
 simp[Builtin.clear_,run_underlying ht,ZH,HB,dB]
theorem ZJ:(prog.info? 48).map (fun i=>(i.zero,i.size,i.bytes))=some (some (.agg #[.int .i64 0,.int .i64 0,.int .i64 0,.int .i64 0,.int .i64 0]),5,40):=by kernel_rfl
set_option maxHeartbeats 4000000 in
set_option maxRecDepth 1000000 in
theorem ZK (jx off cap i n:Nat)(F:List Value)(w:World)(hF:F.length=n*5)(h1:∀u∈F,u.oneCell'=true)(hc:∀t u,F[t]?=some u→w.cell? ⟨jx,off+t,none⟩=some u)(rR:∀t,w.frozen? ⟨jx,t,none⟩=false)
  (fK:n≤cap) (hi:i<n) :
  Calls prog 111 #[.slice (some ⟨jx,off,none⟩) n cap,.int .i64 i,.int .i64 ((i:Int)+1)] w fun e w'=>e=.returned (.slice (some ⟨jx,off,none⟩) (i+(n - (i+1))) cap)∧
   w'=(w.drew.setCells jx (off+i*5) (F.drop ((i+1)*5))).setCells jx (off+(i+(n - (i+1)))*5) (List.replicate 5 (.int .i64 0)):=by
 obtain⟨i0,L5,ko,ll,rZ⟩:=info_parts ZJ
 have ht:prog.underlying 31=some (.slice 48):=underlying31
 have mixed:prog.follows .mixedOrders=true:=rfl
 obtain⟨news,py⟩:∃news,news=F.drop ((i+1)*5):=⟨_,rfl⟩
 have hlen:news.length=(n - (i+1))*5:=by rw[py,List.length_drop,hF,Nat.sub_mul]
 have fX:∀t u,news[t]?=some u→w.cell? ⟨jx,off+((i+1)*5+t),none⟩=some u:=fun t u hu=>by
  rw[py,List.getElem?_drop] at hu
  exact hc _ u hu
 obtain⟨A,hA,qh⟩:∃A:Addr,(if cap=i+1 then some (⟨jx,off,none⟩:Addr) else some ⟨jx,off+(i+1)*5,none⟩)=some A∧Hid (∀t u,news[t]?=some u→w.drew.cell? (A.add t)=some u):=by
  by_cases h:cap=i+1
  ·refine⟨⟨jx,off,none⟩,by simp[h],fun t u hu=>?_⟩
   have h0:news.length=0:=by rw[hlen];omega
   rw[List.length_eq_zero_iff.1 h0] at hu
   simp at hu
  refine⟨⟨jx,off+(i+1)*5,none⟩,by simp[h],fun t u hu=>?_⟩
  rw[Addr.add_lit,Nat.add_assoc]
  exact fX t u hu
 have rJ:∀t,t<n*5→(w.cell? ⟨jx,off+t,none⟩).isSome=true:=fun t ht=>by
  rw[hc t F[t] (List.getElem?_eq_getElem (by omega))];rfl
 have s1:Hid (news.length=(n - (i+1))*5):=hlen
 have s2:Hid (∀u∈news,u.oneCell'=true):=fun u hu=>h1 u (List.mem_of_mem_drop (by rw[← py];exact hu))
 have s3:Hid (∀t,t<news.length→(w.drew.cell? ⟨jx,off+i*5+t,none⟩).isSome=true∧w.drew.frozen? ⟨jx,off+i*5+t,none⟩=false):=by
  intro t ht
  rw[hlen] at ht
  rw[Nat.add_assoc]
  exact⟨rJ (i*5+t) (by omega),rR _⟩
 obtain⟨W1,Gd⟩:∃W1,W1=w.drew.setCells jx (off+i*5) news:=⟨_,rfl⟩
 have dm:∀t,t<n*5→(W1.cell? ⟨jx,off+t,none⟩).isSome=true:=fun t ht=>by
  rw[Gd]
  by_cases hr:i*5≤t∧t<i*5+news.length
  ·have:=World.cell?_setCells_in jx news (off+i*5) w.drew (fun j hj=>by rw[Nat.add_assoc];exact rJ _ (by omega)) (t - i*5) (by omega)
   rw[show off+i*5+(t - i*5)=off+t by omega] at this
   rw[this];rfl
  rw[World.cell?_setCells_out jx news (off+i*5) w.drew _ (fun _ _=>by simp;omega)]
  exact rJ t ht
 have eJ:∀ty,(Builtin.clear_ #[31] ty #[.slice (some ⟨jx,off+(i+(n - (i+1)))*5,none⟩) (n - (i+(n - (i+1)))) (cap - (i+(n - (i+1))))]).run prog W1=.ok (.tuple #[]) (W1.setCells jx (off+(i+(n - (i+1)))*5) (List.replicate 5 (.int .i64 0))):=fun ty=>by
  rw[show n - (i+(n - (i+1)))=1 by omega]
  exact ZI W1 ty jx _ _ (fun j hj=>by rw[Nat.add_assoc];exact dm _ (by omega)) (fun j hj=>by rw[Gd,World.frozen?_setCells];exact rR _)
 have hW:Hid (W1=w.drew.setCells jx (off+i*5) news):=Gd
 have oE:i≤cap:=by omega
 have ny:i+1≤cap:=by omega
 have Qa:(0:Int)≤(i:Int)+1:=by omega
 have pJ:(i:Int)+1≤(n:Int):=by omega
 have sY:((i:Int)+1).toNat=i+1:=by omega
 have aY:¬((i:Int)=(i:Int)+1):=by omega
 rw[← py,← Gd]
 clear Gd fX py hlen hc rR dm rJ h1
 go_enter func111,ntmps111
 go_wp2_with fail
 go_region_law_o (refine step_append_room rfl (.tmp 22) (.tmp 25) 31 rfl 48 i0 5 ht L5 ll jx off i cap (by simp[Act.eval,Act.put]) A (n - (i+1)) (cap - (i+1)) news (by simp[Act.eval,Act.put]) s1.out qh.out s2.out (by omega) s3.out ?_;rw[← hW.out])
 go_wp2
 go_ret
 exact⟨rfl,rfl⟩
theorem ZL (F:List Value)(n k m:Nat)(hF:F.length=n*m)(hk:k<n)(Z:List Value)(hZ:Z.length=m) :
  fq (fq F (k*m) (F.drop ((k+1)*m))) ((n - 1)*m) Z=F.take (k*m)++F.drop ((k+1)*m)++Z:=by
 obtain⟨d,rfl⟩:∃d,n=k+1+d:=⟨n - (k+1),by omega⟩
 have e1:(k+1+d)*m=k*m+m+d*m:=by rw[Nat.add_mul,Nat.add_mul,Nat.one_mul]
 have e2:(k+1)*m=k*m+m:=by rw[Nat.add_mul,Nat.one_mul]
 have e3:(k+1+d - 1)*m=k*m+d*m:=by rw[show k+1+d - 1=k+d by omega,Nat.add_mul]
 rw[e1] at hF
 rw[e2,e3]
 have hd:(F.drop (k*m+m)).length=d*m:=by rw[List.length_drop];omega
 have ht:(F.take (k*m)).length=k*m:=by rw[List.length_take];omega
 have h1:fq F (k*m) (F.drop (k*m+m))=F.take (k*m)++F.drop (k*m+m)++F.drop (k*m+d*m):=by
  unfold fq
  rw[hd]
 rw[h1]
 have hc:(F.drop (k*m+d*m)).length=m:=by rw[List.length_drop];omega
 generalize F.take (k*m)=A at *
 generalize F.drop (k*m+m)=B at *
 generalize F.drop (k*m+d*m)=C at *
 unfold fq
 rw[List.take_left' (by rw[List.length_append,ht,hd])]
 have h0:(A++B++C).drop (k*m+d*m+Z.length)=[]:=List.drop_eq_nil_of_le (by rw[List.length_append,List.length_append,ht,hd,hc,hZ];exact Nat.le_refl _)
 rw[h0,List.append_nil]
theorem Ra {α β:Type}{l:α→List β}{m:Nat}(hl:∀x,(l x).length=m):∀(zs:List α) (k:Nat),(zs.eraseIdx k).flatMap l=(zs.flatMap l).take (k*m)++(zs.flatMap l).drop ((k+1)*m)
 |[],k=>by simp
 |a::r,0=>by
  rw[List.eraseIdx_cons_zero,Nat.zero_mul,List.take_zero,List.nil_append,Nat.zero_add,Nat.one_mul,List.flatMap_cons,List.drop_left' (hl a)]
 |a::r,k+1=>by
  have t1:∀R,(l a++R).take ((k+1)*m)=l a++R.take (k*m):=fun R=>by
   rw[show (k+1)*m=(l a).length+k*m by rw[hl,Nat.add_mul,Nat.one_mul,Nat.add_comm],List.take_append,List.take_of_length_le (l:=l a) (Nat.le_add_right _ _),Nat.add_sub_cancel_left]
  have t2:∀R,(l a++R).drop ((k+1+1)*m)=R.drop ((k+1)*m):=fun R=>by
   rw[show (k+1+1)*m=(l a).length+(k+1)*m by rw[hl,Nat.add_mul (k+1),Nat.one_mul,Nat.add_comm],List.drop_append]
   have h0:(l a).drop ((l a).length+(k+1)*m)=[]:=List.drop_eq_nil_of_le (Nat.le_add_right _ _)
   rw[h0,Nat.add_sub_cancel_left,List.nil_append]
  rw[List.eraseIdx_cons_succ,List.flatMap_cons,Ra hl r k,List.flatMap_cons,t1,t2,List.append_assoc]
theorem Ge {α:Type}(u v:Option α):∀(n:Nat) (t:Tr α) (i:Nat),Tr.set v n (Tr.set u n t i) i=Tr.set v n t i
 |0,t,i=>rfl
 |n+1,.nil,i=>by
  cases h1:Nat.beq i 0 with
  |true=>simp[Tr.set,h1]
  |false=>
   cases h2:Nat.beq (i % 2) 1 with
   |true=>simp[Tr.set,h1,h2,Ge u v n]
   |false=>simp[Tr.set,h1,h2,Ge u v n]
 |n+1,.node l x r,i=>by
  cases h1:Nat.beq i 0 with
  |true=>simp[Tr.set,h1]
  |false=>
   cases h2:Nat.beq (i % 2) 1 with
   |true=>simp[Tr.set,h1,h2,Ge u v n]
   |false=>simp[Tr.set,h1,h2,Ge u v n]
theorem ZM (h:ah)(o:Nat)(x y:Option a7):(h.put o x).put o y=h.put o y:=by
 unfold ah.put
 simp only[Ge]
section
variable {lo:Nat} {h:ah}
variable [bG] in
theorem mG.delete {o n k kk s:Nat}{F:List Value}(hg:h.get o=some (.cells s F))(hl:lo≤o)(hF:F.length=n*5)(h1:∀u∈F,kK u=true∧u.oneCell'=true)(hk:k<n)(mj:kk<dI) :
  mG prog lo 111 [.slice (some ⟨o,0,none⟩) n kk,.int .i64 k,.int .i64 ((k:Int)+1)] h fun r h'=>r=.slice (some ⟨o,0,none⟩) (n - 1) kk∧h'=h.put o (some (.cells s (F.take (k*5)++F.drop ((k+1)*5)++List.replicate 5 (.int .i64 0)))):=by
 refine .H5 fun U w a6 ha r=>?_
 obtain⟨v1,r1,gZ,iP,oU⟩:=ha.dw
 obtain⟨v2,r2,fV,eT,jb⟩:=oU.dw
 obtain⟨v3,r3,im,AG,Cr⟩:=jb.dw
 have:=Cr.iW;subst this
 cases eT;cases AG
 subst im;subst fV
 have gJ:a6=#[v1,.int .i64 k,.int .i64 ((k:Int)+1)]:=Array.ext' (by simpa using gZ)
 subst gJ
 cases iP with
 |slice _ _ _ _ b a C hm zO jw=>
  have o7:=mZ r hg hm
  have kH:∀t u,F[t]?=some u→w.cell? ⟨b,a+0+t,none⟩=some u:=fun t u hu=>by
   obtain⟨v',e1,e2⟩:=o7.2.1 t u hu
   rw[EM (h1 u (List.mem_of_getElem? hu)).1 e2] at e1
   rw[Nat.add_zero];exact e1
  refine(ZK b (a+0) (gj C kk) k n F w hF (fun u hu=>(h1 u hu).2) kH (fun t=>r.eI o _ b a C hl hg hm t) zO hk).mono fun e w' ⟨e1,e2⟩=>?_
  have self:∀l:List Value,(∀u∈l,u∈F∨u=.int .i64 0)→br U l l:=fun l hl=>⟨rfl,fun i v hv=>⟨v,hv,by
   rcases hl v (List.mem_of_getElem? hv) with hm|rfl
   ·exact .yb (h1 v hm).1
   exact .int _ _⟩⟩
  have nO:k*5+5+(n - (k+1))*5=n*5:=by omega
  obtain⟨r2,f2⟩:=C4 r.drew hg hl hm (k*5) (F.drop ((k+1)*5)) (F.drop ((k+1)*5)) (self _ fun u hu=>.inl (List.mem_of_mem_drop hu)) (by rw[List.length_drop];omega)
  have uc:(h.put o (some (.cells s (fq F (k*5) (F.drop ((k+1)*5)))))).get o=some (.cells s (fq F (k*5) (F.drop ((k+1)*5)))):=by rw[ah.dH _ _ _ _ (ah.fJ hg),if_pos rfl]
  have fL:(fq F (k*5) (F.drop ((k+1)*5))).length=n*5:=by rw[Jy _ _ _ (by rw[List.length_drop];omega),hF]
  obtain⟨r3,f3⟩:=C4 r2 uc hl hm ((n - 1)*5) (List.replicate 5 (.int .i64 0)) (List.replicate 5 (.int .i64 0)) (self _ fun u hu=>.inr (List.eq_of_mem_replicate hu)) (by rw[fL,List.length_replicate];omega)
  rw[ZL F n k 5 hF hk _ (by rw[List.length_replicate])] at r3 f3
  rw[ZM] at r3 f3
  have ew:w'=(w.drew.setCells b (a+k*5) (F.drop ((k+1)*5))).setCells b (a+(n - 1)*5) (List.replicate 5 (.int .i64 0)):=by rw[e2,Nat.add_zero,show k+(n - (k+1))=n - 1 by omega]
  rw[← ew] at r3 f3
  refine⟨.slice (some ⟨o,0,none⟩) (n - 1) kk,.slice (some ⟨b,a+0,none⟩) (n - 1) (gj C kk),_,U,by rw[e1,show k+(n - (k+1))=n - 1 by omega],.slice _ _ _ _ _ _ _ hm (by omega) jw,r3,(Frame.drew lo U h w).trans (f2.trans f3),rfl,rfl⟩
 |bS=>exact absurd mj (Nat.lt_irrefl _)
 |cg=>omega
end
variable [bG] in
theorem L6 {vh:ai}{i n k:Nat}{nl:Bool}{zs:List aq}(hg:vh.get i=some (.grow 5 (zs.map encS)))(hn:zs.length=n)(hk:k<n) :
  du prog 111 [.grow i n nl,.int .i64 k,.int .i64 ((k:Int)+1)] vh fun r ak=>r=.sub i 0 (n - 1)∧ak=vh.put i (.arr true 5 (((zs.eraseIdx k).flatMap lS++[0,0,0,0,0]).map (PV.int .i64))):=fun lo ga σ h aB ha s=>by
 subst hn
 obtain⟨v1,r1,rfl,hv,hr⟩:=ha.dw
 obtain⟨v2,r2,rfl,eT,jb⟩:=hr.dw
 obtain⟨v3,r3,rfl,AG,Cr⟩:=jb.dw
 have:=Cr.iW;subst this
 have e2:v2=.int .i64 k:=by cases eT with|fr _ _ h=>cases h;rfl
 have e3:v3=.int .i64 ((k:Int)+1):=by cases AG with|fr _ _ h=>cases h;rfl
 subst e2;subst e3
 have L7:zs.map encS=zs.map fun x=>PV.agg ((lS x).map (PV.int .i64)):=rfl
 rw[L7] at hg
 obtain⟨hi,Rb,eJ,dm,kP⟩:=s.obj i _ hg
 have dp:zs≠[]:=fun e=>by subst e;simp at hk
 rcases kP with s9|⟨s0,ar,h1,h2,h3,h4⟩
 ·exact absurd (by simpa using s9) dp
 rw[L8] at h3
 have oN:=be.ints h3
 generalize hm:zs.length=m at hv
 cases hv with
 |fr _ _ h=>cases h
 |bX=>omega
 |bY=>omega
 |grow _ _ o a kk _ dJ hs hn=>
  subst hm
  have fB:(aL.grow 5 (zs.map fun x=>PV.agg ((lS x).map (PV.int .i64)))).live=true:=by
   cases zs with
   |nil=>simp at hn
   |cons=>rfl
  have bD:=s.low i _ hg fB
  rw[hs] at h1 h2 h4 bD;simp only at h1 h2 h4 bD;subst h2
  subst oN
  have za:zs.length<4611686018427387904:=by
   have h6:(zs.map fun x=>PV.agg ((lS x).map (PV.int .i64))).length<4611686018427387904:=dm
   rw[List.length_map] at h6
   exact h6
  have dL:kk+(zs.length - 1)<dI:=by
   show kk+(zs.length - 1)<9223372036854775808
   rcases h4 with⟨rfl,_⟩|rfl
   ·simp only[ay];omega
   rw[List.length_map];omega
  have gP:zs.length - 1≤kk:=by
   rcases h4 with⟨rfl,_⟩|rfl
   ·simp only[ay];omega
   rw[List.length_map];omega
  have hS:=mG.delete (h:=h) (lo:=lo) (kk:=kk) h1 bD (by rw[List.length_map,DO (fun _=>rfl) (k:=5)]) (fun u hu=>by obtain⟨x,_,rfl⟩:=List.mem_map.1 hu;exact⟨rfl,rfl⟩) hk (by omega)
  refine hS.mono fun r h' ⟨e1,e2⟩=>?_
  have lN:((zs.flatMap lS).map (Value.int .i64)).take (k*5)++((zs.flatMap lS).map (Value.int .i64)).drop ((k+1)*5)++List.replicate 5 (Value.int .i64 0)=(((zs.eraseIdx k).flatMap lS++[0,0,0,0,0]).map (Value.int .i64)):=by
   rw[Ra (l:=lS) (m:=5) (fun _=>rfl),List.map_append,List.map_append,List.map_take,List.map_drop];rfl
  rw[lN] at e2
  subst e1;subst e2
  have hw:=s.write hg fB (x':=.arr true 5 (((zs.eraseIdx k).flatMap lS++[0,0,0,0,0]).map (PV.int .i64))) (.cells s0 (((zs.eraseIdx k).flatMap lS++[0,0,0,0,0]).map (Value.int .i64)))
   ⟨by decide,s0,_,by rw[ah.dH _ _ _ _ (by rw[hs];exact ah.fJ h1),if_pos rfl],by rw[hs],be.L9 _⟩
  rw[hs] at hw
  refine⟨ga,σ,.sub i 0 (zs.length - 1),_,?_,hw.1,Fz.le_refl ga,fun _ _=>rfl,hw.2,Nat.le_refl _,dQ.refl _ _ _ _,rfl,rfl⟩
  have:=VR.sub (g:=ga) (σ:=σ) (n:=vh.next) i 0 (zs.length - 1) kk o 0 _ dJ hs gP dL
  rw[Nat.zero_add] at this
  exact this
open Go Go.Am Go.Proofs Tryz
attribute [local simp] fZ jh tW eo jM pg ai.back dE ji nr bm Nat.testBit_eq_decide_div_mod_eq cN jL o9 vO sy kh sA jY dh qq qo ss ki su rp oz tU rm sv sg sd sh se sf sj sn pO gz lq fY sB qt rq sC sD pN tR tS kg pa iz gO iA nc jF qZ qe qf kL rY bp rl gN bZ cm nR ai.get ai.alloc ai.put ai.drop ai.empty bs dN jz kx gA cG chunk List.range List.range.loop ns tX oA bK cA PV.aH PV.aJ PV.dU PV.gM kQ kj ru PV.one PV.ids PV.di ia beq_eq vc xq
attribute [local simp] cQ bQ km tZ y1 ue uf sU jk gr
attribute [local simp ↓ high] xu vi
section
variable [bG]
theorem ZN:aN prog 146 [.vec []] fun r=>r=.vec []∨r=.aG:=by
 refine .bP func146 rfl rfl ?_
 refine .sr ?_
 refine .seq (.seq (.au [0,1] rfl af (.rn [0] _ ?_)))
 refine .step rfl rfl (.Gf ⟨_,rfl⟩ ZO rfl rfl (by decide) fun q=>?_)
 refine .done ?_
 cases q with
 |true=>
  refine .ep rfl (.sr ?_)
  refine .ret ?_
  exact⟨_,.aG,gp,(by simp),.inr rfl⟩
 |false=>
  refine .gn rfl (.skip (.sr ?_))
  refine .ret ?_
  first|exact⟨_,.vec [],gp,(by simp),.inl rfl⟩|exact⟨_,.aG,gp,(by simp),.inr rfl⟩
theorem ZP:aN prog 146 [.vec []] fun r=>r=.vec []:=
 ZN.alt fun r h=>by
  rcases h with rfl|rfl
  ·exact⟨.vec [],.same _ rfl,rfl,rfl⟩
  exact⟨.vec [],.dV,rfl,rfl⟩
theorem ZQ:aN prog 147 [.vec []] fun r=>r=.vec []∨r=.aG:=by
 refine .bP func147 rfl rfl ?_
 refine .sr ?_
 refine .seq (.seq (.au [0,1] rfl af (.rn [0] _ ?_)))
 refine .step rfl rfl (.Gf ⟨_,rfl⟩ ZR rfl rfl (by decide) fun q=>?_)
 refine .done ?_
 cases q with
 |true=>
  refine .ep rfl (.sr ?_)
  refine .ret ?_
  exact⟨_,.aG,gp,(by simp),.inr rfl⟩
 |false=>
  refine .gn rfl (.skip (.sr ?_))
  refine .ret ?_
  first|exact⟨_,.vec [],gp,(by simp),.inl rfl⟩|exact⟨_,.aG,gp,(by simp),.inr rfl⟩
theorem ZS:aN prog 147 [.vec []] fun r=>r=.vec []:=
 ZQ.alt fun r h=>by
  rcases h with rfl|rfl
  ·exact⟨.vec [],.same _ rfl,rfl,rfl⟩
  exact⟨.vec [],.dV,rfl,rfl⟩
theorem ZT (l:List Int)(hl:l.length<4294967296)(h0:0<l.length):aN prog 146 [ints l] fun r=>r=ints l:=by
 obtain⟨a,r,rfl⟩:∃a r,l=a::r:=by cases l with|nil=>simp at h0|cons a r=>exact⟨a,r,rfl⟩
 have BD:r.length+1≤4294967296:=by simp at hl;omega
 have h1:ky 1 (PV.int .i64 a::r.map (PV.int .i64))=true:=xr (f:=PV.int .i64) (n:=1) (fun _=>rfl) (a::r)
 have h2:kz (PV.int .i64 a::r.map (PV.int .i64))=true:=xt (f:=PV.int .i64) (fun _=>rfl) (a::r)
 refine .bP func146 rfl rfl ?_
 refine .sr ?_
 refine .seq (.sr ?_)
 refine .cs ?_ ?_<;>intro c4
 ·try simp at c4
 try simp at c4
 refine .skip (.sr ?_)
 refine .ret (aA ?_)
 exact zk
theorem ZU (l:List mo)(hl:l.length<4294967296)(h0:0<l.length):du prog 147 [.vec (l.map cn)] ai.empty fun v ak=>∃i nl,v=.grow i l.length nl∧ak.get i=some (.grow 2 (l.map cn)):=by
 obtain⟨a,r,rfl⟩:∃a r,l=a::r:=by cases l with|nil=>simp at h0|cons a r=>exact⟨a,r,rfl⟩
 have BD:r.length+1≤4294967296:=by simp at hl;omega
 have h1:ky 2 (cn a::r.map cn)=true:=xr (f:=cn) (n:=2) (fun _=>rfl) (a::r)
 have h2:kz (cn a::r.map cn)=true:=xt (f:=cn) (fun _=>rfl) (a::r)
 refine .bP func147 rfl rfl ?_
 refine .sr ?_
 refine .seq (.sr ?_)
 refine .cs ?_ ?_<;>intro c4
 ·try simp at c4
 try simp at c4
 refine .skip (.sr ?_)
 refine .ret ?_
 exact⟨_,gp,_,_,rfl,by simp⟩
theorem ZV (l:List aq)(hl:l.length<4294967296)(h0:0<l.length):du prog 112 [.vec (l.map encS)] ai.empty fun v ak=>∃i nl,v=.grow i l.length nl∧ak.get i=some (.grow 5 (l.map encS)):=by
 obtain⟨a,r,rfl⟩:∃a r,l=a::r:=by cases l with|nil=>simp at h0|cons a r=>exact⟨a,r,rfl⟩
 have BD:r.length+1≤4294967296:=by simp at hl;omega
 have h1:ky 5 (encS a::r.map encS)=true:=xr (f:=encS) (n:=5) (fun _=>rfl) (a::r)
 have h2:kz (encS a::r.map encS)=true:=xt (f:=encS) (fun _=>rfl) (a::r)
 refine .bP func112 rfl rfl ?_
 refine .sr ?_
 refine .seq (.sr ?_)
 refine .cs ?_ ?_<;>intro c4
 ·try simp at c4
 try simp at c4
 refine .skip (.sr ?_)
 refine .ret ?_
 exact⟨_,gp,_,_,rfl,by simp⟩
theorem tc (l:List Int)(hl:l.length<4294967296):aN prog 146 [ints l] fun r=>r=ints l:=by
 cases l with
 |nil=>exact ZP
 |cons a r=>exact ZT (a::r) hl (by simp)
end
theorem Ma (l:List jO):kY 3 (l.map bu):=.map (g:=fun m=>[.int .i64 m.f,.int .i64 m.t,.int .i64 m.c]) (fun _=>rfl) (fun _=>rfl) l
theorem Mb (l:List mo):kY 2 (l.map cn):=.map (g:=fun g=>[.int .i64 g.at_,ints g.ws]) (fun _=>rfl) (fun _=>rfl) l
theorem ZW (l:List jO):kz (l.map bu)=true:=xt (f:=bu) (fun _=>rfl) l
theorem Mc (l:List jO):ky 3 (l.map bu)=true:=xr (f:=bu) (n:=3) (fun _=>rfl) l
def l3 (l:List mo):List PV:=(l.map cn).flatMap PV.cells
@[simp] theorem xax (l:List mo):(l3 l).length=l.length*2:=by unfold l3;rw[(Mb l).len,List.length_map]
theorem Rc:∀(l:List mo) (k:Nat) {y:mo},l[k]?=some y→∃A B,l3 l=A++.int .i64 y.at_::ints y.ws::B∧A.length=k*2
 |[],k,y,h=>by simp at h
 |a::r,0,y,h=>by
  simp only[List.getElem?_cons_zero,az] at h
  subst h
  exact⟨[],l3 r,rfl,rfl⟩
 |a::r,k+1,y,h=>by
  obtain⟨A,B,h1,h2⟩:=Rc r k (y:=y) (by simpa using h)
  refine⟨.int .i64 a.at_::ints a.ws::A,B,?_,by simp[h2];omega⟩
  show .int .i64 a.at_::ints a.ws::l3 r=_
  rw[h1];rfl
theorem Re {l:List mo}(h:0<l.length){vh:ai}{n2:Nat}{D:Nat→Bool}{ρ:Nat→Nat}:kZ vh n2 D ρ (.grow 2 (l.map cn)) (.arr true 2 (l3 l)):=by
 cases l with
 |nil=>simp at h
 |cons a r=>exact⟨rfl,⟨_,_,rfl⟩,rfl⟩
theorem Rf {l:List mo}{k:Nat}{y:mo}(h:l[k]?=some y):(l3 l)[k*2+1]?=some (ints y.ws):=by
 obtain⟨A,B,h1,h2⟩:=Rc l k h
 rw[h1,← h2,List.getElem?_append_right (by omega)]
 simp
theorem ZX {l:List mo}{k:Nat}{y:mo}(h:l[k]?=some y):(l3 l).take (k*2+1)++ints y.ws::(l3 l).drop (k*2+1+1)=l3 l:=by
 have hg:=Rf h
 obtain⟨hl,he⟩:=List.getElem?_eq_some_iff.1 hg
 rw[← he,← List.drop_eq_getElem_cons hl,List.take_append_drop]
variable [bG] in
theorem Md (c:ao)(hk:bf c=0):aN prog 101 [aD c] fun r=>r=aD c:=by
 have bj:=iC hk
 have oB:=bj.tl
 have eJ:=bj.cl
 have iq:=bj.K3
 have hg6:=bj.sH
 have hC:cw c=(cQ c):=rfl
 unfold aD
 rw[hC]
 have cq:(c.mx.length:Int)≤4294967296:=by omega
 have hvc:=fun (vh:ai) (hg:vh.get 2=some (.arr true 3 (cG [.int .i64 0,.int .i64 0,.int .i64 0] c.mx.length)))=>ZY (P:=prog) (t:=22) (k:=c.mx.length) (z:=[.int .i64 0,.int .i64 0,.int .i64 0]) rfl (by decide) (Ma c.mx) (Mc c.mx) (ZW c.mx) rfl (by simp) hg
 have ZZ:=fun l hl=>tc l hl
 refine .bP func101 rfl rfl ?_
 rcases Nat.eq_zero_or_pos c.g.length with pS|vP
 ·
  have xL:c.g=[]:=List.eq_nil_of_length_eq_zero pS
  unfold cQ
  rw[xL]
  refine .seq ?_
  refine .run af (by simp[*,-dh,-cG]<;>first|exact⟨rfl,rfl⟩|exact rfl) ?_
  refine .seq ?_
  refine .run af (by simp[*,-dh,-cG]<;>first|exact⟨rfl,rfl⟩|exact rfl) ?_
  refine .seq ?_
  refine .run af (by simp[*,-dh,-cG]<;>first|exact⟨rfl,rfl⟩|exact rfl) ?_
  refine .seq ?_
  refine .run af (by simp[*,-dh,-cG]<;>first|exact⟨rfl,rfl⟩|exact rfl) ?_
  refine .seq ?_
  refine .rec (ax:=[(1,.ptr 0 0),(2,.ptr 1 0)]) (aP:=⟨2,[(1,.box [.int .i64 0,.int .i64 0,.int .i64 0,.int .i64 0,.int .i64 0,.aG,.aG,.aG,.aG]),(0,.box (cQ c))]⟩) (.mk [2] [] Gg Gh rfl rfl rfl) ?_
  refine .drawn (ms:=[0,1,3,0,8,31,0,64,255,223,1023,2047,4095,8191,16383]) (W:=[2,5,8,10,12,14]) (items:=Rg) rfl af af af ?_
  refine .rd rfl rfl (by decide) rfl (by decide) (by simp[*,-dh,-cG]<;>first|exact⟨rfl,rfl⟩|exact rfl) ?_
  refine .rd rfl rfl (by decide) rfl (by decide) (by simp[*,-dh,-cG]<;>first|exact⟨rfl,rfl⟩|exact rfl) ?_
  refine .rd rfl rfl (by decide) rfl (by decide) (by simp[*,-dh,-cG]<;>first|exact⟨rfl,rfl⟩|exact rfl) ?_
  refine .rd rfl rfl (by decide) rfl (by decide) (by simp[*,-dh,-cG]<;>first|exact⟨rfl,rfl⟩|exact rfl) ?_
  refine .rd rfl rfl (by decide) rfl (by decide) (by simp[*,-dh,-cG]<;>first|exact⟨rfl,rfl⟩|exact rfl) ?_
  refine .rd rfl rfl (by decide) rfl (by decide) (by simp[*,-dh,-cG]<;>first|exact⟨rfl,rfl⟩|exact rfl) ?_
  refine .wp rfl rfl rfl rfl rfl call146 (tc c.t (by omega)) ?_
  refine .ck rfl eQ ?_
  refine .ck rfl eQ ?_
  refine .rd rfl rfl (by decide) rfl (by decide) (by simp[*,-dh,-cG]<;>first|exact⟨rfl,rfl⟩|exact rfl) ?_
  refine .wp rfl rfl rfl rfl rfl call146 (tc c.c (by omega)) ?_
  refine .ck rfl eQ ?_
  refine .wp rfl rfl rfl rfl rfl call147 (ZS) ?_
  refine .wr rfl rfl (by decide) (.eo (by simp[*,-dh,-cG]<;>first|exact⟨rfl,rfl⟩|exact rfl) (by decide) ?_)
  refine .rd rfl rfl (by decide) rfl (by decide) (by simp[*,-dh,-cG]<;>first|exact⟨rfl,rfl⟩|exact rfl) ?_
  refine .wr rfl rfl (by decide) (.eo (by simp[*,-dh,-cG]<;>first|exact⟨rfl,rfl⟩|exact rfl) (by decide) ?_)
  refine .rd rfl rfl (by decide) rfl (by decide) (by simp[*,-dh,-cG]<;>first|exact⟨rfl,rfl⟩|exact rfl) ?_
  refine .wr rfl rfl (by decide) (.eo (by simp[*,-dh,-cG]<;>first|exact⟨rfl,rfl⟩|exact rfl) (by decide) ?_)
  refine .done (.seq (.seq ?_))
  refine .run af (by simp[*,-dh,-cG]<;>first|exact⟨rfl,rfl⟩|exact rfl) ?_
  refine .block ?_
  refine .ec (fun k:Nat=>([(1,.ptr 0 0),(2,.ptr 1 0),(32,.int .i64 0),(33,.int .i64 k)],⟨2,[(1,.box [.int .i64 0,.int .i64 0,.int .i64 0,.int .i64 0,.int .i64 0,.aG,.aG,.aG,.aG]),(0,.box [.int .i64 c.om,.int .i64 c.le,.int .i64 c.tw,.int .i64 c.gl,.int .i64 c.ad,.vec (c.mx.map bu),ints c.t,.vec [],ints c.c])]⟩)) (fun k=>k=0) (fun k=>0) 0 rfl bT ?_
  rintro k ja
  simp only at ja ⊢
  refine .seq ?_
  refine .run af (by simp[*,-dh,-cG]<;>first|exact⟨rfl,rfl⟩|exact rfl) ?_
  refine .seq ?_
  refine .cs ?_ ?_<;>intro pr
  ·try simp at pr
  try simp at pr
  refine .exit (.seq ?_)
  refine .run af (by simp[*,-dh,-cG]<;>first|exact⟨rfl,rfl⟩|exact rfl) ?_
  refine .ret (aA ?_)
  exact zk
 ·
  refine .seq ?_
  refine .run af (by simp[*,-dh,-cG]<;>first|exact⟨rfl,rfl⟩|exact rfl) ?_
  refine .seq ?_
  refine .run af (by simp[*,-dh,-cG]<;>first|exact⟨rfl,rfl⟩|exact rfl) ?_
  refine .seq ?_
  refine .run af (by simp[*,-dh,-cG]<;>first|exact⟨rfl,rfl⟩|exact rfl) ?_
  refine .seq ?_
  refine .run af (by simp[*,-dh,-cG]<;>first|exact⟨rfl,rfl⟩|exact rfl) ?_
  refine .seq ?_
  refine .rec (ax:=[(1,.ptr 0 0),(2,.ptr 1 0)]) (aP:=⟨2,[(1,.box [.int .i64 0,.int .i64 0,.int .i64 0,.int .i64 0,.int .i64 0,.aG,.aG,.aG,.aG]),(0,.box (cQ c))]⟩) (.mk [2] [] Gg Gh rfl rfl rfl) ?_
  refine .drawn (ms:=[0,1,3,0,8,31,0,64,255,223,1023,2047,4095,8191,16383]) (W:=[2,5,8,10,12,14]) (items:=Rg) rfl af af af ?_
  refine .rd rfl rfl (by decide) rfl (by decide) (by simp[*,-dh,-cG]<;>first|exact⟨rfl,rfl⟩|exact rfl) ?_
  refine .rd rfl rfl (by decide) rfl (by decide) (by simp[*,-dh,-cG]<;>first|exact⟨rfl,rfl⟩|exact rfl) ?_
  refine .rd rfl rfl (by decide) rfl (by decide) (by simp[*,-dh,-cG]<;>first|exact⟨rfl,rfl⟩|exact rfl) ?_
  refine .rd rfl rfl (by decide) rfl (by decide) (by simp[*,-dh,-cG]<;>first|exact⟨rfl,rfl⟩|exact rfl) ?_
  refine .rd rfl rfl (by decide) rfl (by decide) (by simp[*,-dh,-cG]<;>first|exact⟨rfl,rfl⟩|exact rfl) ?_
  refine .rd rfl rfl (by decide) rfl (by decide) (by simp[*,-dh,-cG]<;>first|exact⟨rfl,rfl⟩|exact rfl) ?_
  refine .wp rfl rfl rfl rfl rfl call146 (tc c.t (by omega)) ?_
  refine .ck rfl eQ ?_
  refine .ck rfl eQ ?_
  refine .rd rfl rfl (by decide) rfl (by decide) (by simp[*,-dh,-cG]<;>first|exact⟨rfl,rfl⟩|exact rfl) ?_
  refine .wp rfl rfl rfl rfl rfl call146 (tc c.c (by omega)) ?_
  refine .ck rfl eQ ?_
  refine .wr rfl rfl (by decide) (.call rfl rfl rfl call147 (by decide) (((du.vQ (by simp) (ZU c.g (by omega) vP) rfl vP)).mono ?_))
  rintro _ _ ⟨rfl,rfl⟩
  refine .wr rfl rfl (by decide) (.eo (by simp[*,-dh,-cG]<;>first|exact⟨rfl,rfl⟩|exact rfl) (by decide) ?_)
  refine .rd rfl rfl (by decide) rfl (by decide) (by simp[*,-dh,-cG]<;>first|exact⟨rfl,rfl⟩|exact rfl) ?_
  refine .wr rfl rfl (by decide) (.eo (by simp[*,-dh,-cG]<;>first|exact⟨rfl,rfl⟩|exact rfl) (by decide) ?_)
  refine .rd rfl rfl (by decide) rfl (by decide) (by simp[*,-dh,-cG]<;>first|exact⟨rfl,rfl⟩|exact rfl) ?_
  refine .wr rfl rfl (by decide) (.eo (by simp[*,-dh,-cG]<;>first|exact⟨rfl,rfl⟩|exact rfl) (by decide) ?_)
  refine .done (.seq (.seq ?_))
  refine .run af (by simp[*,-dh,-cG]<;>first|exact⟨rfl,rfl⟩|exact rfl) ?_
  refine .block ?_
  refine .ec (fun k:Nat=>([(1,.ptr 0 0),(2,.ptr 1 0),(32,.int .i64 c.g.length),(33,.int .i64 k)],⟨3,[(2,.arr true 2 (l3 c.g)),(1,.box [.int .i64 0,.int .i64 0,.int .i64 0,.int .i64 0,.int .i64 0,.aG,.aG,.aG,.aG]),(0,.box [.int .i64 c.om,.int .i64 c.le,.int .i64 c.tw,.int .i64 c.gl,.int .i64 c.ad,.vec (c.mx.map bu),ints c.t,.sub 2 0 c.g.length,ints c.c])]⟩)) (fun k=>k≤c.g.length) (fun k=>c.g.length - k) 0 (by simp) (.mk [] [] (by repeat' (first|exact trivial|exact trivial|exact Alt.vR 2 2 _ _ 2 _ (aU rfl) rfl rfl (by simp) vP|exact Re vP|refine And.intro (Exists.intro _ (And.intro rfl ?_)) ?_|(refine Alt.same _ ?_;first|rfl|(simp[*];done))|exact Alt.ba _ _ (aU rfl) rfl|exact Alt.grow _ _ _ _ (aU rfl) rfl|(refine Alt.xM _ _ _ _ _ ?_ (aU rfl) rfl;simp[*];done)|exact Alt.ptr _ _ _ (aU rfl) rfl|exact Alt.own _ _ _ _ _ (aU rfl) rfl|exact Alt.sub _ _ _ _ (aU rfl) rfl|exact Alt.bw _ _ (aU rfl) rfl|exact Alt.aG _ _|(refine Alt.mQ _ _ _ ?_;simp[*];done)|exact Alt.e0 _|exact Alt.dA aF.nil (aF.cons (Alt.ptr _ _ _ (aU rfl) rfl) aF.nil)|exact Alt.dV|exact Alt.lZ _ _ _|(refine Alt.bR _ _ _ _ _ rfl rfl ?_;simp[*];done)|exact Alt.gU _ _ _ _ _ _ _ _ rfl rfl rfl|exact Alt.dD _ _ rfl rfl|(refine Alt.xN ?_;simp[*]<;>rfl)|(refine Alt.ofEq rfl ?_;simp[*];done))) (by repeat' (first|exact trivial|exact trivial|exact Alt.vR 2 2 _ _ 2 _ (aU rfl) rfl rfl (by simp) vP|exact Re vP|refine And.intro (And.intro (aU rfl) (Or.inr (And.intro rfl (Exists.intro _ (And.intro rfl ?_))))) ?_|refine And.intro (And.intro (aU rfl) (Or.inl (Exists.intro _ (And.intro rfl (aU rfl))))) ?_|refine And.intro (And.intro (aU rfl) (Or.inl (Exists.intro _ (And.intro (congrArg (aL.grow _) (by simp[*])) (aU rfl))))) ?_|rfl|exact aF.nil|(refine congrArg (aL.grow _) ?_;simp[*];done)|(refine congrArg aL.map ?_;simp[*];done)|(refine congrArg (aL.arr _ _) ?_;simp[*];done)|refine pX.mk rfl rfl rfl rfl rfl ?_|refine And.intro (Exists.intro _ (And.intro rfl ?_)) ?_|refine aF.cons ?_ ?_|(refine Alt.same _ ?_;first|rfl|(simp[*];done))|exact Alt.ba _ _ (aU rfl) rfl|exact Alt.grow _ _ _ _ (aU rfl) rfl|(refine Alt.xM _ _ _ _ _ ?_ (aU rfl) rfl;simp[*];done)|exact Alt.ptr _ _ _ (aU rfl) rfl|exact Alt.own _ _ _ _ _ (aU rfl) rfl|exact Alt.sub _ _ _ _ (aU rfl) rfl|exact Alt.bw _ _ (aU rfl) rfl|exact Alt.aG _ _|(refine Alt.mQ _ _ _ ?_;simp[*];done)|exact Alt.e0 _|exact Alt.dA aF.nil (aF.cons (Alt.ptr _ _ _ (aU rfl) rfl) aF.nil)|exact Alt.dV|exact Alt.lZ _ _ _|(refine Alt.bR _ _ _ _ _ rfl rfl ?_;simp[*];done)|exact Alt.gU _ _ _ _ _ _ _ _ rfl rfl rfl|exact Alt.dD _ _ rfl rfl|(refine Alt.xN ?_;simp[*]<;>rfl)|(refine Alt.ofEq rfl ?_;simp[*];done))) rfl rfl rfl) ?_
  rintro k ja
  simp only at ja ⊢
  refine .seq ?_
  refine .run af (by simp[*,-dh,-cG]<;>first|exact⟨rfl,rfl⟩|exact rfl) ?_
  refine .seq ?_
  refine .cs ?_ ?_<;>intro pr
  ·try simp at pr
   have rC:k<c.g.length:=pr
   obtain⟨y,hy⟩:∃y,c.g[k]?=some y:=⟨c.g[k],List.getElem?_eq_getElem rC⟩
   have Z1:y∈c.g:=List.mem_of_getElem? hy
   have qc:=(bj.Ij y Z1).2.2.1
   have fX:=Rf hy
   have pw:=ZX hy
   have mm:k*2+1+1≤c.g.length*2:=by omega
   have eO:=gD k
   refine .skip (.seq (.block (.seq ?_)))
   refine .run af (by simp[*,-dh,-cG]<;>first|exact⟨rfl,rfl⟩|exact rfl) ?_
   refine .drawn (ms:=[0,1,0,0,8,0,56,120,248,504,1023,2047,4095]) (W:=[9,12]) (items:=[.op 0,.op 1,.op 2,.op 3,.op 4,.op 5,.op 6,.op 7,.op 8,.op 9,.ck 1,.op 10,.op 11,.op 12]) rfl af af af ?_
   refine .rd rfl rfl (by decide) rfl (by decide) (by simp[*,-dh,-cG]<;>first|exact⟨rfl,rfl⟩|exact rfl) ?_
   refine .rd rfl rfl (by decide) rfl (by decide) (by simp[*,-dh,-cG]<;>first|exact⟨rfl,rfl⟩|exact rfl) ?_
   refine .rd rfl rfl (by decide) rfl (by decide) (by simp[*,-dh,-cG]<;>first|exact⟨rfl,rfl⟩|exact rfl) ?_
   refine .rd rfl rfl (by decide) rfl (by decide) (by simp[*,-dh,-cG]<;>first|exact⟨rfl,rfl⟩|exact rfl) ?_
   refine .rd rfl rfl (by decide) rfl (by decide) (by simp[*,-dh,-cG]<;>first|exact⟨rfl,rfl⟩|exact rfl) ?_
   refine .rd rfl rfl (by decide) rfl (by decide) (by simp[*,-dh,-cG]<;>first|exact⟨rfl,rfl⟩|exact rfl) ?_
   refine .rd rfl rfl (by decide) rfl (by decide) (by simp[*,-dh,-cG]<;>first|exact⟨rfl,rfl⟩|exact rfl) ?_
   refine .rd rfl rfl (by decide) rfl (by decide) (by simp[*,-dh,-cG]<;>first|exact⟨rfl,rfl⟩|exact rfl) ?_
   refine .rd rfl rfl (by decide) rfl (by decide) (by simp[*,-dh,-cG]<;>first|exact⟨rfl,rfl⟩|exact rfl) ?_
   refine .wp rfl rfl rfl rfl rfl call146 (tc y.ws (by omega)) ?_
   refine .ck rfl eQ ?_
   refine .rd rfl rfl (by decide) rfl (by decide) (by simp[*,-dh,-cG]<;>first|exact⟨rfl,rfl⟩|exact rfl) ?_
   refine .rd rfl rfl (by decide) rfl (by decide) (by simp[*,-dh,-cG]<;>first|exact⟨rfl,rfl⟩|exact rfl) ?_
   refine .wr rfl rfl (by decide) (.eo (by simp[*,-dh,-cG]<;>first|exact⟨rfl,rfl⟩|exact rfl) (by decide) ?_)
   refine .done ?_
   refine .run af (by simp[*,-dh,-cG]<;>first|exact⟨rfl,rfl⟩|exact rfl) ?_
   refine⟨k+1,bC,bC,bT⟩
  try simp at pr
  refine .exit (.seq ?_)
  refine .rec (ax:=[(1,.ptr 0 0),(2,.ptr 1 0)]) (aP:=⟨2,[(1,.box [.int .i64 0,.int .i64 0,.int .i64 0,.int .i64 0,.int .i64 0,.aG,.aG,.aG,.aG]),(0,.box (cQ c))]⟩) (.mk [2] [] Me Mf rfl rfl rfl) ?_
  refine .run af (by simp[*,-dh,-cG]<;>first|exact⟨rfl,rfl⟩|exact rfl) ?_
  refine .ret (aA ?_)
  exact zk
end Go.Am.Sl
end
