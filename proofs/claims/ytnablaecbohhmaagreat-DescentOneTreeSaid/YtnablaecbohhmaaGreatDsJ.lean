/-
 What is used in the proof of a statement (part DsJ); no condition.
-/
import Derived.Test.YtnablaecbohhmaaGreatDsZ
import Derived.Test.YtnablaecbohhmaaGreatVm2
import Derived.Test.YtnablaecbohhmaaGreatDsT
import Derived.Test.YtnablaecbohhmaaGreatDsH
import Derived.Test.YtnablaecbohhmaaGreatDsI
import Derived.Test.YtnablaecbohhmaaGreatDsA
import Derived.Test.YtnablaecbohhmaaGreatDsB
import Derived.Test.YtnablaecbohhmaaGreatDsF
import Derived.Test.YtnablaecbohhmaaGreatDsG
set_option linter.all false
set_option maxHeartbeats 40000000
set_option maxRecDepth 100000
section
namespace Go.Am.Ds
open Go Go.Am Go.Proofs
attribute [local simp] vrun zaz zbg vop vopA zb2 zab.back hidI hidF zdh bm Nat.testBit_eq_decide_div_mod_eq za6 zbo zb4 vO zbc vlen zbs zbz zd2 zaq zak zcj vbox zbe zdu zby zge zdt zcm zau zcn zav zcl zbf zci zbr zbl vbnd zcz vidx zbp zdk zar zbt zct zdj zd9 zd6 vbin vsc vsc1 vscs vscl zbv aint zb3 zdl za8 zcx zd0 pvcV pvc pvcs tput tget zdd zab.get zab.alloc zab.put zab.drop zab.empty zce vput zdi zbb zca zda chunk List.range List.range.loop za0 zbu za1 frz frzL PV.isF PV.allF PV.scal PV.allS retP subT zds PV.one PV.ids PV.idsL zcc beq_eq zbw zbx
attribute [local simp] zab.only Go.Am.zrj
end Go.Am.Ds
end
section
namespace Go.Am.Ds
open Go Go.Am Go.Proofs Tryz
attribute [local simp] vrun zaz zbg vop vopA zb2 zab.back hidI hidF zdh bm Nat.testBit_eq_decide_div_mod_eq za6 zbo zb4 vO zbc vlen zbs zbz zd2 zaq zak zcj vbox zbe zdu zby zge zdt zcm zau zcn zav zcl zbf zci zbr zbl vbnd zcz vidx zbp zdk zar zbt zct zdj zd9 zd6 vbin vsc vsc1 vscs vscl zbv aint zb3 zdl za8 zcx zd0 pvcV pvc pvcs tput tget zdd zab.get zab.alloc zab.put zab.drop zab.empty zce vput zdi zbb zca zda chunk List.range List.range.loop za0 zbu za1 frz frzL PV.isF PV.allF PV.scal PV.allS retP subT zds PV.one PV.ids PV.idsL zcc beq_eq zbw zbx
def ligB (b:Br):Bool:=decide (b.slips.length≤60)&&decide (b.cops.length≤60)
def ligT (T:List Br):Bool:=T.all ligB&&decide (T.length≤60)
theorem p80 (T:List Br)(hl:T.length<4611686018427387904)(hb:∀b∈T,b.slips.length<4611686018427387904∧b.cops.length<4611686018427387904):zat prog 80 [encT T] fun r=>r=.bool (ligT T):=by
 unfold encT
 refine .zah func80 rfl rfl ?_
 refine .sr ?_
 refine .seq (.sr ?_)
 refine .block ?_
 refine .zco (fun k:Nat=>([(1,.ptr 0 0),(3,.int .i64 k)],⟨1,[(0,.box [.vec (T.map zcf)])]⟩)) (fun k=>k≤T.length∧(T.take k).all ligB=true) (fun k=>T.length - k) 0 ⟨by simp,by simp⟩ (.mk [] [] zz20 zz21 rfl rfl rfl) ?_
 rintro k ⟨hk,hr⟩
 simp only at hk hr ⊢
 refine .seq (.sr ?_)
 refine .cs ?_ ?_<;>intro c8
 ·try simp at c8
  have hw2:=wr1 k
  have hno:=zpc (p:=ligB) c8
  have hal:=zl0 (p:=ligB) c8
  have hEk:=zeg T[k]
  obtain⟨b,hbe⟩:∃b,T[k]=b:=⟨_,rfl⟩
  rw[hbe] at hno hal hEk
  have hlb:ligB b=(decide (b.slips.length≤60)&&decide (b.cops.length≤60)):=rfl
  rw[hlb] at hno hal
  have q1:=p38 b.slips
  have q2:=p38 b.cops
  obtain⟨b1,hb1⟩:∃x,decide (b.slips.length≤60)=x:=⟨_,rfl⟩
  obtain⟨b2,hb2⟩:∃x,decide (b.cops.length≤60)=x:=⟨_,rfl⟩
  rw[hb1,hb2] at hno hal
  rw[hb1] at q1
  rw[hb2] at q2
  clear hb1 hb2 hlb
  refine .skip (.seq (.block (.seq ?_)))
  refine .zac [0,1,2,3,4,5,6,7,8,9,10,11,12,13,14,15,16,17] rfl zz0 ?_
  refine .rn [0,1,2,3,4,5] _ ?_
  refine .pc rfl rfl rfl rfl rfl call38 (q1) ?_
  refine .rn [7,8] _ ?_
  refine .split (t:=19) rfl (fun c19=>?_) (fun c19=>?_)
  ·first|cases c19|(have h:=bnt c19;cases h)|(have h:=bnf c19;cases h)|try rw[c19]
   try simp at c19
   refine .rn [9,10,11,12,13,14,15,16,17] [] ?_
   refine .done (.zey rfl (.sr ?_))
   refine .ret ?_
   refine⟨_,_,zz4,zz4,?_⟩
   unfold ligT;rw[hno (by simp)];rfl
  first|cases c19|(have h:=bnt c19;cases h)|(have h:=bnf c19;cases h)|try rw[c19]
  try simp at c19
  refine .rn [9,10,11,12,13,14] _ ?_
  refine .pc rfl rfl rfl rfl rfl call38 (q2) ?_
  refine .rn [16,17] [] ?_
  refine .done ?_
  refine .cs ?_ ?_<;>intro c28
  ·try simp at c28
   refine .sr ?_
   refine .ret ?_
   refine⟨_,_,zz4,zz4,?_⟩
   unfold ligT;rw[hno (by simp[c28])];rfl
  try simp at c28
  refine .skip (.rn ?_)
  refine⟨k+1,⟨zz5,by rw[hal,hr];simp[c28]⟩,zz5,(.mk [] [] zz20 zz21 rfl rfl rfl)⟩
 try simp at c8
 obtain rfl:k=T.length:=by omega
 rw[List.take_length] at hr
 refine .exit (.sr ?_)
 refine .ret ?_
 refine⟨_,_,zz4,zz4,?_⟩
 unfold ligT;rw[hr];refine congrArg PV.bool ?_;rw[Bool.eq_iff_iff];simp;try omega
end Go.Am.Ds
end
/-
 Descent: the program's and the reference's tests of trees are the same; the tree is right; the lost ones (plain law of Trees).
-/
section
namespace Go.Am.Ds
open Go Go.Am
def wOf (s:List Wit):List (Int×List Int):=s.map fun w=>(w.id,w.slips)
theorem z9j (s:List Wit):(wOf s).map (·.1)=s.map Wit.id:=by unfold wOf;rw[List.map_map];rfl
theorem zwy (s:List Wit):(wOf s).map (·.2)=slC s:=by unfold wOf slC;rw[List.map_map];rfl
theorem zs6 (s:List Wit):(wOf s).length=s.length:=by simp[wOf]
theorem zs1 {s:List Wit}{id:Int}{l:List Int}:(id,l)∈wOf s↔∃w∈s,w.id=id∧w.slips=l:=by
 unfold wOf
 rw[List.mem_map]
 constructor
 ·rintro⟨w,hw,h⟩;cases h;exact⟨w,hw,rfl,rfl⟩
 rintro⟨w,hw,rfl,rfl⟩;exact⟨w,hw,rfl⟩
section
variable {s:List Wit} (h:zbh s=0)
include h
theorem w_ok {w:Wit}(hw:w∈s):(0<w.id∧w.id≤1099511627776)∧w.slips.Pairwise (·<·)∧∀n∈w.slips,0<n∧n≤1099511627776:=by
 have h1:=(zch h).2 w hw
 unfold witE at h1
 repeat' split at h1
 all_goals first|(exact absurd h1 (by decide))|skip
 rename_i h2 _ _ _ _ _ _ _ hr
 unfold zfd at hr
 simp only[xfr] at hr
 exact⟨by omega,zf0.1 hr.1⟩
theorem hid:((wOf s).map (·.1)).Nodup:=by rw[z9j];exact zdf h
theorem hhd (n:Int):n∈zfq s↔∃x∈wOf s,n∈x.2:=by
 rw[zet]
 constructor
 ·rintro⟨w,hw,hn⟩;exact⟨(w.id,w.slips),List.mem_map_of_mem hw,hn⟩
 rintro⟨x,hx,hn⟩
 obtain⟨w,hw,rfl⟩:=List.mem_map.1 hx
 exact⟨w,hw,hn⟩
theorem hh1:∀x∈wOf s,∀n∈x.2,n∈zfq s:=fun x hx n hn=>(hhd h n).2 ⟨x,hx,hn⟩
theorem zy6 {id:Int}{l:List Int}:stI s l id=true↔(id,l)∈wOf s:=by
 unfold stI
 rw[zs1]
 constructor
 ·intro hs
  cases hg:getW s id with
  |none=>rw[hg] at hs;cases hs
  |some c=>
   rw[hg] at hs
   have hm:=List.mem_of_find?_eq_some hg
   have hi:=List.find?_some hg
   exact⟨c,hm,by simpa using hi,by simpa using hs⟩
 rintro⟨w,hw,rfl,rfl⟩
 rw[zjt (zdf h) hw];simp
end
theorem z1c (l:List Int)(n:Int):(insU l n).length≤l.length+1:=by
 unfold insU;split
 ·omega
 simp
theorem zq3:∀(l a:List Int),(l.foldl insU a).length≤a.length+l.length
 |[],a=>by simp
 |n::r,a=>by
  rw[List.foldl_cons]
  have:=zq3 r (insU a n)
  have:=z1c a n
  rw[List.length_cons];omega
theorem zm6:∀(l a:List Int),(l.foldl insU a).length=a.length+l.length↔l.Nodup∧∀n∈l,n∉a
 |[],a=>by simp
 |n::r,a=>by
  rw[List.foldl_cons,List.nodup_cons]
  have ih:=zm6 r (insU a n)
  by_cases hn:n∈a
  ·have e:insU a n=a:=if_pos hn
   have:=zq3 r a
   rw[e,List.length_cons]
   constructor
   ·intro h;omega
   rintro⟨_,h⟩;exact absurd hn (h n List.mem_cons_self)
  have e:insU a n=a++[n]:=if_neg hn
  rw[e] at ih ⊢
  rw[List.length_append,List.length_singleton] at ih
  rw[List.length_cons,show a.length+(r.length+1)=a.length+1+r.length by omega,ih]
  constructor
  ·rintro⟨h1,h2⟩
   refine⟨⟨fun hm=>(h2 n hm) (by simp),h1⟩,fun m hm=>?_⟩
   rcases List.mem_cons.1 hm with rfl|hm
   ·exact hn
   exact fun ha=>h2 m hm (List.mem_append_left _ ha)
  rintro⟨⟨h1,h2⟩,h3⟩
  refine⟨h2,fun m hm ha=>?_⟩
  rcases List.mem_append.1 ha with ha|ha
  ·exact h3 m (List.mem_cons_of_mem _ hm) ha
  simp at ha;subst ha;exact h1 hm
theorem zva (l:List Int):(setL l).length=l.length↔l.Nodup:=by
 unfold setL
 have:=zm6 l []
 simpa using this
section
variable {s:List Wit} (h:zbh s=0)
include h
theorem zto {T:List Br}:(grT T&&(stT s T&&onB s T))=true↔z0y (wOf s) (zfq s) T:=by
 have hid:=hid h
 have hh1:=hh1 h
 constructor
 ·intro hp
  rw[xfr,xfr] at hp
  obtain⟨hg,hst,hon⟩:=hp
  have h0:=zma hg
  have hab:∀k,0<k→k<T.length→abS T k<T.length:=fun k h0 hk=>by have:=(zor hg k h0 hk).1;omega
  have habp:∀k,0<k→k<T.length→0≤(T.getD k br0).above:=fun k h0 hk=>by rw[zf2 hk,(zor hg k h0 hk).2];omega
  have hri:∀b∈T,b.slips.Pairwise (·<·)∧b.cops.Pairwise (·<·):=fun b hb=>by
   obtain⟨k,hk,rfl⟩:=List.mem_iff_getElem.1 hb
   have:=z3u hg k hk
   unfold grB at this
   simp only[xfr] at this
   exact⟨(zf0.1 this.1).1,(zf0.1 this.2.1).1⟩
  have hnd:∀b∈T,b.slips.Nodup:=fun b hb=>(hri b hb).1.imp fun h=>by omega
  unfold stT at hst
  rw[xfr,xfr,decide_eq_true_eq,decide_eq_true_eq,zva,List.all_eq_true] at hst
  unfold onB losT at hon
  rw[xfr,List.all_eq_true,List.all_eq_true] at hon
  have hbel:∀k,0<k→∀hk:k<T.length,T[k].cops=[]→2≤belN T k:=fun k hk0 hk hc=>by
   have:=hon.1 k (List.mem_range.2 hk)
   simp only[Bool.or_eq_true,Bool.not_eq_true',decide_eq_true_eq,decide_eq_false_iff_not] at this
   rw[zf2 hk,zuj hab h0 (zwo hg) habp k hk] at this
   rcases this with h1|h1|h1
   ·omega
   ·exact absurd hc h1
   omega
  refine⟨⟨List.length_pos_iff.1 h0,fun b hb=>?_,fun k b hk0 hb=>?_,fun b hb=>(hri b hb).1,fun n hn=>?_⟩,fun b hb=>(hri b hb).2,fun b hb id hi=>?_,?_,hst.2.2⟩
  ·have hb0:T[0]=b:=by rw[List.getElem?_eq_getElem h0] at hb;simpa using hb
   have hg2:=hg
   rw[zry h0,hb0] at hg2
   simp only[xfr,decide_eq_true_eq] at hg2
   exact⟨hg2.1,hg2.2.1⟩
  ·obtain⟨hk,rfl⟩:=List.getElem?_eq_some_iff.1 hb
   obtain⟨j,h1,h2,h3,h4⟩:=z1x (z3u hg k hk) hk0
   have hj:j<T.length:=by omega
   rw[zf2 hj] at h3 h4
   exact⟨j,T[j],h1,h2,List.getElem?_eq_getElem hj,h3,h4,hbel k hk0 hk⟩
  ·have h1:=zet.1 hn
   obtain⟨p,hp,hpn⟩:=List.mem_map.1 (zg0.2 h1)
   have h2:=hon.2 p hp
   rw[decide_eq_true_eq,zwr hnd h0,hpn] at h2
   omega
  ·have:=hst.1 b hb
   unfold stB at this
   rw[List.all_eq_true] at this
   exact(zy6 h).1 (this id hi)
  rw[zs6];exact hst.2.1
 intro P
 have hph:=zq9 hh1 P
 have B:=P.both
 have h0:0<T.length:=List.length_pos_iff.2 B.ne
 obtain⟨hf1,hf2⟩:=B.first T[0] (List.getElem?_eq_getElem h0)
 have hnx:∀k,0<k→∀hk:k<T.length,∃j,∃hj:j<T.length,j<k∧T[k].above=(j:Int)∧(∀n∈T[j].slips,n∈T[k].slips)∧T[j].slips.length<T[k].slips.length∧(T[k].cops=[]→2≤belN T k):=fun k hk0 hk=>by
  obtain⟨j,u,h1,h2,h3,h4,h5,h6⟩:=B.next k T[k] hk0 (List.getElem?_eq_getElem hk)
  obtain⟨hj,rfl⟩:=List.getElem?_eq_some_iff.1 h3
  exact⟨j,hj,h1,h2,h4,h5,h6⟩
 have hrs:∀b∈T,zdn b.slips 0=true:=fun b hb=>zf0.2 ⟨B.rise b hb,fun n hn=>by
  obtain⟨w,hw,hwn⟩:=zet.1 (hph b hb n hn)
  exact(w_ok h hw).2.2 n hwn⟩
 have hrc:∀b∈T,zdn b.cops 0=true:=fun b hb=>zf0.2 ⟨P.cr b hb,fun id hi=>by
  obtain⟨w,hw,rfl,_⟩:=zs1.1 (P.st b hb id hi)
  exact(w_ok h hw).1⟩
 have hg:grT T=true:=by
  rw[zry h0]
  simp only[xfr,decide_eq_true_eq]
  refine⟨hf1,hf2,z1k T 0 fun k hk=>?_⟩
  rw[Nat.zero_add]
  unfold grB
  rw[hrs _ (List.getElem_mem hk),hrc _ (List.getElem_mem hk),Bool.true_and,Bool.true_and]
  rcases Nat.eq_zero_or_pos k with rfl|hk0
  ·simp
  obtain⟨j,hj,h1,h2,h3,h4,_⟩:=hnx k hk0 hk
  have e:T.getD T[k].above.toNat ⟨0,[],[]⟩=T[j]:=by rw[h2,Int.toNat_natCast];exact zf2 hj
  rw[e,h2]
  simp only[Bool.or_eq_true,xfr,decide_eq_true_eq,List.all_eq_true]
  exact .inr ⟨by omega,by omega,h3,h4⟩
 have hab:∀k,0<k→k<T.length→abS T k<T.length:=fun k h0 hk=>by have:=(zor hg k h0 hk).1;omega
 have habp:∀k,0<k→k<T.length→0≤(T.getD k br0).above:=fun k h0 hk=>by rw[zf2 hk,(zor hg k h0 hk).2];omega
 have hnd:∀b∈T,b.slips.Nodup:=fun b hb=>(B.rise b hb).imp fun h=>by omega
 rw[xfr,xfr]
 refine⟨hg,?_,?_⟩
 ·unfold stT
  rw[xfr,xfr,decide_eq_true_eq,decide_eq_true_eq,zva,List.all_eq_true]
  refine⟨fun b hb=>?_,by have:=P.sum;rw[zs6] at this;exact this,P.nod⟩
  unfold stB
  rw[List.all_eq_true]
  exact fun id hi=>(zy6 h).2 (P.st b hb id hi)
 unfold onB losT
 rw[xfr,List.all_eq_true,List.all_eq_true]
 refine⟨fun k hk=>?_,fun p hp=>?_⟩
 ·have hk:=List.mem_range.1 hk
  simp only[Bool.or_eq_true,Bool.not_eq_true',decide_eq_true_eq,decide_eq_false_iff_not]
  rw[zf2 hk,zuj hab h0 (zwo hg) habp k hk]
  rcases Nat.eq_zero_or_pos k with rfl|hk0
  ·exact .inl rfl
  by_cases hc:T[k].cops=[]
  ·obtain⟨j,hj,_,_,_,_,h6⟩:=hnx k hk0 hk
   have:=h6 hc
   exact .inr (.inr (by omega))
  exact .inr (.inl hc)
 rw[decide_eq_true_eq,zwr hnd h0]
 have:=B.ar p.1 (zet.2 (zg0.1 (List.mem_map_of_mem hp)))
 omega
end
section
variable {s:List Wit} (h:zbh s=0)
include h
theorem xdw (hx:(crR s).isSome=false):∀a b,¬crXL ((wOf s).map (·.2)) a b:=fun a b hc=>by
 have:(crR s).isSome=true:=(zr6 h).2 ⟨a,b,?_⟩
 ·rw[hx] at this;cases this
 rw[zwy] at hc
 obtain⟨⟨c1,m1,p1⟩,⟨c2,m2,p2⟩,c3,m3,p3⟩:=hc
 obtain⟨w1,hw1,rfl⟩:=List.mem_map.1 m1
 obtain⟨w2,hw2,rfl⟩:=List.mem_map.1 m2
 obtain⟨w3,hw3,rfl⟩:=List.mem_map.1 m3
 exact⟨⟨w1,hw1,p1⟩,⟨w2,hw2,p2⟩,w3,hw3,p3⟩
theorem z8a (l:List Int):IsEx (wOf s) l (exL s l):=by
 unfold exL
 constructor
 ·have h1:=List.pairwise_mergeSort (le:=fun x y:Int=>decide (x≤y)) (by simp;omega) (by simp;omega) ((s.filter fun w=>decide (w.slips=l)).map Wit.id)
  have h2:(((s.filter fun w=>decide (w.slips=l)).map Wit.id).mergeSort fun x y=>decide (x≤y)).Nodup:=((List.mergeSort_perm _ _).nodup_iff).2 ((List.filter_sublist.map _).nodup (zdf h))
  exact((by simpa using h1:List.Pairwise (·≤·) _).and h2).imp fun⟨h1,h2⟩=>by omega
 intro id
 rw[List.mem_mergeSort,zs1,List.mem_map]
 constructor
 ·rintro⟨w,hw,rfl⟩
  rw[List.mem_filter] at hw
  exact⟨w,hw.1,rfl,by simpa using hw.2⟩
 rintro⟨w,hw,h1,h2⟩
 exact⟨w,List.mem_filter.2 ⟨hw,by simpa using h2⟩,h1⟩
theorem z1l:∀c∈slC s,c.Pairwise (·<·):=fun c hc=>by
 obtain⟨w,hw,rfl⟩:=List.mem_map.1 hc
 exact(w_ok h hw).2.1
end
end Go.Am.Ds
end
