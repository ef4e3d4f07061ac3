/-
 What is used in the proof of a statement (part SlI4); no condition.
-/
import Derived.Test.YthnmgbgmlhackaaGreatDoorSlH
import Derived.Test.YthnmgbgmlhackaaGreatDoorSlK0
import Derived.Test.YthnmgbgmlhackaaGreatDoorSlI0
import Derived.Test.YthnmgbgmlhackaaGreatDoorSlI1
import Derived.Test.YthnmgbgmlhackaaGreatDoorSlI2
set_option linter.all false
set_option maxHeartbeats 40000000
set_option maxRecDepth 100000
section
namespace Go.Am.Sl
open Go Go.Am Go.Proofs Tryz
attribute [local simp] eQ ij pV dH gk mz ai.back cS fW lg bm Nat.testBit_eq_decide_div_mod_eq cC iE mw vO ph gF pj iP cU nG nF pe gG pf n4 lZ pT n3 pg o7 o4 o8 o5 o6 o9 pa mR eZ jW eP pn nH oc po pq mQ pR pS gE my fK fy fL kV gg nS nv ny jF oR bj nZ fx bP bK lD ai.get ai.alloc ai.put ai.drop ai.empty bt cZ iw jn gA cz chunk List.range List.range.loop lh pW l9 bI b6 PV.aG PV.aF PV.dc PV.fu gY gH od PV.one PV.ids PV.cF gI beq_eq qD rE
attribute [local simp] cQ bQ fN pZ Bz ti p7 p9 pw gJ fI
attribute [local simp ↓ high] sD rJ
attribute [local simp] cQ bQ fN pZ ti p7 p9 pw gJ fI
variable [bF] in
theorem p45 (a b:List Int)(ha:a.length<4611686018427387904)(hb:b.length<4611686018427387904):aN prog 45 [ints a,ints b] fun r=>r=.bool (decide (a=b)):=by
 refine .bT func45 rfl rfl ?_
 refine .sr ?_
 refine .seq (.sr ?_)
 refine .cs ?_ ?_<;>intro hU
 ·try simp at hU
  have cY:decide (a=b)=false:=by
   rw[decide_eq_false_iff_not];intro h;rw[h] at hU;simp at hU
  refine .sr ?_
  refine .ret (au ?_)
  rw[cY]
 try simp at hU
 have hlen:b.length=a.length:=by omega
 refine .skip (.seq (.sr ?_))
 refine .block ?_
 refine .dw (fun i:Nat=>([(0,ints a),(1,ints b),(5,.int .i64 i)],ai.empty)) (fun i=>i≤a.length∧a.take i=b.take i) (fun i=>a.length - i) 0 ⟨by simp,by simp⟩ (.pure (by simp[*]) (by simp)) ?_
 rintro i ⟨hi,ht⟩
 simp only at hi ht ⊢
 refine .seq (.sr ?_)
 refine .cs ?_ ?_<;>intro iy
 ·try simp at iy
  have et:=fA i
  have qG:i<a.length:=by omega
  have zH:i<b.length:=by omega
  obtain⟨x,hx⟩:∃x,a[i]?=some x:=⟨_,List.getElem?_eq_getElem qG⟩
  obtain⟨y,hy⟩:∃y,b[i]?=some y:=⟨_,List.getElem?_eq_getElem zH⟩
  have lV:a[i]=x:=(List.getElem?_eq_some_iff.1 hx).2
  have yh:b[i]=y:=(List.getElem?_eq_some_iff.1 hy).2
  refine .skip (.seq (.block (.seq ?_)))
  refine .drawn (ms:=[0,0,3,7,0,0,48,112,255]) (W:=[]) (items:=DZ) rfl ae ae ae ?_
  iterate 9 refine .rx ?_
  refine .done ?_
  refine .cs ?_ ?_<;>intro gq
  ·try simp at gq
   have vt:¬x=y:=gq
   have cY:decide (a=b)=false:=by
    rw[decide_eq_false_iff_not];intro h
    rw[h,hy] at hx;injection hx with hx;exact vt hx.symm
   refine .sr ?_
   refine .ret (au ?_)
   rw[cY]
  try simp at gq
  have vt:x=y:=gq
  refine .skip (.rn ?_)
  refine⟨i+1,⟨bp,?_⟩,bp,.pure (by simp[*]) (by simp)⟩
  rw[List.take_succ_eq_append_getElem qG,List.take_succ_eq_append_getElem zH,ht,lV,yh,vt]
 try simp at iy
 obtain rfl:i=a.length:=by omega
 have cY:decide (a=b)=true:=by
  rw[decide_eq_true_eq]
  rw[List.take_length,← hlen,List.take_length] at ht
  exact ht
 refine .exit (.sr ?_)
 refine .ret (au ?_)
 rw[cY]
end Go.Am.Sl
end
section
namespace Go.Am.Sl
open Go Go.Am Go.Proofs Tryz
attribute [local simp] eQ ij pV dH gk mz ai.back cS fW lg bm Nat.testBit_eq_decide_div_mod_eq cC iE mw vO ph gF pj iP cU nG nF pe gG pf n4 lZ pT n3 pg o7 o4 o8 o5 o6 o9 pa mR eZ jW eP pn nH oc po pq mQ pR pS gE my fK fy fL kV gg nS nv ny jF oR bj nZ fx bP bK lD ai.get ai.alloc ai.put ai.drop ai.empty bt cZ iw jn gA cz chunk List.range List.range.loop lh pW l9 bI b6 PV.aG PV.aF PV.dc PV.fu gY gH od PV.one PV.ids PV.cF gI beq_eq qD rE
attribute [local simp] cQ bQ fN pZ ti p7 p9 pw gJ fI
attribute [local simp ↓ high] sD rJ
section
variable [bF]
theorem QJ {α:Type}(l:List α)(enc:α→PV)(p:α→Bool)(f:FuncId)(xs ys:List PV)(hl:l.length<4611686018427387904)(he:∀a,(enc a).cells=[enc a])(hx:PV.aF xs=true)(hy:PV.aF ys=true)(hF:∀a,(enc a).aG=true)(dM:∀cs w,(callFunc f cs).run prog w=.ok (.enter f cs) w)(hp:∀a∈l,aN prog f (xs++[enc a]++ys) fun r=>r=.bool (p a)):aN prog 148 [.vec (l.map enc),.func f xs ys] fun r=>r=.int .i64 (iQ p 0 l):=by
 refine .bT func148 rfl rfl ?_
 refine .sr ?_
 refine .seq (.sr ?_)
 refine .block ?_
 refine .dw (fun s:Nat=>([(0,.vec (l.map enc)),(1,.func f xs ys),(7,.int .i64 l.length),(8,.int .i64 s)],ai.empty)) (fun s=>s≤l.length∧iQ p s (l.drop s)=iQ p 0 l) (fun s=>l.length - s) 0 ⟨by simp,by simp⟩ (.pure (by simp[*]) (by simp)) ?_
 rintro i ⟨hi,hr⟩
 simp only at hi hr ⊢
 refine .sr ?_
 refine .seq ?_
 refine .cs ?_ ?_<;>intro c9
 ·try simp at c9
  have et:=fA i
  rw[N1 p l i c9] at hr
  have he:=he l[i]
  have hp:=hp l[i] (List.getElem_mem c9)
  refine .skip (.seq (.block (.sr ?_)))
  refine .seq (.ay kg rfl ae (.rn gQ _ ?_))
  refine .step rfl rfl (.pure rfl rfl rfl dM (by decide) (hp) (by first|rfl|simp[*]) ?_)
  rintro _ rfl
  refine .done ?_
  refine .cs ?_ ?_<;>intro qE
  ·try simp at qE
   refine .sr ?_
   refine .ret (au ?_)
   rw[← hr,if_pos qE]
  try simp at qE
  refine .skip (.rn ?_)
  refine⟨i+1,⟨bp,?_⟩,bp,.pure (by simp[*]) (by simp)⟩
  rw[← hr,if_neg (by simp[qE])]
 try simp at c9
 have:i=l.length:=by omega
 refine .exit (.sr ?_)
 refine .ret (au ?_)
 rw[← hr,this,List.drop_length];rfl
theorem Ji {α:Type}(l:List α)(enc:α→PV)(p:α→Bool)(f:FuncId)(xs ys:List PV)(hl:l.length<4611686018427387904)(he:∀a,(enc a).cells=[enc a])(hx:PV.aF xs=true)(hy:PV.aF ys=true)(hF:∀a,(enc a).aG=true)(dM:∀cs w,(callFunc f cs).run prog w=.ok (.enter f cs) w)(hp:∀a∈l,aN prog f (xs++[enc a]++ys) fun r=>r=.bool (p a)):aN prog 103 [.vec (l.map enc),.func f xs ys] fun r=>r=.bool (l.any p):=by
 refine .bT func103 rfl rfl ?_
 refine .sr ?_
 refine .seq (.ay gQ rfl ae (.rn [0,1] _ ?_))
 refine .pc rfl rfl rfl rfl rfl call148 (QJ l enc p f xs ys hl he hx hy hF dM hp) ?_
 refine .rn [3,4] [] ?_
 refine .done (.ret (au ?_))
 rw[← N3 _ l 0]
end
end Go.Am.Sl
end
section
namespace Go.Am.Sl
theorem Wt {c:aj}(hr:Rt c):∀(l:List aq) (out:List Int) (i:Nat) (sum:Int) {o:List Int} {m:Int},lL c l out i sum=some (o,m)→sum+l.length≤m
 |[],out,i,sum,o,m,h=>by
  unfold lL at h;injection h with h;injection h with h1 h2;simp;omega
 |s::r,out,i,sum,o,m,h=>by
  unfold lL at h
  split at h
  ·split at h
   ·rename_i n i' w hd
    split at h
    ·have h1:=Wt hr r _ _ _ h
     have h2:=(kN hr hd)
     rw[List.length_cons]
     have h3:1≤n:=by omega
     omega
    cases h
   cases h
  cases h
theorem Wu (c:aj):cJ c []=if c.t=c.c then some 0 else none:=by
 unfold cJ eE lL
 simp
theorem z3s {c:aj}(hr:Rt c):du c=0↔c.t=c.c:=by
 constructor
 ·intro h
  have h1:=z4f hr
  obtain⟨h2,h3⟩:=U4 h1
  have h4:=Wt hr _ _ _ _ h3
  have h5:(vk c).length=0:=by omega
  rw[List.length_eq_zero_iff.1 h5,Wu] at h1
  split at h1
  ·assumption
  cases h1
 intro h
 have h1:=Wu c
 rw[if_pos h] at h1
 have h2:=UN hr h1
 have h3:=(Bf hr (Nat.le_refl _) (Nat.le_refl c.c.length)).2.1
 unfold du at *
 omega
def fh (c:aj)(t:List Int):aj:={ c with t:=t,g:=[] }
def vB (q:List Int×Int)(k:Nat)(v:Int):List Int×Int:=if v<q.2 then ([(k:Int)],v) else if v=q.2 then (q.1++[(k:Int)],q.2) else q
def z7:List Int→Nat→List Int×Int→List Int×Int
 |[],_,q=>q
 |v::r,k,q=>z7 r (k+1) (vB q k v)
def j5 (v:Int):List Int→Nat→List Int
 |[],_=>[]
 |a::r,k=>if a=v then (k:Int)::j5 v r (k+1) else j5 v r (k+1)
theorem yP (v a:Int)(r:List Int)(k:Nat):j5 v (a::r) k=if a=v then (k:Int)::j5 v r (k+1) else j5 v r (k+1):=rfl
theorem Gw (v:Int):∀(l l2:List Int) (k:Nat),j5 v (l++l2) k=j5 v l k++j5 v l2 (k+l.length)
 |[],l2,k=>by simp[j5]
 |a::r,l2,k=>by
  rw[List.cons_append,yP,yP,Gw v r l2 (k+1),List.length_cons,show k+1+r.length=k+(r.length+1) by omega]
  split<;>rfl
theorem Wv {v:Int}:∀ {l:List Int} {k:Nat},(∀a∈l,v<a)→j5 v l k=[]
 |[],_,_=>rfl
 |a::r,k,h=>by
  rw[yP,if_neg (by have:=h a List.mem_cons_self;omega)]
  exact Wv fun x hx=>h x (List.mem_cons_of_mem _ hx)
theorem QK {v:Int}:∀ {l:List Int} {k:Nat} {z:Int},z∈j5 v l k→(k:Int)≤z
 |[],_,_,h=>by cases h
 |a::r,k,z,h=>by
  rw[yP] at h
  split at h
  ·rcases List.mem_cons.1 h with rfl|h
   ·exact Int.le_refl _
   have:=QK h;omega
  have:=QK h;omega
theorem QL (v:Int):∀(l:List Int) (k:Nat),(j5 v l k).length≤l.length
 |[],_=>Nat.le_refl _
 |a::r,k=>by
  have:=QL v r (k+1)
  rw[yP]
  split<;>simp only[List.length_cons]<;>omega
theorem Ww {v:Int}:∀ {l:List Int} {k:Nat},v∈l→j5 v l k≠[]
 |[],_,h=>by cases h
 |a::r,k,h=>by
  rw[yP]
  split
  ·simp
  rename_i ha
  rcases List.mem_cons.1 h with rfl|h
  ·exact absurd rfl ha
  exact Ww h
structure tP (bg:Int) (l:List Int) (q:List Int×Int):Prop where
  le:∀a∈l,q.2≤a
  id:q.1=j5 q.2 l 0
  QM:(l=[]∧q.2=bg)∨q.2∈l
theorem tP.zero (bg:Int):tP bg [] ([],bg):=⟨fun a h=>(by cases h),rfl,.inl ⟨rfl,rfl⟩⟩
theorem tP.next {bg:Int}{l:List Int}{q:List Int×Int}(h:tP bg l q){v:Int}(hv:v<bg):tP bg (l++[v]) (vB q l.length v):=by
 unfold vB
 split
 ·rename_i hq
  refine⟨fun a ha=>?_,?_,.inr (by simp)⟩
  ·rcases List.mem_append.1 ha with ha|ha
   ·have:=h.le a ha;simp only;omega
   rw[List.mem_singleton.1 ha];exact Int.le_refl _
  simp only
  rw[Gw,Wv fun a ha=>by have:=h.le a ha;omega,List.nil_append,Nat.zero_add,yP,if_pos rfl];rfl
 rename_i hq
 split
 ·rename_i he
  refine⟨fun a ha=>?_,?_,.inr (by simp[he])⟩
  ·rcases List.mem_append.1 ha with ha|ha
   ·exact h.le a ha
   rw[List.mem_singleton.1 ha];simp only;omega
  simp only
  rw[Gw,← h.id,Nat.zero_add,yP,if_pos he];rfl
 rename_i he
 refine⟨fun a ha=>?_,?_,.inr ?_⟩
 ·rcases List.mem_append.1 ha with ha|ha
  ·exact h.le a ha
  rw[List.mem_singleton.1 ha];omega
 ·rw[Gw,← h.id,yP,if_neg he];exact(List.append_nil _).symm
 rcases h.QM with⟨_,g⟩|g
 ·omega
 exact List.mem_append.2 (.inl g)
theorem xe2 {v:Int}{l:List Int}{j:Nat}{a:Int}(h:l[j]?=some a):(j5 v l 0)[(j5 v (l.take j) 0).length]?=some (j:Int)↔a=v:=by
 obtain⟨hj,ha⟩:=List.getElem?_eq_some_iff.1 h
 have e:l=l.take j++a::l.drop (j+1):=by rw[← ha,← List.drop_eq_getElem_cons hj,List.take_append_drop]
 have e2:j5 v l 0=j5 v (l.take j) 0++j5 v (a::l.drop (j+1)) j:=by
  conv=>lhs;rw[e]
  rw[Gw,List.length_take,Nat.min_eq_left (Nat.le_of_lt hj),Nat.zero_add]
 rw[e2,List.getElem?_append_right (Nat.le_refl _),Nat.sub_self,yP]
 split
 ·rename_i hb;exact⟨fun _=>hb,fun _=>rfl⟩
 rename_i hb
 refine⟨fun h2=>?_,fun h2=>absurd h2 hb⟩
 have:=QK (List.mem_of_getElem? h2)
 omega
theorem z5f {v:Int}{l:List Int}{j:Nat}{a:Int}(h:l[j]?=some a):(j5 v (l.take (j+1)) 0).length=(j5 v (l.take j) 0).length+if a=v then 1 else 0:=by
 obtain⟨hj,ha⟩:=List.getElem?_eq_some_iff.1 h
 rw[List.take_succ_eq_append_getElem hj,ha,Gw,List.length_append,yP]
 split<;>rfl
def kR (c:aj)(T:List (List Int)):List Int×Int:=z7 (T.map fun t=>du (fh c t)) 0 ([],1099511627776)
theorem QN {bg:Int}:∀(l pre:List Int) (q:List Int×Int),tP bg pre q→(∀a∈l,a<bg)→tP bg (pre++l) (z7 l pre.length q)
 |[],pre,q,h,_=>by rw[List.append_nil];exact h
 |a::r,pre,q,h,hl=>by
  have:=QN r (pre++[a]) _ (h.next (hl a List.mem_cons_self)) fun x hx=>hl x (List.mem_cons_of_mem _ hx)
  rw[List.append_assoc,List.length_append] at this
  exact this
theorem Wx:∀(l l2:List Int) (k:Nat) (q:List Int×Int),z7 (l++l2) k q=z7 l2 (k+l.length) (z7 l k q)
 |[],l2,k,q=>rfl
 |a::r,l2,k,q=>by
  show z7 (r++l2) (k+1) (vB q k a)=_
  rw[Wx r l2,List.length_cons,show k+1+r.length=k+(r.length+1) by omega];rfl
theorem z8m {c:aj}(h:bl c=0){t:List Int}(hl:t.length≤48)(hw:t.all dB=true):bl (fh c t)=0:=by
 obtain⟨h1,h2,h3,h4,h5,h6,h7⟩:=Gs h
 unfold bl
 have e1:oe (fh c t)=0:=h1
 rw[e1]
 simp only[ne_eq,not_true_eq_false,if_false]
 have e2:(fh c t).t=t:=rfl
 have e3:(fh c t).c=c.c:=rfl
 have e4:(fh c t).g=[]:=rfl
 rw[e2,e3,e4,if_neg (by simp only[List.length_nil];omega),hw,h6];rfl
def qq (c:aj)(T:List (List Int)):Int:=
 if bl c≠0 then bl c else if T.length=0 then 5 else if 8<T.length∨T.any (fun t=>decide (48<t.length))=true then 2 else if T.any (fun t=>!t.all dB)=true then 1 else 0
def ES (c:aj)(T:List (List Int)):List Int:=if qq c T=0 then (kR c T).1 else []
def ET (c:aj)(T:List (List Int)):Int:=if qq c T=0 then (kR c T).2 else 0
structure BJ (c:aj) (T:List (List Int)):Prop where
  hk:bl c=0
  hn:T≠[]
  hl:T.length≤8
  ht:∀t∈T,t.length≤48∧t.all dB=true
theorem Wy {c:aj}{T:List (List Int)}(h:qq c T=0):BJ c T:=by
 unfold qq at h
 split at h
 ·rename_i h1;exact absurd h h1
 rename_i h1
 split at h
 ·cases h
 rename_i h2
 split at h
 ·cases h
 rename_i h3
 split at h
 ·cases h
 rename_i h4
 rw[not_or] at h3
 refine⟨Decidable.not_not.1 h1,fun e=>h2 (by rw[e];rfl),by omega,fun t ht=>?_⟩
 have g1:=h3.2
 rw[List.any_eq_true] at g1 h4
 refine⟨Decidable.by_contra fun g=>g1 ⟨t,ht,by simp only[decide_eq_true_eq];omega⟩,?_⟩
 cases hb:t.all dB with
 |true=>rfl
 |false=>exact absurd ⟨t,ht,by rw[hb];rfl⟩ h4
theorem BJ.ok {c:aj}{T:List (List Int)}(h:BJ c T){t:List Int}(ht:t∈T):bl (fh c t)=0:=z8m h.hk (h.ht t ht).1 (h.ht t ht).2
theorem BJ.BD {c:aj}{T:List (List Int)}(h:BJ c T){t:List Int}(ht:t∈T):0≤du (fh c t)∧du (fh c t)≤9600:=by
 have hk:=h.ok ht
 have hr:=gR hk
 obtain⟨_,g1,g2⟩:=Bf hr (Nat.le_refl (fh c t).t.length) (Nat.le_refl (fh c t).c.length)
 have:=hr.tl
 have:=hr.cl
 unfold du
 omega
theorem BJ.law {c:aj}{T:List (List Int)}(h:BJ c T){j:Nat}{t:List Int}(ht:T[j]?=some t):(kR c T).2≤du (fh c t)∧
  ((kR c T).1[(j5 (kR c T).2 ((T.map fun t=>du (fh c t)).take j) 0).length]?=some (j:Int)↔du (fh c t)=(kR c T).2)∧
  (j5 (kR c T).2 ((T.map fun t=>du (fh c t)).take (j+1)) 0).length=(j5 (kR c T).2 ((T.map fun t=>du (fh c t)).take j) 0).length+(if du (fh c t)=(kR c T).2 then 1 else 0)∧
  (t=c.c→(kR c T).2=0∧du (fh c t)=(kR c T).2)∧((kR c T).2=0→du (fh c t)=(kR c T).2→t=c.c)∧0≤(kR c T).2:=by
 have hb:∀a∈T.map fun t=>du (fh c t),0≤a∧a<1099511627776:=fun a ha=>by
  obtain⟨x,hx,rfl⟩:=List.mem_map.1 ha
  have:=h.BD hx;omega
 have fq:=QN (T.map fun t=>du (fh c t)) [] ([],1099511627776) (.zero _) fun a ha=>(hb a ha).2
 rw[List.nil_append] at fq
 have hm:(T.map fun t=>du (fh c t))[j]?=some (du (fh c t)):=by rw[List.getElem?_map,ht];rfl
 have hle:=fq.le _ (List.mem_of_getElem? hm)
 have hid:=fq.id
 have h0:0≤(kR c T).2:=by
  rcases fq.QM with⟨g,_⟩|g
  ·rw[g] at hm;cases hm
  exact(hb _ g).1
 have hz:du (fh c t)=0↔t=c.c:=z3s (gR (h.ok (List.mem_of_getElem? ht)))
 refine⟨hle,?_,z5f hm,fun e=>?_,fun e1 e2=>hz.1 (e2.trans e1),h0⟩
 ·show (z7 _ _ _).1[_]?=_↔_
  rw[show (z7 (T.map fun t=>du (fh c t)) 0 ([],1099511627776)).1=j5 (kR c T).2 (T.map fun t=>du (fh c t)) 0 from hid]
  exact xe2 hm
 have e2:=hz.2 e
 have h5:(kR c T).2≤du (fh c t):=hle
 omega
theorem BJ.all {c:aj}{T:List (List Int)}(h:BJ c T):(kR c T).1=j5 (kR c T).2 (T.map fun t=>du (fh c t)) 0∧0<(kR c T).1.length:=by
 have hb:∀a∈T.map fun t=>du (fh c t),a<1099511627776:=fun a ha=>by
  obtain⟨x,hx,rfl⟩:=List.mem_map.1 ha
  have:=h.BD hx;omega
 have fq:=QN (T.map fun t=>du (fh c t)) [] ([],1099511627776) (.zero _) hb
 rw[List.nil_append] at fq
 have hid:(kR c T).1=j5 (kR c T).2 (T.map fun t=>du (fh c t)) 0:=fq.id
 refine⟨hid,?_⟩
 rw[hid]
 refine List.length_pos_iff.2 (Ww ?_)
 rcases fq.QM with⟨g,_⟩|g
 ·exact absurd (List.map_eq_nil_iff.1 g) h.hn
 exact g
end Go.Am.Sl
end
section
namespace Go.Am
variable [bF]
theorem aN.Wz {P:Program}{f:FuncId}{a0 a1 a2 a3 a4 a5 a6 a8:PV}{r:List PV}{R:PV→Prop}(hp:aN P f (.agg [a0,a1,a2,a3,a4,a5,a6,.vec [],a8]::r) R) :
  aN P f (.agg [a0,a1,a2,a3,a4,a5,a6,.aI,a8]::r) R:=fun lo g σ h aB ha s=>by
 obtain⟨v',r',rfl,h1,h2⟩:=ha.dE
 refine hp lo g σ h (v'::r') (.cons ?_ h2) s
 cases h1 with
 |fr _ _ h=>
  cases h with
  |agg cs ar hs hr=>
   refine .fr _ _ (.agg _ ar (by simpa using hs) fun i v v' hv aQ=>?_)
   match i,hv with
   |0,hv=>exact hr 0 v v' hv aQ
   |1,hv=>exact hr 1 v v' hv aQ
   |2,hv=>exact hr 2 v v' hv aQ
   |3,hv=>exact hr 3 v v' hv aQ
   |4,hv=>exact hr 4 v v' hv aQ
   |5,hv=>exact hr 5 v v' hv aQ
   |6,hv=>exact hr 6 v v' hv aQ
   |7,hv=>cases hv;have:=hr 7 .aI v' rfl aQ;cases this;exact .fw
   |8,hv=>exact hr 8 v v' hv aQ
   |n+9,hv=>cases hv
 |agg cs ar hs hr=>
  refine .agg _ ar (by simpa using hs) fun i v v' hv aQ=>?_
  match i,hv with
  |0,hv=>exact hr 0 v v' hv aQ
  |1,hv=>exact hr 1 v v' hv aQ
  |2,hv=>exact hr 2 v v' hv aQ
  |3,hv=>exact hr 3 v v' hv aQ
  |4,hv=>exact hr 4 v v' hv aQ
  |5,hv=>exact hr 5 v v' hv aQ
  |6,hv=>exact hr 6 v v' hv aQ
  |7,hv=>
   cases hv
   have:=hr 7 .aI v' rfl aQ
   cases this with
   |fr _ _ h=>cases h;exact .fr _ _ .fw
  |8,hv=>exact hr 8 v v' hv aQ
  |n+9,hv=>cases hv
end Go.Am
end
section
namespace Go.Am.Sl
open Go Go.Am Go.Proofs Tryz
attribute [local simp] eQ ij pV dH gk mz ai.back cS fW lg bm Nat.testBit_eq_decide_div_mod_eq cC iE mw vO ph gF pj iP cU nG nF pe gG pf n4 lZ pT n3 pg o7 o4 o8 o5 o6 o9 pa mR eZ jW eP pn nH oc po pq mQ pR pS gE my fK fy fL kV gg nS nv ny jF oR bj nZ fx bP bK lD ai.get ai.alloc ai.put ai.drop ai.empty bt cZ iw jn gA cz chunk List.range List.range.loop lh pW l9 bI b6 PV.aG PV.aF PV.dc PV.fu gY gH od PV.one PV.ids PV.cF gI beq_eq qD rE
attribute [local simp] cQ bQ fN gJ fI
attribute [local simp ↓ high] sD rJ
def yQ (c:aj)(T:List (List Int))(k:Nat):List Int×Int:=z7 ((T.take k).map fun t=>du (fh c t)) 0 ([],1099511627776)
theorem WA {c:aj}{T:List (List Int)}{k:Nat}{t:List Int}(h:T[k]?=some t):yQ c T (k+1)=vB (yQ c T k) k (du (fh c t)):=by
 obtain⟨h1,h2⟩:=List.getElem?_eq_some_iff.1 h
 unfold yQ
 rw[List.take_succ_eq_append_getElem h1,h2,List.map_append,Wx,List.length_map,List.length_take,Nat.min_eq_left (by omega),Nat.zero_add]
 rfl
theorem xa6 (c:aj)(T:List (List Int)):yQ c T T.length=kR c T:=by unfold yQ kR;rw[List.take_length]
theorem z7y (q:List Int×Int)(k:Nat)(v:Int):(vB q k v).1.length≤q.1.length+1:=by
 unfold vB
 split
 ·simp
 split
 ·simp
 omega
theorem WB (c:aj)(T:List (List Int)):∀k,k≤T.length→(yQ c T k).1.length≤k
 |0,_=>Nat.le_refl _
 |k+1,h=>by
  have:=WB c T k (by omega)
  rw[WA (List.getElem?_eq_getElem (by omega))]
  have:=z7y (yQ c T k) k (du (fh c T[k]))
  omega
theorem vC {c:aj}{T:List (List Int)}{e:Int}(h:qq c T=e)(he:¬e=0):ES c T=[]∧ET c T=0:=by
 unfold ES ET;rw[h,if_neg he,if_neg he];exact⟨rfl,rfl⟩
theorem xe9 {q:List Int×Int}{k:Nat}{v:Int}(h:v<q.2):vB q k v=([(k:Int)],v):=by unfold vB;rw[if_pos h]
theorem xcs {q:List Int×Int}{k:Nat}{v:Int}(h:v=q.2):vB q k v=(q.1++[(k:Int)],q.2):=by unfold vB;rw[if_neg (by omega),if_pos h]
theorem xdn {q:List Int×Int}{k:Nat}{v:Int}(h:¬v<q.2)(h2:¬v=q.2):vB q k v=q:=by unfold vB;rw[if_neg h,if_neg h2]
section
variable [bF]
theorem QO (u:List Int)(hr:u.length<4611686018427387904):aN prog 102 [ints u] fun r=>r=.bool (decide (48<u.length)):=by
 have h1:decide (48<(u.length:Int))=decide (48<u.length):=decide_eq_decide.2 (by omega)
 refine .bT func102 rfl rfl ?_
 refine .sr ?_
 refine .sr ?_
 refine .ret (au ?_)
 exact zk
theorem QP (u:List Int)(hr:u.length<4611686018427387904):aN prog 104 [ints u] fun r=>r=.bool (!u.all dB):=by
 have QQ:=AY u hr
 refine .bT func104 rfl rfl ?_
 refine .sr ?_
 refine .seq (.ay eD rfl ae (.rn [0] _ ?_))
 refine .pc rfl rfl rfl rfl rfl call105 (QQ) ?_
 refine .rn [2,3] [] ?_
 refine .done (.ret (au ?_))
 exact zk
theorem p44 (c:aj)(T:List (List Int))(hB:BC c)(hT:T.length<4611686018427387904)(EL:∀r∈T,r.length<4611686018427387904):aN prog 44 [aH c,.vec (T.map ints)] fun r=>eR r (.bx [ints (ES c T),.int .i64 (ET c T),.int .i64 (qq c T)]):=by
 have ct:=sB c hB
 have hC:cR c=(cQ c):=rfl
 have yR:=Ji T ints (fun r=>decide (48<r.length)) 102 [] [] hT (fun _=>rfl) rfl rfl (fun _=>rfl) call102 (fun r hr=>QO r (EL r hr))
 have yS:=Ji T ints (fun r=>!r.all dB) 104 [] [] hT (fun _=>rfl) rfl rfl (fun _=>rfl) call104 (fun r hr=>QP r (EL r hr))
 obtain⟨e,he⟩:∃e,bl c=e:=⟨_,rfl⟩
 have dz:=he
 rw[he] at ct
 obtain⟨y1,wF⟩:∃b,(T.any fun r=>decide (48<r.length))=b:=⟨_,rfl⟩
 obtain⟨y2,Gx⟩:∃b,(T.any fun r=>!r.all dB)=b:=⟨_,rfl⟩
 rw[wF] at yR
 rw[Gx] at yS
 obtain⟨z,hz⟩:∃b,((T.length:Int)==0)=b:=⟨_,rfl⟩
 obtain⟨y0,Ml⟩:∃b,decide (8<(T.length:Int))=b:=⟨_,rfl⟩
 have yT:decide (8<T.length)=y0:=by rw[← Ml];exact decide_eq_decide.2 (by omega)
 unfold aH at ct ⊢
 rw[hC] at ct ⊢
 refine .bT func44 rfl rfl ?_
 refine .sr ?_
 refine .seq (.seq (.ay [0,1,2] rfl ae (.rn [0] _ ?_)))
 refine .pc rfl rfl rfl rfl rfl call55 (ct) ?_
 refine .rn [2] [] ?_
 refine .done (.sr ?_)
 refine .cs ?_ ?_<;>intro gT
 ·try simp at gT
  have hE:qq c T=e:=by unfold qq;rw[he,if_pos gT]
  obtain⟨g1,g2⟩:=vC hE gT
  refine .sr ?_
  refine .ret (au ?_)
  rw[g1,g2,hE];exact zJ (.cons .dC (.cons (.same _ rfl) (.cons (.same _ rfl) .nil)))
 try simp at gT
 subst gT
 refine .skip (.sr ?_)
 refine .seq (.block (.sr ?_))
 refine .cs ?_ ?_<;>intro iU
 ·try simp at iU
  have h0:T.length=0:=by rw[iU,beq_iff_eq] at hz;omega
  have hE:qq c T=5:=by unfold qq;rw[if_neg (by rw[he];simp),if_pos h0]
  obtain⟨g1,g2⟩:=vC hE (by decide)
  refine .sr ?_
  refine .ret (au ?_)
  rw[g1,g2,hE];exact zJ (.cons .dC (.cons (.same _ rfl) (.cons (.same _ rfl) .nil)))
 try simp at iU
 have h0:¬T.length=0:=fun h=>by rw[h] at hz;rw[iU] at hz;cases hz
 refine .seq (.ay rF rfl ae (.rn eD _ ?_))
 refine .split (t:=27) rfl (fun eV=>?_) (fun eV=>?_)
 ·try subst eV
  try simp at eV
  have hE:qq c T=2:=by unfold qq;rw[if_neg (by rw[he];simp),if_neg h0,if_pos (.inl (of_decide_eq_true yT))]
  obtain⟨g1,g2⟩:=vC hE (by decide)
  refine .rn [4,5,6,7,8] [] ?_
  refine .done (.eA rfl (.sr ?_))
  refine .ret (au ?_)
  rw[g1,g2,hE];exact zJ (.cons .dC (.cons (.same _ rfl) (.cons (.same _ rfl) .nil)))
 try subst eV
 try simp at eV
 have h8:¬8<T.length:=of_decide_eq_false yT
 refine .rn [4,5] _ ?_
 refine .step rfl rfl (.borrow rfl rfl rfl call103 (by decide) (by first|(simp<;>rfl)|(simp[*]<;>rfl)|(simp[*];done)) (yR) (by rintro _ rfl<;>first|(simp;done)|rfl) ?_)
 rintro _ rfl
 refine .rn [7,8] [] ?_
 refine .done ?_
 refine .cs ?_ ?_<;>intro fS
 ·try simp at fS
  have hE:qq c T=2:=by unfold qq;rw[if_neg (by rw[he];simp),if_neg h0,if_pos (.inr (wF.trans fS))]
  obtain⟨g1,g2⟩:=vC hE (by decide)
  refine .sr ?_
  refine .ret (au ?_)
  rw[g1,g2,hE];exact zJ (.cons .dC (.cons (.same _ rfl) (.cons (.same _ rfl) .nil)))
 try simp at fS
 refine .seq (.ay [0,1,2] rfl ae (.rn [0] _ ?_))
 refine .step rfl rfl (.borrow rfl rfl rfl call103 (by decide) (by first|(simp<;>rfl)|(simp[*]<;>rfl)|(simp[*];done)) (yS) (by rintro _ rfl<;>first|(simp;done)|rfl) ?_)
 rintro _ rfl
 refine .rn [2] [] ?_
 refine .done ?_
 refine .cs ?_ ?_<;>intro dX
 ·try simp at dX
  have hE:qq c T=1:=by unfold qq;rw[if_neg (by rw[he];simp),if_neg h0,if_neg (by rw[wF,fS];simp[h8]),if_pos (Gx.trans dX)]
  obtain⟨g1,g2⟩:=vC hE (by decide)
  refine .sr ?_
  refine .ret (au ?_)
  rw[g1,g2,hE];exact zJ (.cons .dC (.cons (.same _ rfl) (.cons (.same _ rfl) .nil)))
 try simp at dX
 have hE:qq c T=0:=by unfold qq;rw[if_neg (by rw[he];simp),if_neg h0,if_neg (by rw[wF,fS];simp[h8]),if_neg (by rw[Gx,dX];simp)]
 have hN:=Wy hE
 clear yR yS Ml yT hz wF Gx
 refine .skip (.sr ?_)
 refine .sr ?_
 refine .seq (.sr ?_)
 refine .block ?_
 refine .dw (fun k:Nat=>([(2,.ptr 0 0),(9,.grow 1 (yQ c T k).1.length true),(10,.int .i64 (yQ c T k).2),(35,.vec (T.map ints)),(36,.int .i64 T.length),(37,.int .i64 k)],⟨2,[(1,.grow 1 ((yQ c T k).1.map (.int .i64))),(0,.box (cQ c))]⟩)) (fun k=>k≤T.length) (fun k=>T.length - k) 0 (Nat.zero_le _) bn ?_
 rintro k hk
 simp only at hk ⊢
 refine .sr ?_
 refine .seq ?_
 refine .cs ?_ ?_<;>intro kM
 ·try simp at kM
  have eG:k<T.length:=by omega
  obtain⟨t,ht⟩:∃t,T[k]?=some t:=⟨_,List.getElem?_eq_getElem eG⟩
  obtain⟨zx,qP⟩:=List.getElem?_eq_some_iff.1 ht
  have Bh:=hN.ok (List.mem_of_getElem? ht)
  have fY:=Bd (fh c t) Bh
  have QR:aH (fh c t)=.agg [.int .i64 c.om,.int .i64 c.le,.int .i64 c.tw,.int .i64 c.gl,.int .i64 c.ad,.vec (c.mx.map bk),ints t,.vec [],ints c.c]:=rfl
  rw[QR] at fY
  have fY:=aN.Wz fY
  have hS:=WA (c:=c) ht
  have hl:=WB c T k hk
  have Jj:aX (fh c t) (fh c t).t.length (fh c t).c.length=du (fh c t):=rfl
  obtain⟨v,hv⟩:∃v,du (fh c t)=v:=⟨_,rfl⟩
  rw[hv] at Jj hS
  obtain⟨q,hq⟩:∃q,yQ c T k=q:=⟨_,rfl⟩
  rw[hq] at hl hS ⊢
  obtain⟨ql,qv⟩:=q
  simp only at hl
  obtain⟨lt,aP⟩:∃b,decide (v<qv)=b:=⟨_,rfl⟩
  obtain⟨eb,sN⟩:∃b,(v==qv)=b:=⟨_,rfl⟩
  have hl8:=hN.hl
  have Is:ql.length+1≤4294967296:=by omega
  have It:ql.length≤4294967295:=by omega
  have uX:=fA k
  refine .skip (.seq (.block (.sr ?_)))
  refine .seq (.ay rF rfl ae (.rn kg _ ?_))
  refine .step rfl rfl (.pure rfl rfl rfl call77 (by decide) (fY) (by first|rfl|simp[*]) ?_)
  rintro _ ⟨ps,gr,rfl⟩
  rw[uu,Jj]
  refine .rn [7,8] [] ?_
  refine .done (.seq (.sr ?_))
  refine .cs ?_ ?_<;>intro vn
  ·try simp at vn
   rw[xe9 (of_decide_eq_true (aP.trans vn))] at hS
   refine .rn ?_
   refine .sr ?_
   refine .cs ?_ ?_<;>intro zV
   ·try simp at zV
    refine .rn ?_
    refine .rn ?_
    refine⟨k+1,bp,bp,by rw[hS];exact(.mk [] [(1,3)] ia ix rfl rfl rfl)⟩
   try simp at zV
  try simp at vn
  refine .skip (.sr ?_)
  refine .cs ?_ ?_<;>intro zV
  ·try simp at zV
   rw[xcs (by rw[zV,beq_iff_eq] at sN;exact sN)] at hS
   refine .rn ?_
   refine .rn ?_
   refine⟨k+1,bp,bp,by rw[hS];exact(.mk [] [(1,3)] ia ix rfl rfl rfl)⟩
  try simp at zV
  rw[xdn (of_decide_eq_false (aP.trans vn)) (by rw[zV,beq_eq_false_iff_ne] at sN;exact sN)] at hS
  refine .skip (.rn ?_)
  refine⟨k+1,bp,bp,by rw[hS];exact bn⟩
 try simp at kM
 obtain rfl:k=T.length:=by omega
 rw[xa6]
 have g1:ES c T=(kR c T).1:=by unfold ES;rw[if_pos hE]
 have g2:ET c T=(kR c T).2:=by unfold ET;rw[if_pos hE]
 refine .exit (.sr ?_)
 refine .ret (au ?_)
 rw[g1,g2,hE];exact oB (by simp[PV.aG,PV.aF])
theorem p8 (hN:Names)(c:aj)(T:List (List Int))(hB:BC c)(hT:T.length<4611686018427387904)(EL:∀r∈T,r.length<4611686018427387904):aN prog 8 [aH c,.vec (T.map ints)] fun r=>r=.bool true:=by
 have qS:=Qr hN
 have BG:=V6 c
 have hC:cR c=(cQ c):=rfl
 have Mm:=aN.soft (p44 c T hB hT EL) (by simp[PV.aG,PV.aF])
 obtain⟨Lr,Mn⟩:∃x,ES c T=x:=⟨_,rfl⟩
 obtain⟨n,hn⟩:∃x,ET c T=x:=⟨_,rfl⟩
 obtain⟨E,hE⟩:∃x,qq c T=x:=⟨_,rfl⟩
 rw[Mn,hn,hE] at Mm
 obtain⟨nsb,By⟩:∃b,qo c = !b:=⟨!qo c,by simp⟩
 rw[By] at BG
 obtain⟨y0,Ml⟩:∃b,decide (8<(T.length:Int))=b:=⟨_,rfl⟩
 have yT:decide (8<T.length)=y0:=by rw[← Ml];exact decide_eq_decide.2 (by omega)
 unfold aH at BG Mm ⊢
 rw[hC] at BG Mm ⊢
 refine .bT func8 rfl rfl ?_
 refine .sr ?_
 refine .seq (.seq (.ay mC rfl ae (.rn [0] _ ?_)))
 refine .pc rfl rfl rfl rfl rfl call19 (BG) ?_
 refine .rn [2,3] _ ?_
 refine .split (t:=17) rfl (fun gT=>?_) (fun gT=>?_)
 ·try subst gT
  try simp at gT
  refine .rn [4,5,6,7] [] ?_
  refine .done (.eA rfl (.seq ?_))
  refine .ay [0,1] rfl ae ?_
  refine .pc rfl rfl rfl rfl rfl call20 (qS) ?_
  refine .rn [1] [] ?_
  refine .done (.ret (au ?_))
  exact zk
 try subst gT
 try simp at gT
 refine .rn [4,5,6,7] [] ?_
 refine .done ?_
 refine .cs ?_ ?_<;>intro dm
 ·try simp at dm
  refine .seq (.ay [0,1] rfl ae ?_)
  refine .pc rfl rfl rfl rfl rfl call20 (qS) ?_
  refine .rn [1] [] ?_
  refine .done (.ret (au ?_))
  exact zk
 try simp at dm
 have h8:T.length≤8:=by have:=of_decide_eq_false (yT.trans dm);omega
 refine .skip (.seq (.sr ?_))
 refine .block ?_
 refine .dw (fun i:Nat=>([(1,.vec (T.map ints)),(2,.ptr 0 0),(5,.int .i64 i)],⟨1,[(0,.box (cQ c))]⟩)) (fun i=>i≤T.length) (fun i=>T.length - i) 0 (Nat.zero_le _) bn ?_
 rintro i hi
 simp only at hi ⊢
 refine .seq (.sr ?_)
 refine .cs ?_ ?_<;>intro jI
 ·try simp at jI
  have dy:i<T.length:=by omega
  obtain⟨t,ht⟩:∃t,T[i]?=some t:=⟨_,List.getElem?_eq_getElem dy⟩
  obtain⟨zx,qP⟩:=List.getElem?_eq_some_iff.1 ht
  have uX:=fA i
  obtain⟨y1,wF⟩:∃b,decide (14<(t.length:Int))=b:=⟨_,rfl⟩
  have yao:decide (14<t.length)=y1:=by rw[← wF];exact decide_eq_decide.2 (by omega)
  refine .skip (.seq (.block (.sr ?_)))
  refine .cs ?_ ?_<;>intro pA
  ·try simp at pA
   refine .seq (.ay [0,1] rfl ae ?_)
   refine .pc rfl rfl rfl rfl rfl call20 (qS) ?_
   refine .rn [1] [] ?_
   refine .done (.ret (au ?_))
   exact zk
  try simp at pA
  refine .skip (.rn ?_)
  refine⟨i+1,bp,bp,bn⟩
 try simp at jI
 refine .exit (.seq (.ay fM rfl ae (.rn [0,1] _ ?_)))
 refine .pc rfl rfl rfl rfl rfl call44 (Mm) ?_
 refine .rn [3,4,5,6,7,8,9] [] ?_
 refine .done (.seq (.sr ?_))
 refine .cs ?_ ?_<;>intro qI
 ·try simp at qI
  obtain⟨g1,g2⟩:=vC hE qI
  rw[Mn] at g1
  rw[hn] at g2
  subst g1 g2
  refine .seq (.ay [0,1,2,3,4,5,6,7,8,9,10] rfl ae ?_)
  refine .pc rfl rfl rfl rfl rfl call20 (qS) ?_
  refine .rn [1] _ ?_
  refine .split (t:=46) rfl (fun Jk=>?_) (fun Jk=>?_)
  ·try subst Jk
   try simp at Jk
   refine .rn [2,3,4,5,6] _ ?_
   refine .split (t:=51) rfl (fun Jl=>?_) (fun Jl=>?_)
   ·try subst Jl
    try simp at Jl
    refine .rn [7,8,9,10] [] ?_
    refine .done (.ret (au ?_))
    exact zk
   try subst Jl
   try simp at Jl
  try subst Jk
  try simp at Jk
 try simp at qI
 subst qI
 have hK:=Wy hE
 have hA:=hK.all
 have WC:Lr=(kR c T).1:=by rw[← Mn];unfold ES;rw[if_pos hE]
 have cY:n=(kR c T).2:=by rw[← hn];unfold ET;rw[if_pos hE]
 have yU:=fun (j:Nat) (t:List Int) (h:T[j]?=some t)=>hK.law h
 rw[← WC,← cY] at yU hA
 obtain⟨V,hV⟩:∃V,(T.map fun t=>du (fh c t))=V:=⟨_,rfl⟩
 rw[hV] at yU hA
 have hVl:V.length=T.length:=by rw[← hV,List.length_map]
 obtain⟨qe,xN⟩:=hA
 have P2:=qe.symm
 clear WC cY qe hV Mn hn
 refine .skip (.sr ?_)
 refine .seq (.sr ?_)
 refine .block ?_
 refine .dw (fun i:Nat=>([(1,.vec (T.map ints)),(2,.ptr 0 0),(6,ints Lr),(7,.int .i64 n),(9,.int .i64 (j5 n (V.take i) 0).length),(10,.int .i64 i)],⟨1,[(0,.box (cQ c))]⟩)) (fun i=>i≤T.length) (fun i=>T.length - i) 0 (Nat.zero_le _) bn ?_
 rintro i hi
 simp only at hi ⊢
 refine .seq (.sr ?_)
 refine .cs ?_ ?_<;>intro Cz
 ·try simp at Cz
  have dy:i<T.length:=by omega
  obtain⟨t,ht⟩:∃t,T[i]?=some t:=⟨_,List.getElem?_eq_getElem dy⟩
  obtain⟨zx,qP⟩:=List.getElem?_eq_some_iff.1 ht
  have uX:=fA i
  obtain⟨l1,l2,l3,l4,l5,l6⟩:=yU i t ht
  have Bh:=hK.ok (List.mem_of_getElem? ht)
  have oh:=(hK.ht t (List.mem_of_getElem? ht)).1
  have eM:=(gR hK.hk).cl
  have Jm:=p45 t c.c (by omega) (by omega)
  have hBt:BC (fh c t):=⟨hB.hm,by show t.length<_;omega,hB.hc,by show ([]:List lj).length<_;decide,fun x hx=>by cases hx⟩
  have pC:=Ib (fh c t) hBt
  have QR:aH (fh c t)=.agg [.int .i64 c.om,.int .i64 c.le,.int .i64 c.tw,.int .i64 c.gl,.int .i64 c.ad,.vec (c.mx.map bk),ints t,.vec [],ints c.c]:=rfl
  rw[Bh,QR,show aX (fh c t) (fh c t).t.length (fh c t).c.length=du (fh c t) from rfl] at pC
  simp only[if_true] at pC
  have pC:=aN.Wz pC
  obtain⟨v,hv⟩:∃v,du (fh c t)=v:=⟨_,rfl⟩
  rw[hv] at l1 l2 l3 l4 l5 pC
  obtain⟨K0,WD⟩:∃x,(j5 n (V.take i) 0).length=x:=⟨_,rfl⟩
  obtain⟨K1,EU⟩:∃x,(j5 n (V.take (i+1)) 0).length=x:=⟨_,rfl⟩
  rw[WD] at l2 l3 ⊢
  rw[EU] at l3
  obtain⟨td,yg⟩:∃b,(v==n)=b:=⟨_,rfl⟩
  obtain⟨nz,Gh⟩:∃b,(n==0)=b:=⟨_,rfl⟩
  have yap:(n != 0) = !nz:=by rw[← Gh];rfl
  obtain⟨sm,CP⟩:∃b,decide (t=c.c)=b:=⟨_,rfl⟩
  have aP:decide (v<n)=false:=decide_eq_false (by omega)
  rw[CP] at Jm
  have hS:sm=false∨(nz=true∧td=true):=by
   cases h:sm with
   |false=>exact .inl rfl
   |true=>
    have h1:=l4 (of_decide_eq_true (CP.trans h))
    exact .inr ⟨by rw[← Gh,h1.1];rfl,by rw[← yg,h1.2];simp⟩
  have Gy:sm=false∨nz=true:=hS.imp id And.left
  have Gz:sm=false∨td=true:=hS.imp id And.right
  have zI:nz=false∨td=false∨sm=true:=by
   cases h:nz with
   |false=>exact .inl rfl
   |true=>
    cases h2:td with
    |false=>exact .inr (.inl rfl)
    |true=>
     rw[← Gh,beq_iff_eq] at h
     rw[← yg,beq_iff_eq] at h2
     exact .inr (.inr (by rw[← CP];exact decide_eq_true (l5 h h2)))
  have r9:K1=K0+if td=true then 1 else 0:=by
   rw[l3,← yg]
   by_cases h:v=n<;>simp[h]
  have hLl:Lr.length≤8:=by
   rw[← P2]
   have:=QL n V 0
   omega
  have yaq:K0≤8:=by
   rw[← WD]
   have:=QL n (V.take i) 0
   rw[List.length_take] at this
   omega
  obtain⟨kb,Gg⟩:∃b,decide (K0<Lr.length)=b:=⟨_,rfl⟩
  have hwK:IntKind.i64.wrap ((K0:Int)+1)=((K0+1:Nat):Int):=by rw[wrap64 (by omega) (by omega)];omega
  have Jn:(td != td)=false:=by cases td<;>rfl
  refine .skip (.seq (.block (.seq ?_)))
  refine .drawn (ms:=[0,1,0,0,12,28,0,64,255,511,1023,2047,2047,4095,16383]) (W:=[9]) (items:=Oi) rfl ae ae ae ?_
  iterate 9 refine .rx ?_
  refine .wp rfl rfl rfl rfl rfl call43 (pC) ?_
  iterate 5 refine .rx ?_
  refine .done (.seq (.ay jq rfl ae ?_))
  refine .rn gQ _ ?_
  refine .split (t:=78) rfl (fun vx=>?_) (fun vx=>?_)
  ·try subst vx
   try simp at vx
   have eG:K0<Lr.length:=of_decide_eq_true Gg
   obtain⟨z,hz⟩:∃z,Lr[K0]?=some z:=⟨_,List.getElem?_eq_getElem eG⟩
   obtain⟨lT,uf⟩:=List.getElem?_eq_some_iff.1 hz
   have hzt:(z==(i:Int))=td:=by
    rw[hz] at l2
    rw[← yg,Bool.eq_iff_iff,beq_iff_eq,beq_iff_eq,← l2]
    exact⟨fun h=>by rw[h],fun h=>by injection h⟩
   refine .rn [5,6,7,8,9,10,11,12] [] ?_
   refine .done ?_
   refine .join (fun _:Unit=>([(1,.vec (T.map ints)),(2,.ptr 0 0),(6,ints Lr),(7,.int .i64 n),(9,.int .i64 K1),(10,.int .i64 i),(11,.int .i64 v),(12,.int .i64 0),(13,.bool td)],⟨1,[(0,.box (cQ c))]⟩)) (fun _=>True) ?_ ?_
   ·skip
    refine .sr ?_
    refine .cs ?_ ?_<;>intro Mo
    ·try simp at Mo
     refine .rn ?_
     refine⟨(),trivial,?_⟩
     rw[if_pos Mo] at r9
     rw[r9]
     exact bn
    try simp at Mo
    refine .skip ?_
    refine⟨(),trivial,?_⟩
    rw[if_neg (by rw[Mo];decide),Nat.add_zero] at r9
    rw[r9]
    exact bn
   skip
   rintro _ _
   simp only
   try clear QS
   clear l2 l3 l4 l5 yU r9
   refine .seq ?_
   refine .drawn (ms:=[0,1,3,7,7,31,63,127,255,255,255,1791,4095,8191,16383,32767,32767,131071,262143,32767,557055,2097151,4194303,8388607,16777215,33554431,67108863,134217727,268435455,536870911,1073741823,2147483647,4294967295,8589934591,17179869183,34359738367,68719476735,137438953471,274877906943,274877906943,1099511627775,2199023255551,274877906943,4672924418047,17592186044415,35184372088831,70368744177663,140737488355327]) (W:=[21,44]) (items:=Jo) rfl ae ae ae ?_
   iterate 3 refine .rx ?_
   refine .split (t:=91) rfl (fun uA=>?_) (fun uA=>?_)
   ·try subst uA
    try simp at uA
   try subst uA
   try simp at uA
   iterate 5 refine .rx ?_
   refine .split (t:=96) rfl (fun yV=>?_) (fun yV=>?_)
   ·try subst yV
    try simp at yV
   try subst yV
   try simp at yV
   iterate 7 refine .rx ?_
   refine .split (t:=103) rfl (fun iX=>?_) (fun iX=>?_)
   ·try subst iX
    try simp at iX
   try subst iX
   try simp at iX
   iterate 6 refine .rx ?_
   refine .wp rfl rfl rfl rfl rfl call45 (Jm) ?_
   refine .rx ?_
   refine .split (t:=111) rfl (fun gM=>?_) (fun gM=>?_)
   ·try subst gM
    try simp at gM
    have h8:nz=true:=Gy.resolve_left (by decide)
    have h9:td=true:=Gz.resolve_left (by decide)
    clear hS zI Gy Gz Jn aP
    iterate 3 refine .rx ?_
    refine .split (t:=114) rfl (fun fX=>?_) (fun fX=>?_)
    ·try subst fX
     try simp at fX
    try subst fX
    try simp at fX
    iterate 6 refine .rx ?_
    refine .split (t:=120) rfl (fun np=>?_) (fun np=>?_)
    ·try subst np
     try simp at np
    try subst np
    try simp at np
    iterate 3 refine .rx ?_
    refine .split (t:=123) rfl (fun fP=>?_) (fun fP=>?_)
    ·try subst fP
     try simp at fP
     iterate 3 refine .rx ?_
     refine .split (t:=126) rfl (fun fQ=>?_) (fun fQ=>?_)
     ·try subst fQ
      try simp at fQ
      iterate 6 refine .rx ?_
      refine .wp rfl rfl rfl rfl rfl call45 (Jm) ?_
      iterate 3 refine .rx ?_
      refine .done ?_
      refine .cs ?_ ?_<;>intro og
      ·try simp at og
      try simp at og
      refine .skip (.rn ?_)
      refine⟨i+1,bp,bp,by rw[EU];exact bn⟩
     try subst fQ
     try simp at fQ
    try subst fP
    try simp at fP
   try subst gM
   try simp at gM
   have zY:nz=false∨td=false:=zI.imp id fun h=>h.resolve_right (by decide)
   clear hS zI Gy Gz CP
   iterate 6 refine .ux ?_
   iterate 6 refine .rx ?_
   refine .split (t:=123) rfl (fun fP=>?_) (fun fP=>?_)
   ·try subst fP
    try simp at fP
    iterate 3 refine .rx ?_
    refine .split (t:=126) rfl (fun fQ=>?_) (fun fQ=>?_)
    ·try subst fQ
     try simp at fQ
     exact absurd zY (by decide)
    try subst fQ
    try simp at fQ
    iterate 8 refine .ux ?_
    iterate 2 refine .rx ?_
    refine .done (.fD rfl (.skip (.rn ?_)))
    refine⟨i+1,bp,bp,by rw[EU];exact bn⟩
   try subst fP
   try simp at fP
   refine .ux ?_
   iterate 2 refine .rx ?_
   iterate 8 refine .ux ?_
   iterate 2 refine .rx ?_
   refine .done (.fD rfl (.skip (.rn ?_)))
   refine⟨i+1,bp,bp,by rw[EU];exact bn⟩
  try subst vx
  try simp at vx
  have eG:¬K0<Lr.length:=of_decide_eq_false Gg
  have QS:td=false:=by
   rw[List.getElem?_eq_none (by omega)] at l2
   rw[← yg]
   exact beq_eq_false_iff_ne.2 fun h=>by cases l2.2 h
  refine .rn [5,6,7,8,9,10,11,12] [] ?_
  refine .done ?_
  refine .join (fun _:Unit=>([(1,.vec (T.map ints)),(2,.ptr 0 0),(6,ints Lr),(7,.int .i64 n),(9,.int .i64 K1),(10,.int .i64 i),(11,.int .i64 v),(12,.int .i64 0),(13,.bool td)],⟨1,[(0,.box (cQ c))]⟩)) (fun _=>True) ?_ ?_
  ·skip
   refine .sr ?_
   refine .fD rfl (.skip ?_)
   refine⟨(),trivial,?_⟩
   rw[if_neg (by rw[QS];decide),Nat.add_zero] at r9
   rw[r9]
   exact bn
  skip
  rintro _ _
  simp only
  try clear QS
  clear l2 l3 l4 l5 yU r9
  refine .seq ?_
  refine .drawn (ms:=[0,1,3,7,7,31,63,127,255,255,255,1791,4095,8191,16383,32767,32767,131071,262143,32767,557055,2097151,4194303,8388607,16777215,33554431,67108863,134217727,268435455,536870911,1073741823,2147483647,4294967295,8589934591,17179869183,34359738367,68719476735,137438953471,274877906943,274877906943,1099511627775,2199023255551,274877906943,4672924418047,17592186044415,35184372088831,70368744177663,140737488355327]) (W:=[21,44]) (items:=Jo) rfl ae ae ae ?_
  iterate 3 refine .rx ?_
  refine .split (t:=91) rfl (fun uA=>?_) (fun uA=>?_)
  ·try subst uA
   try simp at uA
  try subst uA
  try simp at uA
  iterate 5 refine .rx ?_
  refine .split (t:=96) rfl (fun yV=>?_) (fun yV=>?_)
  ·try subst yV
   try simp at yV
  try subst yV
  try simp at yV
  iterate 7 refine .rx ?_
  refine .split (t:=103) rfl (fun iX=>?_) (fun iX=>?_)
  ·try subst iX
   try simp at iX
  try subst iX
  try simp at iX
  iterate 6 refine .rx ?_
  refine .wp rfl rfl rfl rfl rfl call45 (Jm) ?_
  refine .rx ?_
  refine .split (t:=111) rfl (fun gM=>?_) (fun gM=>?_)
  ·try subst gM
   try simp at gM
   have h8:nz=true:=Gy.resolve_left (by decide)
   have h9:td=true:=Gz.resolve_left (by decide)
   clear hS zI Gy Gz Jn aP
   iterate 3 refine .rx ?_
   refine .split (t:=114) rfl (fun fX=>?_) (fun fX=>?_)
   ·try subst fX
    try simp at fX
   try subst fX
   try simp at fX
   iterate 6 refine .rx ?_
   refine .split (t:=120) rfl (fun np=>?_) (fun np=>?_)
   ·try subst np
    try simp at np
   try subst np
   try simp at np
   iterate 3 refine .rx ?_
   refine .split (t:=123) rfl (fun fP=>?_) (fun fP=>?_)
   ·try subst fP
    try simp at fP
    iterate 3 refine .rx ?_
    refine .split (t:=126) rfl (fun fQ=>?_) (fun fQ=>?_)
    ·try subst fQ
     try simp at fQ
     iterate 6 refine .rx ?_
     refine .wp rfl rfl rfl rfl rfl call45 (Jm) ?_
     iterate 3 refine .rx ?_
     refine .done ?_
     refine .cs ?_ ?_<;>intro og
     ·try simp at og
     try simp at og
     refine .skip (.rn ?_)
     refine⟨i+1,bp,bp,by rw[EU];exact bn⟩
    try subst fQ
    try simp at fQ
   try subst fP
   try simp at fP
  try subst gM
  try simp at gM
  have zY:nz=false∨td=false:=zI.imp id fun h=>h.resolve_right (by decide)
  clear hS zI Gy Gz CP
  iterate 6 refine .ux ?_
  iterate 6 refine .rx ?_
  refine .split (t:=123) rfl (fun fP=>?_) (fun fP=>?_)
  ·try subst fP
   try simp at fP
   iterate 3 refine .rx ?_
   refine .split (t:=126) rfl (fun fQ=>?_) (fun fQ=>?_)
   ·try subst fQ
    try simp at fQ
    exact absurd zY (by decide)
   try subst fQ
   try simp at fQ
   iterate 8 refine .ux ?_
   iterate 2 refine .rx ?_
   refine .done (.fD rfl (.skip (.rn ?_)))
   refine⟨i+1,bp,bp,by rw[EU];exact bn⟩
  try subst fP
  try simp at fP
  refine .ux ?_
  iterate 2 refine .rx ?_
  iterate 8 refine .ux ?_
  iterate 2 refine .rx ?_
  refine .done (.fD rfl (.skip (.rn ?_)))
  refine⟨i+1,bp,bp,by rw[EU];exact bn⟩
 try simp at Cz
 obtain rfl:i=T.length:=by omega
 have hVt:V.take T.length=V:=by rw[← hVl];exact List.take_length
 have hLL:(j5 n (V.take T.length) 0).length=Lr.length:=by rw[hVt,P2]
 have h0:decide (0<Lr.length)=true:=decide_eq_true xN
 have Pf:decide (0<(Lr.length:Int))=true:=decide_eq_true (by have:=xN;omega)
 have hLz:¬Lr=[]:=fun h=>by have:=xN;rw[h] at this;cases this
 refine .exit (.seq (.ay xD rfl ae ?_))
 refine .pc rfl rfl rfl rfl rfl call20 (qS) ?_
 refine .rn [1] _ ?_
 refine .split (t:=138) rfl (fun sc=>?_) (fun sc=>?_)
 ·try subst sc
  try simp at sc
  refine .rn [2,3,4,5,6,7] _ ?_
  refine .split (t:=144) rfl (fun yW=>?_) (fun yW=>?_)
  ·try subst yW
   try simp at yW
   refine .rn [8,9,10,11] [] ?_
   refine .done (.ret (au ?_))
   exact zk
  try subst yW
  try simp at yW
 try subst sc
 try simp at sc
end
end Go.Am.Sl
end
