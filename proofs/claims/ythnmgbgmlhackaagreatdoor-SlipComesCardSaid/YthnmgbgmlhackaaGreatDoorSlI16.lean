/-
 What is used in the proof of a statement (part SlI16); no condition.
-/
import Derived.Test.YthnmgbgmlhackaaGreatDoorSlH
import Derived.Test.YthnmgbgmlhackaaGreatDoorSlI0
import Derived.Test.YthnmgbgmlhackaaGreatDoorSlI1
import Derived.Test.YthnmgbgmlhackaaGreatDoorSlI2
import Derived.Test.YthnmgbgmlhackaaGreatDoorSlI3
import Derived.Test.YthnmgbgmlhackaaGreatDoorSlI4
import Derived.Test.YthnmgbgmlhackaaGreatDoorSlI6
import Derived.Test.YthnmgbgmlhackaaGreatDoorSlI12
set_option linter.all false
set_option maxHeartbeats 40000000
set_option maxRecDepth 100000
section
namespace Go.Am.Sl
def sD (i to:Nat)(K:Nat→Bool):Nat→Bool:=fun a=>K a||decide (i≤a∧a<to)
def r5 (i to j:Nat)(A:Nat→Nat):Nat→Nat:=fun a=>if i<a∧a≤to then j+(a - i) else A a
def zV (i to j:Nat)(A:Nat→Nat):Nat→Nat:=fun a=>if i<a∧a≤to then j else A a
def Gj (c:aj):List ak→Nat→Nat→(Nat→Bool)→(Nat→Nat)→(Nat→Bool)×(Nat→Nat)
 |[],i,j,K,A=>(sD i c.t.length K,r5 i c.t.length j A)
 |s::r,i,j,K,A=>match aM c s with
  |some (_,i',w)=>Gj c r i' (j+(s.a.toNat - i)+w.length) (sD i s.a.toNat K) (zV s.a.toNat i' (j+(s.a.toNat - i)+w.length) (r5 i s.a.toNat j A))
  |none=>(K,A)
def kW (w:List ay)(x:Nat):Bool:=w.any (rZ x)
def aW (w:List ay)(x:Nat):Nat:=match w.find? (fun y=>decide (y.i<x∧x≤y.i')) with|some y=>y.j'|none=>0
theorem xf8 {c:aj}(hr:Rt c){a b a' b':Nat}{n:Int}{w:List ay}(h:Way (graph c) a b a' b' n w):a'=c.t.length→∀(i j:Nat) (K:Nat→Bool) (A:Nat→Nat),i≤a→j+(a - i)=b→∀x,
  (Gj c (fU w) i j K A).1 x=(K x||decide (i≤x∧x<a)||kW w x)∧(x≤c.t.length→(Gj c (fU w) i j K A).2 x=if i<x∧x≤a then j+(x - i) else if a<x then aW w x else A x):=by
 induction h with
 |nil a b=>
  rintro rfl i j K A hi hb x
  refine⟨by show sD i _ K x=_;unfold sD kW;simp,fun hx=>?_⟩
  show r5 i _ j A x=_
  unfold r5
  by_cases h1:i<x∧x≤c.t.length
  ·rw[if_pos h1,if_pos h1]
  rw[if_neg h1,if_neg h1,if_neg (by omega)]
 | @cons y hy a' b' n w h ih=>
  rintro h1 i j K A hi hb x
  obtain⟨oP,_,_⟩:=rQ hr hy
  rcases Nl hr oP with⟨e,mU,im,tf⟩|⟨s,m,i',ws,e,hs,hd,hh⟩
  ·obtain⟨dB,mN,uE⟩:y.i'=y.i+1∧y.j'=y.j+1∧y.s=none:=by rw[e];exact⟨rfl,rfl,rfl⟩
   have fP:fU (y::w)=fU w:=by unfold fU;rw[List.filterMap_cons,uE]
   rw[fP]
   obtain⟨g1,g2⟩:=ih h1 i j K A (by omega) (by omega) x
   refine⟨?_,fun hx=>?_⟩
   ·rw[g1]
    have:kW (y::w) x=(decide (y.i=x)||kW w x):=by unfold kW;rw[List.any_cons];unfold rZ;rw[uE];simp
    rw[this,dB,Bool.or_assoc,Bool.or_assoc,← Bool.or_assoc (decide (i≤x∧x<y.i))]
    congr 2
    rw[← Bool.decide_or]
    congr 1
    exact propext (by omega)
   rw[g2 hx,dB]
   have:aW (y::w) x=if y.i<x∧x≤y.i+1 then y.j+1 else aW w x:=by
    unfold aW;rw[List.find?_cons,dB]
    by_cases hc:y.i<x∧x≤y.i+1
    ·rw[if_pos hc];simp[hc,mN]
    rw[if_neg hc];simp[hc]
   rw[this]
   (repeat' split)<;>omega
  obtain⟨dB,mN,uE⟩:y.i'=i'∧y.j'=y.j+ws.length∧y.s=some s:=by rw[e];exact⟨rfl,rfl,rfl⟩
  obtain⟨f1,f2⟩:=Ci hs
  have fP:fU (y::w)=s::fU w:=by unfold fU;rw[List.filterMap_cons,uE]
  have ho:=iz hr oP
  have hle:=ho.wP
  rw[fP]
  unfold Gj
  rw[hd]
  simp only
  have e2:s.a.toNat=y.i:=by rw[f1];simp
  rw[e2,hb]
  obtain⟨g1,g2⟩:=ih h1 i' (y.j+ws.length) (sD i y.i K) (zV y.i i' (y.j+ws.length) (r5 i y.i j A)) (by omega) (by rw[dB,mN,Nat.sub_self];rfl) x
  refine⟨?_,fun hx=>?_⟩
  ·rw[g1]
   have:kW (y::w) x=kW w x:=by unfold kW;rw[List.any_cons];unfold rZ;rw[uE];simp
   rw[this,dB]
   unfold sD
   have:decide (i'≤x∧x<i')=false:=by rw[decide_eq_false_iff_not];omega
   rw[this,Bool.or_false]
  rw[g2 hx,dB,if_neg (by omega)]
  have:aW (y::w) x=if y.i<x∧x≤i' then y.j+ws.length else aW w x:=by
   unfold aW;rw[List.find?_cons,dB]
   by_cases hc:y.i<x∧x≤i'
   ·rw[if_pos hc];simp[hc,mN]
   rw[if_neg hc];simp[hc]
  rw[this]
  unfold zV r5
  rw[dB] at hle
  (repeat' split)<;>omega
def tG (c:aj)(l:List ak):(Nat→Bool)×(Nat→Nat):=Gj c l 0 0 (fun _=>false) (fun _=>0)
theorem NW {c:aj}(hr:Rt c)(x:Nat):(tG c (lH c)).1 x=kW (rR c) x∧(x≤c.t.length→(tG c (lH c)).2 x=if 0<x then aW (rR c) x else 0):=by
 obtain⟨h1,h2⟩:=xf8 hr (zc hr) rfl 0 0 (fun _=>false) (fun _=>0) (Nat.le_refl _) rfl x
 refine⟨by rw[show (tG c (lH c)).1 x=_ from h1];simp,fun hx=>?_⟩
 rw[show (tG c (lH c)).2 x=_ from h2 hx,if_neg (by omega)]
def x7 (i0:Int)(x:ay):Prop:=(x.i:Int)<i0∧i0≤(x.i':Int)
theorem Ym {i0:Int}:∀(L:List ay) (q:Int×Int),(L.foldl (kX i0) q).1≤q.1∧(∀x∈L,x7 i0 x→(L.foldl (kX i0) q).1≤(x.j':Int))∧((L.foldl (kX i0) q).1=q.1∨∃x∈L,x7 i0 x∧(L.foldl (kX i0) q).1=(x.j':Int))
 |[],q=>⟨Int.le_refl _,fun x hx=>(by cases hx),.inl rfl⟩
 |x::L,q=>by
  obtain⟨h1,h2,h3⟩:=Ym (i0:=i0) L (kX i0 q x)
  rw[List.foldl_cons]
  by_cases hc:x7 i0 x
  ·have e:(kX i0 q x).1=min q.1 (x.j':Int):=congrArg Prod.fst (if_pos hc)
   rw[e] at h1 h3
   refine⟨by omega,fun y hy r6=>?_,?_⟩
   ·rcases List.mem_cons.1 hy with rfl|hy
    ·omega
    exact h2 y hy r6
   rcases h3 with h3|⟨y,hy,r6,h3⟩
   ·rcases Int.le_total q.1 (x.j':Int) with h4|h4
    ·exact .inl (by omega)
    exact .inr ⟨x,List.mem_cons_self,hc,by omega⟩
   exact .inr ⟨y,List.mem_cons_of_mem _ hy,r6,h3⟩
  have e:kX i0 q x=q:=if_neg hc
  rw[e] at h1 h2 h3 ⊢
  refine⟨h1,fun y hy r6=>?_,?_⟩
  ·rcases List.mem_cons.1 hy with rfl|hy
   ·exact absurd r6 hc
   exact h2 y hy r6
  rcases h3 with h3|⟨y,hy,r6,h3⟩
  ·exact .inl h3
  exact .inr ⟨y,List.mem_cons_of_mem _ hy,r6,h3⟩
theorem Yn {i0:Int}:∀(L:List ay) (q:Int×Int),q.2≤(L.foldl (kX i0) q).2∧(∀x∈L,x7 i0 x→(x.j':Int)≤(L.foldl (kX i0) q).2)∧((L.foldl (kX i0) q).2=q.2∨∃x∈L,x7 i0 x∧(L.foldl (kX i0) q).2=(x.j':Int))
 |[],q=>⟨Int.le_refl _,fun x hx=>(by cases hx),.inl rfl⟩
 |x::L,q=>by
  obtain⟨h1,h2,h3⟩:=Yn (i0:=i0) L (kX i0 q x)
  rw[List.foldl_cons]
  by_cases hc:x7 i0 x
  ·have e:(kX i0 q x).2=max q.2 (x.j':Int):=congrArg Prod.snd (if_pos hc)
   rw[e] at h1 h3
   refine⟨by omega,fun y hy r6=>?_,?_⟩
   ·rcases List.mem_cons.1 hy with rfl|hy
    ·omega
    exact h2 y hy r6
   rcases h3 with h3|⟨y,hy,r6,h3⟩
   ·rcases Int.le_total q.2 (x.j':Int) with h4|h4
    ·exact .inr ⟨x,List.mem_cons_self,hc,by omega⟩
    exact .inl (by omega)
   exact .inr ⟨y,List.mem_cons_of_mem _ hy,r6,h3⟩
  have e:kX i0 q x=q:=if_neg hc
  rw[e] at h1 h2 h3 ⊢
  refine⟨h1,fun y hy r6=>?_,?_⟩
  ·rcases List.mem_cons.1 hy with rfl|hy
   ·exact absurd r6 hc
   exact h2 y hy r6
  rcases h3 with h3|⟨y,hy,r6,h3⟩
  ·exact .inl h3
  exact .inr ⟨y,List.mem_cons_of_mem _ hy,r6,h3⟩
theorem NX {c:aj}(hr:Rt c){k:Nat}(h0:0<k)(h1:k≤c.t.length):(∃x∈dS c,x7 k x∧(jv c k).1=(x.j':Int))∧(∃x∈dS c,x7 k x∧(jv c k).2=(x.j':Int))∧∀x∈dS c,x7 k x→(jv c k).1≤(x.j':Int)∧(x.j':Int)≤(jv c k).2:=by
 obtain⟨x,hx,h2,h3⟩:=KV (Ef hr) k (by omega) (by omega)
 have FZ:=(Ef hr).kr x hx
 have sU:x7 k x:=⟨by omega,by omega⟩
 obtain⟨a1,a2,a3⟩:=Ym (i0:=k) (dS c) ((c.c.length:Int),0)
 obtain⟨b1,b2,b3⟩:=Yn (i0:=k) (dS c) ((c.c.length:Int),0)
 have hj:=(Qw hr FZ).1.jt
 refine⟨?_,?_,fun y hy hc=>⟨a2 y hy hc,b2 y hy hc⟩⟩
 ·rcases a3 with a3|⟨y,hy,hc,a3⟩
  ·have:=a2 x FZ sU
   exact⟨x,FZ,sU,by unfold jv;simp only at a3;omega⟩
  exact⟨y,hy,hc,a3⟩
 rcases b3 with b3|⟨y,hy,hc,b3⟩
 ·have:=b2 x FZ sU
  exact⟨x,FZ,sU,by unfold jv;simp only at b3;omega⟩
 exact⟨y,hy,hc,b3⟩
theorem Yo {c:aj}(hr:Rt c){i j a b:Nat}{n:Int}{w:List ay}(h:Way (graph c) i j a b n w):j≤b∧∀y∈w,j≤y.j'∧y.j'≤b:=by
 induction h with
 |nil i j=>exact⟨Nat.le_refl _,fun y hy=>by cases hy⟩
 |cons x hx h ih=>
  have ho:=iz hr (rQ hr hx).1
  have h1:=ho.vL
  refine⟨by omega,fun y hy=>?_⟩
  rcases List.mem_cons.1 hy with rfl|hy
  ·exact⟨h1,ih.1⟩
  have:=ih.2 y hy;omega
theorem Yp {c:aj}(hr:Rt c){x:ay}(h:x∈dS c):∃w w2 n1 n2,Way (graph c) 0 0 x.i x.j n1 w∧Way (graph c) x.i' x.j' c.t.length c.c.length n2 w2∧(∀y∈w,y∈dS c)∧∀y∈w2,y∈dS c:=by
 obtain⟨hg,ht⟩:=List.mem_filter.1 h
 obtain⟨h1,h2,h3⟩:=rQ hr hg
 have ho:=iz hr h1
 obtain⟨w,hw⟩:=JZ hr h2 h3
 obtain⟨w2,cR⟩:=HM hr _ x.i' x.j' ho.it ho.jt (Nat.le_refl _)
 have:=hw.append (Way.cons x hg cR)
 unfold iH at ht
 rw[decide_eq_true_eq] at ht
 have e:aS c x.i x.j+(x.n+bwd c x.i' x.j')=eR c:=by unfold eR;omega
 rw[e] at this
 have bk:=J7 hr this
 exact⟨w,w2,_,_,hw,cR,fun y hy=>List.mem_filter.2 ⟨hw.kr y hy,bk y (List.mem_append_left _ hy)⟩,fun y hy=>List.mem_filter.2 ⟨cR.kr y hy,bk y (List.mem_append_right _ (List.mem_cons_of_mem _ hy))⟩⟩
theorem xe7 {c:aj}(hr:Rt c){k:Nat}(h0:0<k)(h1:k+1≤c.t.length):(jv c k).1≤(jv c (k+1:Nat)).1∧(jv c k).2≤(jv c (k+1:Nat)).2:=by
 obtain⟨_,⟨y,hy,r6,ey⟩,hk⟩:=NX hr h0 (by omega)
 obtain⟨⟨x,hx,hcx,ex⟩,_,mU⟩:=NX hr (show 0<k+1 by omega) h1
 constructor
 ·rw[ex]
  unfold x7 at hcx
  by_cases hc:x.i<k
  ·exact(hk x hx ⟨by omega,by omega⟩).1
  have e:x.i=k:=by omega
  obtain⟨w,_,n1,_,hw,_,By,_⟩:=Yp hr hx
  obtain⟨z,hz,nk,uG⟩:=KV hw k h0 (by omega)
  have h2:=(Yo hr hw).2 z hz
  have h3:=(hk z (By z hz) ⟨by omega,by omega⟩).1
  have h4:=(Qw hr hx).1.vL
  omega
 rw[ey]
 unfold x7 at r6
 by_cases hc:k+1≤y.i'
 ·exact(mU y hy ⟨by omega,by omega⟩).2
 have e:y.i'=k:=by omega
 obtain⟨_,w2,_,n2,_,cR,_,By⟩:=Yp hr hy
 obtain⟨z,hz,nk,uG⟩:=KV cR (k+1) (by omega) (by omega)
 have h2:=(Yo hr cR).2 z hz
 have h3:=(mU z (By z hz) ⟨by omega,by omega⟩).2
 omega
theorem xik {c:aj}(hr:Rt c){k:Nat}(h0:0<k)(h1:k≤c.t.length):(jv c k).1≤((tG c (lH c)).2 k:Int)∧((tG c (lH c)).2 k:Int)≤(jv c k).2:=by
 rw[(NW hr k).2 h1,if_pos h0]
 obtain⟨x,hx,h2,h3⟩:=KV (Ef hr) k (by omega) (by omega)
 unfold aW
 cases hf:(rR c).find? fun y=>decide (y.i<k∧k≤y.i') with
 |none=>exact absurd (List.find?_eq_none.1 hf x hx) (by simp;omega)
 |some y=>
  have hy:=List.mem_of_find?_eq_some hf
  have hc:=List.find?_some hf
  rw[decide_eq_true_eq] at hc
  exact(NX hr h0 h1).2.2 y ((Ef hr).kr y hy) ⟨by omega,by omega⟩
theorem z0e {c:aj}(hr:Rt c){i:Nat}(h:ud c i=true∧xY c i=true):(tG c (lH c)).1 i=true:=by
 rw[(NW hr i).1]
 refine Decidable.byContradiction fun hn=>?_
 have hw:=Ef hr
 have h1:Way ((dS c).filter fun x=>!rZ i x) 0 0 c.t.length c.c.length (eR c) (rR c):=hw.mono fun x hx=>List.mem_filter.2 ⟨hw.kr x hx,by
  cases hk:rZ i x with
  |false=>rfl
  |true=>exact absurd (List.any_eq_true.2 ⟨x,hx,hk⟩) hn⟩
 have h2:=(NY hr (((Sub.graph c).filter _).filter _)).2 ⟨_,_,h1⟩
 have h3:=h.2
 rw[Yd hr i,decide_eq_true_eq] at h3
 unfold dS at h3 
 exact absurd h2 (by omega)
theorem z2r {c:aj}(hr:Rt c){i:Nat}(h:(tG c (lH c)).1 i=true):ud c i=true:=by
 rw[(NW hr i).1] at h
 obtain⟨x,hx,hk⟩:=List.any_eq_true.1 h
 rw[Yc]
 exact List.any_eq_true.2 ⟨x,(Ef hr).kr x hx,hk⟩
theorem Yq {c:aj}:∀ {k:Nat} {z:Int},z∈pI c k↔∃i:Nat,i<k∧z=i∧ud c i=true
 |0,z=>by simp[pI]
 |k+1,z=>by
  unfold pI
  rw[List.mem_append,Yq]
  constructor
  ·rintro (⟨i,h1,h2,h3⟩|h)
   ·exact⟨i,by omega,h2,h3⟩
   split at h
   ·rename_i hk;exact⟨k,by omega,by simpa using h,hk⟩
   cases h
  rintro⟨i,h1,h2,h3⟩
  by_cases hi:i<k
  ·exact .inl ⟨i,hi,h2,h3⟩
  obtain rfl:i=k:=by omega
  exact .inr (by rw[if_pos h3,h2];simp)
theorem Yr {c:aj}:∀ {k:Nat} {z:Int},z∈o0 c k↔∃i:Nat,i<k∧z=i∧ud c i=true∧xY c i=true
 |0,z=>by simp[o0]
 |k+1,z=>by
  unfold o0
  rw[List.mem_append,Yr]
  constructor
  ·rintro (⟨i,h1,h2,h3⟩|h)
   ·exact⟨i,by omega,h2,h3⟩
   split at h
   ·rename_i hk;exact⟨k,by omega,by simpa using h,hk⟩
   cases h
  rintro⟨i,h1,h2,h3⟩
  by_cases hi:i<k
  ·exact .inl ⟨i,hi,h2,h3⟩
  obtain rfl:i=k:=by omega
  exact .inr (by rw[if_pos h3,h2];simp)
open Go Go.Am Go.Proofs Tryz
attribute [local simp] de fQ lz dz dN jD af.back b6 dG iO bm Nat.testBit_eq_decide_div_mod_eq ct gf jB vO kN dX kO gE cJ jR jQ kK dY kL j9 jq ly j8 kM kF kC kG kD kE kH kI jM di ig dd kP jS ka kQ kR jL ls lu dW jC dy dx dA iL dK jY jO jP gX kz a7 j7 dw bA bC ja af.get af.alloc af.put af.drop af.empty bq cg gd gR fe cp chunk List.range List.range.loop iP lA jr bI bG PV.aD PV.az PV.b8 PV.dv eu dZ kc PV.one PV.ids PV.bT fJ beq_eq lQ l9
attribute [local simp] cQ bQ cw jU lD jE jN jc ef dD
attribute [local simp ↓ high] mG ma
def qM (m:Nat)(A:Nat→Nat):List PV:=(List.range m).map fun (i:Nat)=>PV.int .i64 (A i:Nat)
@[simp] theorem xbl (n:Nat)(F:Nat→Nat):(qM n F).length=n:=by simp[qM,-List.range,-List.range.loop]
@[simp] theorem xkr (n:Nat)(F:Nat→Nat):(qM n F).all PV.one=true:=by simp[qM,PV.one]
theorem NZ (n:Nat)(F:Nat→Nat)(i:Nat)(h:i<n):(qM n F)[i]?=some (PV.int .i64 (F i:Nat)):=by
 simp[qM,h,-List.range,-List.range.loop]
theorem xac (n:Nat):List.replicate n (PV.int .i64 0)=qM n fun _=>0:=by
 simp[qM,List.map_const',-List.range,-List.range.loop]
theorem Ys (n:Nat)(F:Nat→Nat)(i v:Nat)(h:i<n):(qM n F).take i++PV.int .i64 (v:Nat)::(qM n F).drop (i+1)=qM n (fun j=>if j=i then v else F j):=by
 refine List.ext_getElem? fun j=>?_
 by_cases hj:j<n
 ·rw[NZ n _ j hj,List.getElem?_append]
  simp only[List.length_take,xbl,Nat.min_eq_left (Nat.le_of_lt h)]
  by_cases h1:j<i
  ·rw[if_pos h1,List.getElem?_take_of_lt h1,NZ n _ j hj]
   simp[show ¬j=i by omega]
  rw[if_neg h1]
  by_cases h2:j=i
  ·subst h2;simp
  rw[show j - i=(j - i - 1)+1 by omega,List.getElem?_cons_succ,List.getElem?_drop,show i+1+(j - i - 1)=j by omega,NZ n _ j hj]
  simp[h2]
 rw[List.getElem?_eq_none (by simp;omega),List.getElem?_eq_none (by simp;omega)]
theorem xkd (i:Nat)(K:Nat→Bool):sD i i K=K:=by
 funext a
 unfold sD
 rw[decide_eq_false (by omega),Bool.or_false]
theorem z6a {i i':Nat}(h:i≤i')(K:Nat→Bool):(fun j=>sD i i' K j||decide (i'=j))=sD i (i'+1) K:=by
 funext a
 unfold sD
 rw[Bool.or_assoc,← Bool.decide_or]
 congr 2
 exact propext (by omega)
theorem xmw (i j:Nat)(A:Nat→Nat):r5 i i j A=A:=by
 funext a
 unfold r5
 rw[if_neg (by omega)]
theorem z7w {i i':Nat}(h:i≤i')(j:Nat)(A:Nat→Nat):(fun a=>if a=i'+1 then j+(i'+1 - i) else r5 i i' j A a)=r5 i (i'+1) j A:=by
 funext a
 unfold r5
 (repeat' split)<;>omega
theorem xk9 (i j:Nat)(A:Nat→Nat):zV i i j A=A:=by
 funext a
 unfold zV
 rw[if_neg (by omega)]
theorem z6j {i i':Nat}(h:i≤i')(j:Nat)(A:Nat→Nat):(fun a=>if a=i'+1 then j else zV i i' j A a)=zV i (i'+1) j A:=by
 funext a
 unfold zV
 (repeat' split)<;>omega
structure CI (c:aj) (l:List ak) (k i j:Nat) (K:Nat→Bool) (A:Nat→Nat):Prop where
  hk:k≤l.length
  hi:i≤c.t.length
  hj:j≤200*k
  ch:rU c i (l.drop k)
  hg:Gj c (l.drop k) i j K A=tG c l
theorem CI.start {c:aj}{l:List ak}(h:rU c 0 l):CI c l 0 0 0 (fun _=>false) (fun _=>0):=⟨Nat.zero_le _,Nat.zero_le _,Nat.zero_le _,h,rfl⟩
def H4 (c:aj)(l:List ak)(k:Nat):Nat:=match l[k]? with|some s=>s.a.toNat|none=>c.t.length
theorem CI.last {c:aj}{l:List ak}{i j:Nat}{K:Nat→Bool}{A:Nat→Nat}(h:CI c l l.length i j K A):tG c l=(sD i c.t.length K,r5 i c.t.length j A):=by
 rw[← h.hg,List.drop_length];rfl
theorem CI.Gk {c:aj}(hr:Rt c){l:List ak}{k i j:Nat}{K:Nat→Bool}{A:Nat→Nat}(h:CI c l k i j K A){s:ak}(hs:l[k]?=some s) :
  (i:Int)≤s.a∧s.a≤(c.t.length:Int)∧∃n i' w,aM c s=some (n,i',w)∧CI c l (k+1) i' (j+(s.a.toNat - i)+w.length) (sD i s.a.toNat K) (zV s.a.toNat i' (j+(s.a.toNat - i)+w.length) (r5 i s.a.toNat j A)):=by
 obtain⟨hk,rfl⟩:=List.getElem?_eq_some_iff.1 hs
 have h1:=h.ch
 have h2:=h.hg
 rw[List.drop_eq_getElem_cons hk] at h1 h2
 obtain⟨g1,g2,n,i',w,hd,g3⟩:=h1
 have r7:=nI hr hd
 have BH:=h.hj
 have:=hr.tl
 refine⟨g1,g2,n,i',w,hd,hk,r7.2.2.2.1,by omega,g3,?_⟩
 rw[← h2]
 conv=>rhs;unfold Gj
 rw[hd]
theorem z3e {c:aj}{s:ak}{n:Int}{i':Nat}{w:List Int}(h:aM c s=some (n,i',w)) :
  (s.k=1∧i'=s.a.toNat+1∧w.length=1)∨(s.k=2∧i'=s.a.toNat+1∧w.length=0)∨(s.k=3∧1≤s.l∧i'=s.a.toNat+s.l.toNat∧w.length=0)∨
  (s.k=4∧1≤s.l∧i'=s.a.toNat∧w.length=s.l.toNat)∨(s.k=5∧0≤s.l∧s.l<(c.g.length:Int)∧i'=s.a.toNat∧∃g,c.g[s.l.toNat]?=some g∧g.ws=w)∨(s.k=6∧i'=s.a.toNat∧w.length=1):=by
 unfold aM at h
 split at h
 ·rename_i dC
  simp only at h
  split at h
  ·rename_i hk
   split at h
   ·obtain⟨m,_,he⟩:=Option.map_eq_some_iff.1 h
    injection he with e1 e2;injection e2 with e2 e3
    subst e2;subst e3
    exact .inl ⟨hk,rfl,rfl⟩
   cases h
  split at h
  ·rename_i hk
   split at h
   ·injection h with he;injection he with e1 e2;injection e2 with e2 e3
    subst e2;subst e3
    exact .inr (.inl ⟨hk,rfl,rfl⟩)
   cases h
  split at h
  ·rename_i hk
   split at h
   ·rename_i hc
    injection h with he;injection he with e1 e2;injection e2 with e2 e3
    subst e2;subst e3
    exact .inr (.inr (.inl ⟨hk,hc.2.1,rfl,rfl⟩))
   cases h
  split at h
  ·rename_i hk
   split at h
   ·rename_i hc
    injection h with he;injection he with e1 e2;injection e2 with e2 e3
    subst e2;subst e3
    refine .inr (.inr (.inr (.inl ⟨hk,hc.1,rfl,?_⟩)))
    rw[List.length_take,List.length_drop]
    omega
   cases h
  split at h
  ·rename_i hk
   split at h
   ·rename_i hc
    injection h with he;injection he with e1 e2;injection e2 with e2 e3
    subst e2;subst e3
    have hl:s.l.toNat<c.g.length:=by omega
    refine .inr (.inr (.inr (.inr (.inl ⟨hk,hc.1,by omega,rfl,c.g[s.l.toNat],List.getElem?_eq_getElem hl,?_⟩))))
    rw[List.getD_eq_getElem?_getD,List.getElem?_eq_getElem hl];rfl
   cases h
  split at h
  ·rename_i hk
   split at h
   ·injection h with he;injection he with e1 e2;injection e2 with e2 e3
    subst e2;subst e3
    exact .inr (.inr (.inr (.inr (.inr ⟨hk,rfl,rfl⟩))))
   cases h
  cases h
 cases h
theorem z9v {c:aj}{k:Nat}{g:pw}(h:c.g[k]?=some g):(c.g.map cy)[k]?=some (.agg [.int .i64 g.at_,ints g.ws]):=by rw[List.getElem?_map,h];rfl
variable [bE] in
theorem p23 (c:aj)(l:List ak)(hk:aN c=0)(kB:rU c 0 l)(da:l.length≤200):aI prog 23 [aA c,.vec (l.map encS)] fun r=>r=.bz [.vec (ev c.t.length (tG c l).1),.vec (qM (c.t.length+1) (tG c l).2)]:=by
 have aP:=fC hk
 have nY:=aP.tl
 have QW:c.t.length≤4294967296:=by omega
 have QX:(c.t.length:Int)≤4294967296:=by omega
 have yaI:(c.t.length:Int)+1≤4294967296:=by omega
 have yaJ:(0:Int)≤(c.t.length:Int)+1:=by omega
 have hC:cu c=(cQ c):=rfl
 have hE:∀s:ak,encS s=.agg [.int .i64 s.k,.int .i64 s.a,.int .i64 s.i,.int .i64 s.l,.int .i64 s.w]:=fun _=>rfl
 have xB:IntKind.i64.wrap ((c.t.length:Int)+1)=(c.t.length:Int)+1:=wrap64 (by omega) (by omega)
 have iA:=WV c.t.length
 have pE:=xac (c.t.length+1)
 have wS:=CI.start kB
 unfold aA
 rw[hC]
 refine .bJ func23 rfl rfl ?_
 refine .sr ?_
 refine .sr ?_
 refine .sr ?_
 refine .sr ?_
 refine .sr ?_
 refine .seq (.sr ?_)
 refine .block ?_
 refine .cZ (fun z:Nat×Nat×Nat×(Nat→Bool)×(Nat→Nat)=>([(1,.vec (l.map encS)),(2,.ptr 0 0),(6,.own 1 0 c.t.length c.t.length),(7,.own 2 0 (c.t.length+1) (c.t.length+1)),(8,.int .i64 (z.2.1:Nat)),(9,.int .i64 (z.2.2.1:Nat)),(10,.int .i64 (z.1:Nat))],⟨3,[(2,.arr false 1 (qM (c.t.length+1) (z.2.2.2.2))),(1,.arr false 1 (ev c.t.length (z.2.2.2.1))),(0,.box (cQ c))]⟩)) (fun z=>CI c l z.1 z.2.1 z.2.2.1 z.2.2.2.1 z.2.2.2.2) (fun z=>l.length+1 - z.1) (0,0,0,(fun _=>false),(fun _=>0)) wS aX ?_
 clear wS iA pE kB
 rintro⟨k,i,j,K,A⟩ hI
 simp only at hI ⊢
 have ee:=hI.hk
 have cE:=hI.hi
 have eV:=hI.hj
 refine .seq (.sr ?_)
 refine .cs ?_ ?_<;>intro gx
 ·try simp at gx
  have hto:∃to:Nat,i≤to∧to≤c.t.length∧H4 c l k=to:=by
   unfold H4
   cases hs:l[k]? with
   |none=>exact⟨_,cE,Nat.le_refl _,rfl⟩
   |some s=>
    obtain⟨g1,g2,_⟩:=hI.Gk aP hs
    exact⟨s.a.toNat,by omega,by omega,rfl⟩
  obtain⟨to,uL,qm,uM⟩:=hto
  refine .skip (.seq (.block (.sr ?_)))
  refine .join (fun _:Unit=>([(1,.vec (l.map encS)),(2,.ptr 0 0),(6,.own 1 0 c.t.length c.t.length),(7,.own 2 0 (c.t.length+1) (c.t.length+1)),(8,.int .i64 (i:Nat)),(9,.int .i64 (j:Nat)),(10,.int .i64 (k:Nat)),(11,.int .i64 (to:Nat))],⟨3,[(2,.arr false 1 (qM (c.t.length+1) (A))),(1,.arr false 1 (ev c.t.length (K))),(0,.box (cQ c))]⟩)) (fun _=>True) ?_ ?_
  ·skip
   refine .sr ?_
   refine .cs ?_ ?_<;>intro oa
   ·try simp at oa
    obtain⟨s,hs⟩:∃s,l[k]?=some s:=⟨_,List.getElem?_eq_getElem (by omega)⟩
    obtain⟨fP,D7⟩:=List.getElem?_eq_some_iff.1 hs
    have Sv:s.a=(to:Int):=by
     have h2:=(hI.Gk aP hs).1
     unfold H4 at uM
     rw[hs] at uM
     simp only at uM
     omega
    refine .rn ?_
    exact⟨(),trivial,aX⟩
   try simp at oa
   have Gm:to=c.t.length:=by
    unfold H4 at uM
    rw[List.getElem?_eq_none (by omega)] at uM
    exact uM.symm
   refine .skip ?_
   exact⟨(),trivial,by rw[Gm];exact aX⟩
  skip
  rintro _ _
  simp only
  refine .join (fun _:Unit=>([(1,.vec (l.map encS)),(2,.ptr 0 0),(6,.own 1 0 c.t.length c.t.length),(7,.own 2 0 (c.t.length+1) (c.t.length+1)),(8,.int .i64 (to:Nat)),(9,.int .i64 (j+(to - i):Nat)),(10,.int .i64 (k:Nat))],⟨3,[(2,.arr false 1 (qM (c.t.length+1) (r5 i to j A))),(1,.arr false 1 (ev c.t.length (sD i to K))),(0,.box (cQ c))]⟩)) (fun _=>True) ?_ ?_
  ·skip
   refine .block ?_
   refine .cZ (fun m:Nat=>([(1,.vec (l.map encS)),(2,.ptr 0 0),(6,.own 1 0 c.t.length c.t.length),(7,.own 2 0 (c.t.length+1) (c.t.length+1)),(8,.int .i64 (m:Nat)),(9,.int .i64 (j+(m - i):Nat)),(10,.int .i64 (k:Nat)),(11,.int .i64 (to:Nat))],⟨3,[(2,.arr false 1 (qM (c.t.length+1) (r5 i m j A))),(1,.arr false 1 (ev c.t.length (sD i m K))),(0,.box (cQ c))]⟩)) (fun m=>i≤m∧m≤to) (fun m=>to - m) i ⟨Nat.le_refl _,uL⟩ (by rw[xkd,xmw,Nat.sub_self,Nat.add_zero];exact aX) ?_
   rintro m ⟨b7,gW⟩
   simp only at b7 gW ⊢
   obtain⟨b0,oY⟩:∃b,decide (m<to)=b:=⟨_,rfl⟩
   obtain⟨b1,eM⟩:∃b,decide (m<c.t.length)=b:=⟨_,rfl⟩
   obtain⟨q,hq⟩:∃q,j+(m - i)=q:=⟨_,rfl⟩
   rw[hq]
   have Sw:j+(m+1 - i)=q+1:=by omega
   refine .seq (.seq (.ar oT rfl ae (.rn dQ _ ?_)))
   refine .split (t:=43) rfl (fun A9=>?_) (fun A9=>?_)
   ·try subst A9
    try simp at A9
    refine .rn [4,5,6,7,8] [] ?_
    refine .done ?_
    refine .cs ?_ ?_<;>intro fV
    ·try simp at fV
     have xj:m<to:=of_decide_eq_true oY
     obtain⟨m1,zW⟩:∃x,m+1=x:=⟨_,rfl⟩
     obtain⟨q1,KT⟩:∃x,q+1=x:=⟨_,rfl⟩
     have cR:IntKind.i64.wrap ((m:Int)+1)=(m1:Int):=by rw[wrap64 (by omega) (by omega)];omega
     have sh:IntKind.i64.wrap ((q:Int)+1)=(q1:Int):=by rw[wrap64 (by omega) (by omega)];omega
     have hmc:m<c.t.length:=by omega
     have yaK:m+1≤c.t.length:=by omega
     have Sx:m1+1≤c.t.length+1:=by omega
     have Sy:m1≤c.t.length:=by omega
     have Sz:(m1:Int)<(c.t.length:Int)+1:=by omega
     have qu:=WW c.t.length (sD i m K) m hmc
     have ra:=Ys (c.t.length+1) (r5 i m j A) (m+1) (q+1) (by omega)
     rw[z6a b7,zW] at qu
     rw[← Sw,z7w b7,Sw,zW,KT] at ra
     rw[zW] at Sw
     refine .skip (.block (.sr ?_))
     refine .sr ?_
     refine .sr ?_
     refine .rn ?_
     refine⟨m1,⟨by omega,by omega⟩,by omega,?_⟩
     rw[show j+(m1 - i)=q1 by omega]
     exact aX
    try simp at fV
    have xj:m=to:=by
     have h1:=of_decide_eq_true oY
     rw[fV] at eM
     have h2:=of_decide_eq_false eM
     omega
    refine .exit ?_
    refine⟨(),trivial,?_⟩
    subst xj
    rw[hq]
    exact aX
   try subst A9
   try simp at A9
   have xj:m=to:=by
    have h1:=of_decide_eq_false oY
    omega
   refine .rn [4,5,6,7,8] [] ?_
   refine .done (.gI rfl (.exit ?_))
   refine⟨(),trivial,?_⟩
   subst xj
   rw[hq]
   exact aX
  skip
  rintro _ _
  simp only
  obtain⟨jj,BH⟩:∃q,j+(to - i)=q:=⟨_,rfl⟩
  rw[BH]
  refine .seq (.sr ?_)
  refine .cs ?_ ?_<;>intro iS
  ·try simp at iS
   obtain rfl:k=l.length:=by omega
   have Gm:to=c.t.length:=by
    unfold H4 at uM
    rw[List.getElem?_eq_none (by omega)] at uM
    exact uM.symm
   subst Gm
   have hO:=hI.last
   have uz:∀F,(bif decide (c.t=[]) then some (PV.vec []) else some (PV.vec (List.take c.t.length (ev c.t.length F))))=some (PV.vec (ev c.t.length F)):=fun F=>by
    by_cases h:c.t=[]
    ·rw[h];rfl
    rw[decide_eq_false h,bx,List.take_of_length_le (by simp)]
   have SA:∀F,List.take (c.t.length+1) (qM (c.t.length+1) F)=qM (c.t.length+1) F:=fun F=>List.take_of_length_le (by simp)
   refine .exit (.sr ?_)
   refine .ret ?_
   refine⟨_,_,jF,(by simp[uz,SA]<;>rfl),?_⟩
   rw[hO]
  try simp at iS
  have dm:k<l.length:=by omega
  obtain⟨s,hs⟩:∃s,l[k]?=some s:=⟨_,List.getElem?_eq_getElem dm⟩
  obtain⟨fP,D7⟩:=List.getElem?_eq_some_iff.1 hs
  obtain⟨g1,g2,n,i',w,hd,hN⟩:=hI.Gk aP hs
  have Sv:s.a.toNat=to:=by
   unfold H4 at uM
   rw[hs] at uM
   exact uM
  have gZ:=nI aP hd
  have yM:=z3e hd
  rw[Sv] at hN yM gZ
  rw[BH] at hN
  have hNj:=hN.hj
  have hNi:=hN.hi
  have EH:to≤i':=gZ.2.2.1
  have qV:w.length≤48:=gZ.2.2.2.2.2
  obtain⟨W,hW⟩:∃x,w.length=x:=⟨_,rfl⟩
  rw[hW] at hN yM hNj qV
  obtain⟨sk,sa,si,sl,sw⟩:=s
  simp only at yM Sv g1 g2
  have qA:IntKind.i64.wrap ((to:Int)+1)=((to+1:Nat):Int):=by rw[wrap64 (by omega) (by omega)];omega
  have Xi:IntKind.i64.wrap ((jj:Int)+1)=((jj+1:Nat):Int):=by rw[wrap64 (by omega) (by omega)];omega
  obtain⟨e1,jV⟩:∃b,(sk==1)=b:=⟨_,rfl⟩
  obtain⟨e2,AV⟩:∃b,(sk==2)=b:=⟨_,rfl⟩
  obtain⟨e3,Yt⟩:∃b,(sk==3)=b:=⟨_,rfl⟩
  obtain⟨e4,Yu⟩:∃b,(sk==4)=b:=⟨_,rfl⟩
  obtain⟨e5,Yv⟩:∃b,(sk==5)=b:=⟨_,rfl⟩
  obtain⟨e6,Yw⟩:∃b,(sk==6)=b:=⟨_,rfl⟩
  obtain⟨f1,uQ⟩:∃b,decide (0≤sl)=b:=⟨_,rfl⟩
  obtain⟨f2,w9⟩:∃b,decide (sl<(c.g.length:Int))=b:=⟨_,rfl⟩
  refine .skip (.sr ?_)
  refine .join (fun _:Unit=>([(1,.vec (l.map encS)),(2,.ptr 0 0),(6,.own 1 0 c.t.length c.t.length),(7,.own 2 0 (c.t.length+1) (c.t.length+1)),(8,.int .i64 (to:Nat)),(9,.int .i64 (jj+W:Nat)),(10,.int .i64 (k:Nat)),(12,.int .i64 (i':Nat))],⟨3,[(2,.arr false 1 (qM (c.t.length+1) (r5 i to j A))),(1,.arr false 1 (ev c.t.length (sD i to K))),(0,.box (cQ c))]⟩)) (fun _=>True) ?_ ?_
  ·skip
   refine .sr ?_
   refine .block (.sr ?_)
   refine .cs ?_ ?_<;>intro iT
   ·try simp at iT
    have hc:i'=to+1∧W=1:=by rw[iT,beq_iff_eq] at jV;omega
    obtain⟨rfl,rfl⟩:=hc
    refine .sr ?_
    refine .rn ?_
    exact⟨(),trivial,aX⟩
   try simp at iT
   refine .sr ?_
   refine .cs ?_ ?_<;>intro SB
   ·try simp at SB
    have hc:i'=to+1∧W=0:=by rw[SB,beq_iff_eq] at AV;omega
    obtain⟨rfl,rfl⟩:=hc
    refine .rn ?_
    exact⟨(),trivial,aX⟩
   try simp at SB
   refine .sr ?_
   refine .cs ?_ ?_<;>intro qy
   ·try simp at qy
    have hc:1≤sl∧i'=to+sl.toNat∧W=0:=by rw[qy,beq_iff_eq] at Yt;omega
    obtain⟨yp,jI,rfl⟩:=hc
    have Yx:IntKind.i64.wrap ((to:Int)+sl)=(i':Int):=by rw[wrap64 (by omega) (by omega)];omega
    refine .rn ?_
    exact⟨(),trivial,aX⟩
   try simp at qy
   refine .sr ?_
   refine .cs ?_ ?_<;>intro vf
   ·try simp at vf
    have hc:1≤sl∧i'=to∧W=sl.toNat:=by rw[vf,beq_iff_eq] at Yu;omega
    obtain⟨yp,rfl,jI⟩:=hc
    have Yx:IntKind.i64.wrap ((jj:Int)+sl)=((jj+W:Nat):Int):=by rw[wrap64 (by omega) (by omega)];omega
    refine .rn ?_
    exact⟨(),trivial,aX⟩
   try simp at vf
   refine .sr ?_
   refine .cs ?_ ?_<;>intro vi
   ·try simp at vi
    have hc:0≤sl∧sl<(c.g.length:Int)∧i'=to∧∃g,c.g[sl.toNat]?=some g∧g.ws=w:=by
     rw[vi,beq_iff_eq] at Yv
     rcases yM with h|h|h|h|h|h
     ·omega
     ·omega
     ·omega
     ·omega
     ·exact⟨h.2.1,h.2.2.1,h.2.2.2.1,h.2.2.2.2⟩
     omega
    obtain⟨yp,jI,rfl,g,hg,hgw⟩:=hc
    obtain⟨sn,rfl⟩:∃m:Nat,sl=m:=⟨sl.toNat,by omega⟩
    rw[Int.toNat_natCast] at hg
    have VD:=z9v hg
    have tX:g.ws.length=W:=by rw[hgw];exact hW
    obtain⟨glt,SC⟩:=List.getElem?_eq_some_iff.1 hg
    have Yx:IntKind.i64.wrap ((jj:Int)+(W:Int))=((jj+W:Nat):Int):=by rw[wrap64 (by omega) (by omega)];omega
    refine .seq ?_
    refine .drawn (ms:=[0,0,3,7,15,31,63,127,127,511,1023,2047,127,4223,12415,32767,65535]) (W:=[]) (items:=[.op 0,.op 1,.op 2,.op 3,.op 4,.op 5,.op 6,.op 7,.op 8,.op 9,.op 10,.op 11,.op 12,.op 13,.op 14,.op 15,.op 16]) rfl ae ae ae ?_
    iterate 7 refine .rx ?_
    refine .split (t:=106) rfl (fun pN=>?_) (fun pN=>?_)
    ·try subst pN
     try simp at pN
     iterate 10 refine .rx ?_
     refine .done ?_
     refine .cs ?_ ?_<;>intro te
     ·try simp at te
      refine .drawn (ms:=[0,0,2,0,0,24,56,120,254,510,1022,2046,4095,8191]) (W:=[]) (items:=xO) rfl ae ae ae ?_
      iterate 14 refine .rx ?_
      refine .done ?_
      exact⟨(),trivial,aX⟩
     try simp at te
    try subst pN
    try simp at pN
   try simp at vi
   refine .sr ?_
   refine .cs ?_ ?_<;>intro mi
   ·try simp at mi
    have hc:i'=to∧W=1:=by rw[mi,beq_iff_eq] at Yw;omega
    obtain⟨rfl,rfl⟩:=hc
    refine .rn ?_
    exact⟨(),trivial,aX⟩
   try simp at mi
   exfalso;simp[← jV,← AV,← Yt,← Yu,← Yv,← Yw] at *;omega
  skip
  rintro _ _
  simp only
  refine .block ?_
  refine .cZ (fun m:Nat=>([(1,.vec (l.map encS)),(2,.ptr 0 0),(6,.own 1 0 c.t.length c.t.length),(7,.own 2 0 (c.t.length+1) (c.t.length+1)),(8,.int .i64 (m:Nat)),(9,.int .i64 (jj+W:Nat)),(10,.int .i64 (k:Nat)),(12,.int .i64 (i':Nat))],⟨3,[(2,.arr false 1 (qM (c.t.length+1) (zV to m (jj+W) (r5 i to j A)))),(1,.arr false 1 (ev c.t.length (sD i to K))),(0,.box (cQ c))]⟩)) (fun m=>to≤m∧m≤i') (fun m=>i' - m) to ⟨Nat.le_refl _,EH⟩ (by rw[xk9];exact aX) ?_
  rintro m ⟨b7,gW⟩
  simp only at b7 gW ⊢
  obtain⟨b0,oY⟩:∃b,decide (m<i')=b:=⟨_,rfl⟩
  obtain⟨b1,eM⟩:∃b,decide (m<c.t.length)=b:=⟨_,rfl⟩
  obtain⟨q,hq⟩:∃q,jj+W=q:=⟨_,rfl⟩
  rw[hq] at hN ⊢
  have hw8:IntKind.i64.wrap ((k:Int)+1)=((k+1:Nat):Int):=by rw[wrap64 (by omega) (by omega)];omega
  refine .seq (.seq (.ar oT rfl ae (.rn dQ _ ?_)))
  refine .split (t:=137) rfl (fun pS=>?_) (fun pS=>?_)
  ·try subst pS
   try simp at pS
   refine .rn [4,5,6,7,8] [] ?_
   refine .done ?_
   refine .cs ?_ ?_<;>intro xm
   ·try simp at xm
    have xj:m<i':=of_decide_eq_true oY
    obtain⟨m1,zW⟩:∃x,m+1=x:=⟨_,rfl⟩
    have cR:IntKind.i64.wrap ((m:Int)+1)=(m1:Int):=by rw[wrap64 (by omega) (by omega)];omega
    have Sx:m1+1≤c.t.length+1:=by omega
    have Sy:m1≤c.t.length:=by omega
    have Sz:(m1:Int)<(c.t.length:Int)+1:=by omega
    have ra:=Ys (c.t.length+1) (zV to m q (r5 i to j A)) (m+1) q (by omega)
    rw[z6j b7,zW] at ra
    refine .skip (.block (.sr ?_))
    refine .rn ?_
    exact⟨m1,⟨by omega,by omega⟩,by omega,aX⟩
   try simp at xm
   have xj:m=i':=by
    have h1:=of_decide_eq_true oY
    rw[xm] at eM
    have h2:=of_decide_eq_false eM
    omega
   subst xj
   refine .exit (.rn ?_)
   exact⟨(k+1,m,q,_,_),hN,by simp only;omega,aX⟩
  try subst pS
  try simp at pS
  have xj:m=i':=by
   have h1:=of_decide_eq_false oY
   omega
  subst xj
  refine .rn [4,5,6,7,8] [] ?_
  refine .done (.gI rfl (.exit (.rn ?_)))
  exact⟨(k+1,m,q,_,_),hN,by simp only;omega,aX⟩
 try simp at gx
def nB (c:aj)(i:Nat):Int×Int:=if i=0 then (0,0) else jv c i
theorem z5g {c:aj}(hk:aN c=0){i:Nat}(h:i≤c.t.length):ij c i=(nB c i,0):=by
 unfold ij nB
 rw[if_neg (by simp[hk]),if_neg (by simp;omega)]
 by_cases h0:i=0
 ·subst h0;rfl
 rw[if_neg (by omega),if_neg h0]
theorem xfa {c:aj}(hr:Rt c){k:Nat}(h1:k≤c.t.length):(nB c k).1≤((tG c (lH c)).2 k:Int)∧((tG c (lH c)).2 k:Int)≤(nB c k).2:=by
 unfold nB
 by_cases h0:k=0
 ·subst h0
  rw[if_pos rfl,(NW hr 0).2 (Nat.zero_le _),if_neg (by omega)]
  exact⟨Int.le_refl _,Int.le_refl _⟩
 rw[if_neg h0];exact xik hr (by omega) h1
theorem xhr {c:aj}(hr:Rt c){k:Nat}(h1:k+1≤c.t.length):(nB c k).1≤(nB c (k+1)).1∧(nB c k).2≤(nB c (k+1)).2:=by
 unfold nB
 rw[if_neg (Nat.succ_ne_zero k)]
 by_cases h0:k=0
 ·subst h0
  rw[if_pos rfl]
  obtain⟨⟨x,_,_,e1⟩,⟨y,_,_,e2⟩,_⟩:=NX hr (show 0<0+1 by omega) h1
  simp only at e1 e2 ⊢
  exact⟨by rw[e1];omega,by rw[e2];omega⟩
 rw[if_neg h0];exact xe7 hr (by omega) h1
theorem z7f {c:aj}(hr:Rt c){i:Nat}{z:Int}(h:(o0 c c.t.length)[i]?=some z):∃m:Nat,z=m∧m<c.t.length∧(tG c (lH c)).1 m=true:=by
 obtain⟨m,h1,h2,h3⟩:=Yr.1 (List.mem_of_getElem? h)
 exact⟨m,h2,h1,z0e hr h3⟩
variable [bE] in
theorem p3 (hN:Names)(c:aj)(hB:BC c):aI prog 3 [aA c] fun r=>r=.bool true:=by
 have iX:=Gg hN
 have qL:=NU c
 have gp:=HT c hB
 have vk:=QU c hB
 have vT:=fun i:Int=>Qz c i hB
 have hC:cu c=(cQ c):=rfl
 obtain⟨e,he⟩:∃e,aN c=e:=⟨_,rfl⟩
 have bR:=he
 rw[he] at gp vk
 rw[KP,show (if e=0 then (qK c).map ints else [])=(if e=0 then qK c else []).map ints by split<;>rfl] at gp
 have gp:=aI.soft gp (by simp[PV.aD,PV.az])
 have vk:=aI.soft vk (by simp[PV.aD,PV.az])
 obtain⟨A,hA⟩:∃A,(if e=0 then lH c else [])=A:=⟨_,rfl⟩
 obtain⟨L,hL⟩:∃A,(if e=0 then eR c else 0)=A:=⟨_,rfl⟩
 obtain⟨TB,uq⟩:∃A,(if e=0 then qK c else [])=A:=⟨_,rfl⟩
 obtain⟨KA,ur⟩:∃A,(if e=0 then o0 c c.t.length else [])=A:=⟨_,rfl⟩
 obtain⟨KS,uu⟩:∃A,(if e=0 then pI c c.t.length else [])=A:=⟨_,rfl⟩
 rw[hA,hL,uq] at gp
 rw[ur,uu] at vk
 obtain⟨sb,mK⟩:∃b,pR c=b:=⟨_,rfl⟩
 rw[mK] at qL
 have H5:=fun (hk:aN c=0) h2=>p23 c A hk h2 (by have:=NV (fC hk);rw[← hA,if_pos (he.symm.trans hk)];omega)
 unfold aA at qL gp vk H5 vT ⊢
 rw[hC] at qL gp vk H5 vT ⊢
 clear mK hL uq
 refine .bJ func3 rfl rfl ?_
 refine .sr ?_
 refine .seq (.seq (.ar [0,1,2] rfl ae (.rn [0] _ ?_)))
 refine .pc rfl rfl rfl rfl rfl call19 (qL) ?_
 refine .rn [2] [] ?_
 refine .done ?_
 refine .cs ?_ ?_<;>intro zw
 ·try simp at zw
  refine .seq (.ar [0,1] rfl ae ?_)
  refine .pc rfl rfl rfl rfl rfl call20 (iX) ?_
  refine .rn [1] [] ?_
  refine .done (.ret (ax ?_))
  exact zk
 try simp at zw
 refine .skip (.seq (.ar js rfl ae (.rn [0] _ ?_)))
 refine .pc rfl rfl rfl rfl rfl call21 (gp) ?_
 refine .rn [2,3,4,5,6,7] [] ?_
 refine .done (.seq (.sr ?_))
 refine .cs ?_ ?_<;>intro iI
 ·try simp at iI
  refine .seq (.ar [0,1] rfl ae ?_)
  refine .pc rfl rfl rfl rfl rfl call20 (iX) ?_
  refine .rn [1] [] ?_
  refine .done (.ret (ax ?_))
  exact zk
 try simp at iI
 subst iI
 have aP:=fC bR
 have nY:=aP.tl
 rw[if_pos rfl] at hA ur uu
 have Gn:=J8 aP
 rw[hA] at Gn
 have H5:=H5 bR (Ns Gn)
 obtain⟨KK,N1⟩:∃x,(tG c A).1=x:=⟨_,rfl⟩
 obtain⟨AA,SD⟩:∃x,(tG c A).2=x:=⟨_,rfl⟩
 rw[N1,SD] at H5
 have pg:∀k,k≤c.t.length→(nB c k).1≤(AA k:Int)∧(AA k:Int)≤(nB c k).2:=fun k hk=>by rw[← SD,← hA];exact xfa aP hk
 have mz:∀(i:Nat) z,KA[i]?=some z→∃m:Nat,z=m∧m<c.t.length∧KK m=true:=fun i z h=>by rw[← ur] at h;rw[← N1,← hA];exact z7f aP h
 have K0:∀m:Nat,m<c.t.length→KK m=true→∃i:Nat,KS[i]?=some (m:Int):=fun m h1 h2=>by
  rw[← N1,← hA] at h2
  rw[← uu]
  exact List.mem_iff_getElem?.1 (Yq.2 ⟨m,h1,rfl,z2r aP h2⟩)
 have yaL:KA.length≤48:=by rw[← ur];exact Nat.le_trans (Kd c _) nY
 have yaM:KS.length≤48:=by rw[← uu];exact Nat.le_trans (Kc c _) nY
 have ji:∀i:Nat,i≤c.t.length→ij c i=(nB c i,0):=fun i hi=>z5g bR hi
 have Yy:∀k:Nat,k+1≤c.t.length→(nB c k).1≤(nB c (k+1)).1∧(nB c k).2≤(nB c (k+1)).2:=fun k hk=>xhr aP hk
 clear hA ur uu Gn N1 SD
 refine .skip (.seq (.ar oT rfl ae (.rn [0] _ ?_)))
 refine .pc rfl rfl rfl rfl rfl call22 (vk) ?_
 refine .rn [2,3,4,5,6,7,8] [] ?_
 refine .done (.seq (.sr ?_))
 refine .cs ?_ ?_<;>intro oB
 ·try simp at oB
 try simp at oB
 refine .skip (.seq (.ar oT rfl ae (.rn [0,1,2] _ ?_)))
 refine .pc rfl rfl rfl rfl rfl call23 (H5) ?_
 refine .rn [4,5,6,7,8] [] ?_
 refine .done (.sr ?_)
 refine .seq (.sr ?_)
 refine .block ?_
 refine .cZ (fun i:Nat=>([(1,.ptr 0 0),(5,ints KA),(6,ints KS),(8,.vec (ev c.t.length KK)),(9,.vec (qM (c.t.length+1) AA)),(10,.ptr 2 0),(11,.int .i64 i)],⟨3,[(2,.box [.int .i64 (if i=0 then (0,0) else nB c (i - 1)).1,.int .i64 (if i=0 then (0,0) else nB c (i - 1)).2]),(0,.box (cQ c))]⟩)) (fun i=>i≤c.t.length+1) (fun i=>c.t.length+1 - i) 0 (Nat.zero_le _) aX ?_
 rintro i hi
 simp only at hi ⊢
 refine .seq (.sr ?_)
 refine .cs ?_ ?_<;>intro ti
 ·try simp at ti
  have oU:i≤c.t.length:=by omega
  have cR:IntKind.i64.wrap ((i:Int)+1)=((i+1:Nat):Int):=by rw[wrap64 (by omega) (by omega)];omega
  have hai:=pg i oU
  have vT:=vT i
  rw[ji i oU] at vT
  simp only at vT
  have gN:=NZ (c.t.length+1) AA i (by omega)
  have hi2:(i:Int)<(c.t.length:Int)+1:=by omega
  obtain⟨l1,ll⟩:∃x,(if i=0 then ((0:Int),(0:Int)) else nB c (i - 1)).1=x:=⟨_,rfl⟩
  obtain⟨l2,lk⟩:∃x,(if i=0 then ((0:Int),(0:Int)) else nB c (i - 1)).2=x:=⟨_,rfl⟩
  have SE:l1≤(nB c i).1∧l2≤(nB c i).2:=by
   rw[← ll,← lk]
   by_cases h0:i=0
   ·subst h0
    rw[if_pos rfl]
    unfold nB
    rw[if_pos rfl]
    exact⟨Int.le_refl _,Int.le_refl _⟩
   rw[if_neg h0]
   have:=Yy (i - 1) (by omega)
   rw[Nat.sub_add_cancel (by omega)] at this
   exact this
  have dp:(if i+1=0 then ((0:Int),(0:Int)) else nB c (i+1 - 1))=nB c i:=by rw[if_neg (by omega),Nat.add_sub_cancel]
  obtain⟨p1,qu⟩:∃x,(nB c i).1=x:=⟨_,rfl⟩
  obtain⟨p2,ra⟩:∃x,(nB c i).2=x:=⟨_,rfl⟩
  rw[qu,ra] at vT hai SE
  rw[ll,lk]
  obtain⟨b1,eM⟩:∃b,decide ((AA i:Int)<p1)=b:=⟨_,rfl⟩
  obtain⟨b2,cr⟩:∃b,decide (p2<(AA i:Int))=b:=⟨_,rfl⟩
  obtain⟨b3,nq⟩:∃b,decide (p1<l1)=b:=⟨_,rfl⟩
  obtain⟨b4,wD⟩:∃b,decide (p2<l2)=b:=⟨_,rfl⟩
  obtain rfl:b1=false:=by rw[← eM,decide_eq_false_iff_not];omega
  obtain rfl:b2=false:=by rw[← cr,decide_eq_false_iff_not];omega
  obtain rfl:b3=false:=by rw[← nq,decide_eq_false_iff_not];omega
  obtain rfl:b4=false:=by rw[← wD,decide_eq_false_iff_not];omega
  refine .skip (.seq (.block (.seq (.ar oT rfl ae (.rn [0,1] _ ?_)))))
  refine .pc rfl rfl rfl rfl rfl call24 (vT) ?_
  refine .rn [3,4,5,6,7,8] [] ?_
  refine .done (.seq (.seq ?_))
  refine .drawn (ms:=[0,1,3,7,7,31,63,7,135,511,1023,2047,4095,4095,16383,32767,4095,69631,262143,524287,1048575,2097151,4194303,2097151,10485759,33554431,67108863,134217727,268435455,536870911,268435455,1342177279,4294967295,8589934591]) (W:=[]) (items:=[.op 0,.op 1,.op 2,.op 3,.op 4,.op 5,.op 6,.op 7,.op 8,.op 9,.op 10,.op 11,.op 12,.op 13,.op 14,.op 15,.op 16,.op 17,.op 18,.op 19,.op 20,.op 21,.op 22,.op 23,.op 24,.op 25,.op 26,.op 27,.op 28,.op 29,.op 30,.op 31,.op 32,.op 33]) rfl ae ae ae ?_
  iterate 3 refine .rx ?_
  refine .split (t:=61) rfl (fun pz=>?_) (fun pz=>?_)
  ·try subst pz
   try simp at pz
  try subst pz
  try simp at pz
  iterate 9 refine .rx ?_
  refine .split (t:=70) rfl (fun iT=>?_) (fun iT=>?_)
  ·try subst iT
   try simp at iT
  try subst iT
  try simp at iT
  iterate 9 refine .rx ?_
  refine .split (t:=79) rfl (fun qh=>?_) (fun qh=>?_)
  ·try subst qh
   try simp at qh
  try subst qh
  try simp at qh
  iterate 7 refine .rx ?_
  refine .split (t:=86) rfl (fun K1=>?_) (fun K1=>?_)
  ·try subst K1
   try simp at K1
  try subst K1
  try simp at K1
  iterate 6 refine .rx ?_
  refine .done ?_
  refine .cs ?_ ?_<;>intro Yz
  ·try simp at Yz
  try simp at Yz
  refine .skip (.rn ?_)
  refine .rn ?_
  refine⟨i+1,ba,ba,?_⟩
  rw[dp,qu,ra]
  exact aX
 try simp at ti
 clear pg Yy ji
 refine .exit (.seq (.sr ?_))
 refine .block ?_
 refine .cZ (fun i:Nat=>([(5,ints KA),(6,ints KS),(8,.vec (ev c.t.length KK)),(14,.int .i64 i)],af.empty)) (fun i=>i≤KA.length) (fun i=>KA.length - i) 0 (Nat.zero_le _) aX ?_
 clear hi
 rintro i hi
 simp only at hi ⊢
 refine .seq (.sr ?_)
 refine .cs ?_ ?_<;>intro pC
 ·try simp at pC
  have cE:i<KA.length:=by omega
  have cR:IntKind.i64.wrap ((i:Int)+1)=((i+1:Nat):Int):=by rw[wrap64 (by omega) (by omega)];omega
  obtain⟨z,hz⟩:∃z,KA[i]?=some z:=⟨_,List.getElem?_eq_getElem cE⟩
  obtain⟨m,rfl,hm,hKm⟩:=mz i z hz
  have hze:=(List.getElem?_eq_some_iff.1 hz).2
  have gN:=HO c.t.length KK m hm
  have K2:=QT c.t.length KK m hm
  rw[hKm] at gN K2
  have nR:¬(m:Int)<0:=by omega
  have b7:(m:Int)<(c.t.length:Int):=by omega
  obtain⟨b1,eM⟩:∃b,decide (c.t.length≤m)=b:=⟨_,rfl⟩
  obtain rfl:b1=false:=by rw[← eM,decide_eq_false_iff_not];omega
  refine .skip (.seq (.block (.seq (.ar K3 rfl ae (.rn kS _ ?_)))))
  refine .split (t:=105) rfl (fun pD=>?_) (fun pD=>?_)
  ·try subst pD
   try simp at pD
  try subst pD
  try simp at pD
  refine .rn [6,7,8,9,10,11,12,13,14] _ ?_
  refine .split (t:=114) rfl (fun fq=>?_) (fun fq=>?_)
  ·try subst fq
   try simp at fq
  try subst fq
  try simp at fq
  refine .rn [15,16,17,18,19,20,21,22,23] [] ?_
  refine .done ?_
  refine .cs ?_ ?_<;>intro nc
  ·try simp at nc
  try simp at nc
  refine .skip (.rn ?_)
  exact⟨i+1,ba,ba,aX⟩
 try simp at pC
 skip
 refine .exit (.seq (.sr ?_))
 refine .block ?_
 refine .cZ (fun i:Nat=>([(6,ints KS),(8,.vec (ev c.t.length KK)),(15,.int .i64 i)],af.empty)) (fun i=>i≤c.t.length) (fun i=>c.t.length - i) 0 (Nat.zero_le _) aX ?_
 clear hi
 rintro i hi
 simp only at hi ⊢
 refine .seq (.sr ?_)
 refine .cs ?_ ?_<;>intro fW
 ·try simp at fW
  have cE:i<c.t.length:=by omega
  have cR:IntKind.i64.wrap ((i:Int)+1)=((i+1:Nat):Int):=by rw[wrap64 (by omega) (by omega)];omega
  have gN:=HO c.t.length KK i cE
  have K2:=QT c.t.length KK i cE
  refine .skip (.seq (.block (.sr ?_)))
  refine .seq (.sr ?_)
  refine .block ?_
  refine .cZ (fun z:Nat×Bool=>([(6,ints KS),(8,.vec (ev c.t.length KK)),(15,.int .i64 i),(16,.bool z.2),(17,.int .i64 z.1)],af.empty)) (fun z=>z.1≤KS.length∧(z.2=false→∀m,m<z.1→KS[m]?≠some (i:Int))) (fun z=>KS.length - z.1) (0,false) ⟨Nat.zero_le _,fun _ m h=>by cases h⟩ aX ?_
  rintro⟨k,b⟩ ⟨hk,hs⟩
  simp only at hk hs ⊢
  refine .seq (.sr ?_)
  refine .cs ?_ ?_<;>intro K4
  ·try simp at K4
   have ee:k<KS.length:=by omega
   have sh:IntKind.i64.wrap ((k:Int)+1)=((k+1:Nat):Int):=by rw[wrap64 (by omega) (by omega)];omega
   obtain⟨z,hz⟩:∃z,KS[k]?=some z:=⟨_,List.getElem?_eq_getElem ee⟩
   have hze:=(List.getElem?_eq_some_iff.1 hz).2
   obtain⟨eb,qG⟩:∃b,(z==(i:Int))=b:=⟨_,rfl⟩
   refine .skip (.seq (.block (.ar gh rfl ae (.rn [0,1] _ ?_))))
   refine .split (t:=137) rfl (fun pS=>?_) (fun pS=>?_)
   ·try subst pS
    try simp at pS
    refine .rn [2,3,4,5,6,7,8,9] [] ?_
    refine .done (.rn ?_)
    exact⟨(k+1,true),⟨ba,fun h=>by cases h⟩,ba,aX⟩
   try subst pS
   try simp at pS
   refine .rn [2,3,4,5,6,7,8,9] [] ?_
   refine .done (.rn ?_)
   refine⟨(k+1,eb),⟨ba,fun h m hm=>?_⟩,ba,aX⟩
   simp only at h hm
   by_cases h1:m=k
   ·subst h1
    rw[hz]
    intro h2
    injection h2 with h2
    rw[h,h2] at qG
    simp at qG
   exact hs rfl m (by omega)
  try simp at K4
  obtain rfl:k=KS.length:=by omega
  refine .exit (.seq (.ar js rfl ae (.rn fR _ ?_)))
  refine .split (t:=149) rfl (fun jx=>?_) (fun jx=>?_)
  ·try subst jx
   try simp at jx
   refine .rn [5,6,7] [] ?_
   refine .done ?_
   refine .cs ?_ ?_<;>intro rV
   ·try simp at rV
    exfalso
    obtain⟨m,hm⟩:=K0 i cE (by first|exact jx|(simpa using jx))
    obtain⟨Ha,_⟩:=List.getElem?_eq_some_iff.1 hm
    exact hs (by first|exact rV|simpa using rV) m Ha hm
   try simp at rV
   refine .skip (.rn ?_)
   exact⟨i+1,ba,ba,aX⟩
  try subst jx
  try simp at jx
  refine .rn [5,6,7] [] ?_
  refine .done (.gI rfl (.skip (.rn ?_)))
  exact⟨i+1,ba,ba,aX⟩
 try simp at fW
 refine .exit (.seq (.ar [0,1] rfl ae ?_))
 refine .pc rfl rfl rfl rfl rfl call20 (iX) ?_
 refine .rn [1] [] ?_
 refine .done (.ret (ax ?_))
 exact zk
end Go.Am.Sl
end
