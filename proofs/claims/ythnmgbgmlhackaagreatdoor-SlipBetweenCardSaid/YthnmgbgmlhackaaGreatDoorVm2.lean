/-
 What is used in the proof of a statement (part Vm2); no condition.
-/
import Derived.Shelf.SortM.SortNone
import Derived.SizedLaws
import Derived.ReadAgain
import Derived.ChangeArms
import Derived.ChangeSame
import Derived.Shelf.SlSortCmp.NoneTotal
import Derived.Below
import Derived.Test.YthnmgbgmlhackaaGreatDoorVm1
import Derived.Test.YthnmgbgmlhackaaGreatDoorAm3
import Derived.Test.YthnmgbgmlhackaaGreatDoorAm2
set_option linter.all false
set_option maxHeartbeats 40000000
set_option maxRecDepth 100000
section
namespace Go.Am
variable [bF]
theorem bh.ints {g:Fz}:∀ {l:List Int} {l':List Value},bh (FR g) (l.map (PV.int .i64)) l'→l'=l.map (Value.int .i64)
 |[],l',h=>h.jM
 |a::r,l',h=>by
  obtain⟨v',r',rfl,h1,h2⟩:=h.dE
  cases h1
  rw[bh.ints h2];rfl
theorem bh.Ph {g:Fz}:∀l:List Int,bh (FR g) (l.map (PV.int .i64)) (l.map (Value.int .i64))
 |[]=>.nil
 |a::r=>.cons (.int _ _) (bh.Ph r)
section
variable {P:Program} {vh:ai}
end
section
variable {P:Program} {N i j tI tN tB tE:Nat} {o1 o2 o3:Oper} {NO:Array Oper} {body:Code} {id1 id2:Nat}
end
inductive CV (w:World):PV→Value→Prop where
  |bool (b:Bool):CV w (.bool b) (.bool b)
  |int (k:IntKind) (n:Int):CV w (.int k n) (.int k n)
  |str (s:ByteArray):CV w (.str s) (.string s)
  |nilIface:CV w .nilIface .nilIface
  |fw:CV w (.vec []) (.slice none 0 0)
  |dv (p:Addr) (k:Nat):CV w (.vec []) (.slice (some p) 0 k)
  |vec (es:List PV) (b off k sz:Nat) (cs:List Value) (hk:es.length≤k) (hl:es.length<az) (h0:0<sz) (eJ:∀e∈es,e.cells.length=sz) (hb:b<w.heap.size)
      (hc:∀(n:Nat) v',cs[n]?=some v'→w.cell? ⟨b,off+n,none⟩=some v') (hlen:cs.length=(es.flatMap PV.cells).length)
      (r:∀(n:Nat) v v',(es.flatMap PV.cells)[n]?=some v→cs[n]?=some v'→CV w v v'):CV w (.vec es) (.slice (some ⟨b,off,none⟩) es.length k)
  |agg (cs:List PV) (ar:Array Value) (hs:cs.length=ar.size) (r:∀(i:Nat) v v',cs[i]?=some v→ar[i]?=some v'→CV w v v'):CV w (.agg cs) (.agg ar)
structure oN (U:Mu) (h:ah) (aS:Mu) (h':ah):Prop where
  le:U.le aS
  sub:∀o x,h.get o=some x→h'.get o=some x
theorem oN.refl (U:Mu)(h:ah):oN U h U h:=⟨Mu.le_refl U,fun _ _ h=>h⟩
theorem oN.trans {U oO B1:Mu}{h h1 h2:ah}(a:oN U h oO h1)(b:oN oO h1 B1 h2):oN U h B1 h2:=⟨Mu.le_trans a.le b.le,fun o x hx=>b.sub o x (a.sub o x hx)⟩
def Y2 (w:World)(v:PV)(v':Value):Prop:=
 ∀U h,Rel U h.next h w→∃aS h' u,oN U h aS h'∧Rel aS h'.next h' w∧FR h'.get v u∧ak aS u v'
theorem J7 {w:World}:∀ {l:List PV} {l':List Value},l.length=l'.length→(∀(i:Nat) v v',l[i]?=some v→l'[i]?=some v'→Y2 w v v')→
  ∀U h,Rel U h.next h w→∃aS h' us,oN U h aS h'∧Rel aS h'.next h' w∧bh (FR h'.get) l us∧bA aS us l'
 |[],[],_,_,U,h,r=>⟨U,h,[],oN.refl U h,r,⟨rfl,fun i v v' hv=>by simp at hv⟩,.nil _⟩
 |[],_::_,hl,_,_,_,_=>by simp at hl
 |_::_,[],hl,_,_,_,_=>by simp at hl
 |x::l,x'::l',hl,hr,U,h,r=>by
  obtain⟨oO,h1,u,m1,r1,f1,v1⟩:=hr 0 x x' rfl rfl U h r
  obtain⟨B1,h2,us,m2,r2,f2,v2⟩:=J7 (l:=l) (l':=l') (by simpa using hl) (fun i v v' hv aQ=>hr (i+1) v v' (by simpa using hv) (by simpa using aQ)) oO h1 r1
  refine⟨B1,h2,u::us,m1.trans m2,r2,⟨by simp[f2.1],fun i v v' hv aQ=>?_⟩,.cons (v1.mono m2.le) v2⟩
  cases i with
  |zero=>simp at hv aQ;subst hv;subst aQ;exact f1.mono m2.sub
  |succ i=>exact f2.2 i v v' (by simpa using hv) (by simpa using aQ)
theorem zpj {w:World}{U:Mu}{h:ah}(r:Rel U h.next h w){b off C:Nat}{us cs:List Value}(hb:b<w.heap.size)(hv:bA U us cs)(hc:∀(n:Nat) v',cs[n]?=some v'→w.cell? ⟨b,off+n,none⟩=some v') :
  oN U h (U.put h.next (b,off,C)) (h.alloc (.cells 0 us))∧Rel (U.put h.next (b,off,C)) (h.alloc (.cells 0 us)).next (h.alloc (.cells 0 us)) w:=by
 have hle:=r.C6 (b,off,C)
 refine⟨⟨hle,fun o x hx=>?_⟩,⟨fun o x hx=>?_,fun o o' x x' b1 a1 C1 a2 C2 hl hx=>?_,fun o x hx=>?_,fun o x b1 a1 C1 hl hx=>?_,Nat.le_refl _,⟨r.kq.gl,r.kq.ks,fun o x b1 a1 C1 hl hx=>absurd (ah.gx hx) (by omega)⟩⟩⟩
 ·rw[ah.jf,if_neg (by have:=ah.gx hx;omega)];exact hx
 ·rw[ah.jf] at hx
  by_cases ho:o=h.next
  ·simp[ho] at hx
   subst hx;subst ho
   refine⟨b,off,C,Mu.cB _ _ _,hb,fun i v hi=>?_,fun h=>absurd h (Nat.lt_irrefl _)⟩
   obtain⟨v',h1,h2⟩:=hv.2 i v hi
   exact⟨v',hc i v' h1,h2.mono hle⟩
  simp[ho] at hx
  obtain⟨b1,a1,C1,h1,h2⟩:=r.bq o x hx
  exact⟨b1,a1,C1,hle _ _ h1,h2.mono hle⟩
 ·have:=ah.gx hx;omega
 ·by_cases ho:o=h.next
  ·subst ho;simp
  rw[Mu.jN _ ho] at hx
  have:=r.pF o x hx
  simp;omega
 have:=ah.gx hx;omega
theorem CV.Y3 {w:World}{v:PV}{v':Value}(hc:CV w v v'):Y2 w v v':=by
 induction hc with
 |bool b=>exact fun U h r=>⟨U,h,_,.refl _ _,r,.bool b,.bool b⟩
 |int k n=>exact fun U h r=>⟨U,h,_,.refl _ _,r,.int k n,.int k n⟩
 |str s=>exact fun U h r=>⟨U,h,_,.refl _ _,r,.str s,.string s⟩
 |nilIface=>exact fun U h r=>⟨U,h,_,.refl _ _,r,.nilIface,.nilIface⟩
 |fw=>exact fun U h r=>⟨U,h,_,.refl _ _,r,.fw,.dY⟩
 |dv p k=>exact fun U h r=>⟨U,h,_,.refl _ _,r,.dv 0 0 dW,.bX _ _ _⟩
 |vec es b off k sz cs hk hl h0 eJ hb lM hlen _ ih=>
  intro U h r
  obtain⟨oO,h1,us,m1,r1,f1,v1⟩:=J7 hlen.symm ih U h r
  have hx:∃C kk,ie C kk=k∧kk≤az∧es.length≤kk:=by
   by_cases nW:k<az
   ·exact⟨0,k,by simp[ie,nW],Nat.le_of_lt nW,hk⟩
   exact⟨k,az,by simp[ie],Nat.le_refl _,Nat.le_of_lt hl⟩
  obtain⟨C,kk,e1,e2,e3⟩:=hx
  obtain⟨m2,r2⟩:=zpj (C:=C) r1 hb v1 lM
  refine⟨_,_,.slice (some ⟨h1.next,0,none⟩) es.length kk,m1.trans m2,r2,?_,?_⟩
  ·refine .vec es h1.next 0 kk 0 sz us e3 ?_ (by rw[ah.jf];simp) h0 (fun i e he=>eJ e (List.mem_of_getElem? he)) ?_ (fun i e j v v' he hv aQ=>?_)
   ·simp only[az] at hl e2;simp only[dW];omega
   ·have:=f1.1
    rw[Cv eJ] at this
    omega
   exact(HC (R:=FR h1.get) eJ f1 i e j v v' he hv (by simpa using aQ)).mono m2.sub
  have:=ak.slice (U:=oO.put h1.next (b,off,C)) h1.next 0 es.length kk b off C (Mu.cB _ _ _) (by rw[e1];exact hk) (by simp only[az] at e2;simp only[dW];omega)
  rw[e1] at this
  exact this
 |agg cs ar hs _ ih=>
  intro U h r
  obtain⟨oO,h1,us,m1,r1,f1,v1⟩:=J7 (l':=ar.toList) (by simpa using hs) (fun i v v' hv aQ=>ih i v v' hv (by simpa using aQ)) U h r
  refine⟨oO,h1,.agg us.toArray,m1,r1,.agg cs us.toArray (by simpa using f1.1) (fun i v v' hv aQ=>f1.2 i v v' hv (by simpa using aQ)),?_⟩
  refine .agg us.toArray ar (by have:=v1.1;simpa using this) (fun i hi dD=>?_)
  obtain⟨u',k1,k2⟩:=v1.2 i us[i] (by simp at hi ⊢)
  have:ar[i]=u':=by simpa[dD] using k1
  rw[this];simpa using k2
def Ai (w w':World):Prop:=Calm w w'∧w.heap.size≤w'.heap.size∧∀b,b<w.heap.size→w'.heap[b]?=w.heap[b]?
theorem aN.enter {P:Program}{f:FuncId}{args:List PV}{t:Bool}(hp:aN P f args fun r=>r=.bool t){w:World}(sE:∀b,b<bF.K→w.heap[b]?=bF.obj b)(RI:bF.K≤w.heap.size){ba:Array Value}(hl:args.length=ba.size)
  (ha:∀(i:Nat) v v',args[i]?=some v→ba[i]?=some v'→CV w v v'):Calls P f ba w fun e w'=>e=.returned (.bool t)∧Ai w w':=by
 have e0:∀o x,ah.empty.get o=some x→False:=fun o x hx=>by rw[ah.R3] at hx;cases hx
 have r0:Rel (fun _=>none) ah.empty.next ah.empty w:=⟨fun o x hx=>(e0 o x hx).elim,fun o o' x x' b a C a' C' _ hx=>(e0 o x hx).elim,fun o x hx=>(by cases hx),fun o x b a C _ hx=>(e0 o x hx).elim,Nat.le_refl _,⟨sE,RI,fun o x b a C _ hx=>(e0 o x hx).elim⟩⟩
 obtain⟨U,h,us,m,r,f1,v1⟩:=J7 (l':=ba.toList) (by simpa using hl) (fun i v v' hv aQ=>(ha i v v' hv (by simpa using aQ)).Y3) _ _ r0
 have hc:nU P h.next f us h _:=hp h.next h.get (fun _=>(0,0,0)) h us ⟨f1.1,fun i v v' hv aQ=>.fr _ _ (f1.2 i v v' hv aQ)⟩ (VS.none (fun _ _ hx=>hx) (Nat.le_refl _) _)
 refine Calls.mono (callsIn_wide.1 (hc Fence.wide SB rfl 0 U w ba v1 r)) fun e w' ⟨r',v,h',aS,k1,k2,k3,k4,g',aR,pv,ao,k5,_,_,_,_,_,_,k6,k7⟩=>?_
 subst k7
 cases k5 with
 |fr _ _ hf=>
  cases hf
  cases k2
  exact⟨k1,k4.calm,k4.size,fun b hb=>k4.kept b hb (by rintro⟨o,x,a,C,g1,g2,_⟩;have:=ah.gx g2;omega)⟩
section
variable {H:Type} {enc:TypeId×Value→H} {P:Program} {w:World}
def Reads (enc:TypeId×Value→H)(P:Program)(w:World)(t:TypeId)(Q:PV→Prop):Prop:=
 ∀n cs x,DataW.trod enc P w 0 (fun _=>true) true n t cs=some x→(∀m∈x.1.weights P t,m≤reachBytes)→∃p:PV,p.cells.length=P.cellsOf t∧bh (CV w) p.cells cs∧Q p
theorem Reads.mono {t:TypeId}{Q Q':PV→Prop}(h:Reads enc P w t Q)(hq:∀p,Q p→Q' p):Reads enc P w t Q':=fun n cs x hx hm=>let ⟨p,h1,h2,h3⟩:=h n cs x hx hm;⟨p,h1,h2,hq p h3⟩
theorem Re {t:TypeId}{k:IntKind}(ht:P.underlying t=some (.int k))(hc:P.cellsOf t=1):Reads enc P w t fun p=>∃n,p=.int k n∧(Lit.int k n).wf=true:=by
 intro n cs x hx _
 cases n with
 |zero=>simp[DataW.trod] at hx
 |succ n=>
  unfold DataW.trod at hx
  rw[ht] at hx
  split at hx<;>simp_all
  obtain⟨⟨rfl,hw⟩,_⟩:=hx
  exact⟨_,rfl,.cons (.int _ _) .nil,_,rfl,hw⟩
theorem zs3 {e:TypeId}{l:List (DataW H)}{d:DataW H}(hd:d∈l):∀m∈d.weights P e,m∈DataW.weightsAll P e l:=by
 induction l with
 |nil=>cases hd
 |cons a r ih=>
  intro m hm
  simp only[DataW.weightsAll,List.mem_append]
  rcases List.mem_cons.1 hd with rfl|hd
  ·exact .inl hm
  exact .inr (ih hd m hm)
theorem zyw {a:Addr}{v:Value}(h:w.cell? a=some v):a.spot=none:=by
 cases hs:a.spot with
 |none=>rfl
 |some s=>
  simp only[World.cell?] at h
  split at h
  ·simp[hs] at h
  cases h
theorem zsa {t e:TypeId}{Q:PV→Prop}(ht:P.underlying t=some (.slice e))(hc:P.cellsOf t=1)(h0:0<P.cellsOf e)(pU:0<P.bytesOf e)(he:Reads enc P w e Q) :
  Reads enc P w t fun p=>∃es,p=.vec es∧(∀x∈es,Q x)∧es.length<az∧es.length*P.bytesOf e≤reachBytes:=by
 intro n cs x hx hm
 rcases DataW.trod_slice ht hx with⟨rfl,rfl⟩|⟨a,len,cap,elems,rest,n',_,rfl,rfl,_,B4,_,hlen,mj,_,_⟩
 ·exact⟨.vec [],by rw[hc];rfl,.cons .fw .nil,[],rfl,fun x h=>(by cases h),by decide,by simp⟩
 simp only[DataW.weights,ht] at hm
 have o0:len*P.bytesOf e≤reachBytes:=by
  have:=hm _ (List.mem_cons_self ..)
  simp only[List.length_map,hlen] at this
  exact Nat.le_trans (Nat.mul_le_mul_right _ (Nat.le_add_right _ _)) this
 have hbound:len<az:=by
  have:=hm _ (List.mem_cons_self ..)
  simp only[List.length_map,hlen] at this
  have h2:len≤(len+rest.length)*P.bytesOf e:=Nat.le_trans (Nat.le_add_right _ _) (Nat.le_mul_of_pos_right _ pU)
  have:=reachBytes_lt
  simp only[az];omega
 rcases Nat.eq_zero_or_pos len with uv|Ax
 ·subst uv
  exact⟨.vec [],by rw[hc];rfl,.cons (.dv a cap) .nil,[],rfl,fun x h=>(by cases h),by decide,by simp⟩
 have RJ:∀i,i<len→∃c y,w.cells? 0 (a.add (i*P.cellsOf e)) (P.cellsOf e)=some c∧DataW.trod enc P w 0 (fun _=>true) true n' e c=some y∧elems[i]?=some y:=fun i hi=>by
  have h1:=mj i hi
  rw[List.getElem?_eq_getElem (by omega)] at h1
  obtain⟨c,h2,h3⟩:=Option.bind_eq_some_iff.1 h1
  exact⟨c,_,h2,h3,by rw[List.getElem?_eq_getElem (by omega)]⟩
 have CZ:a.spot=none:=by
  obtain⟨c,y,h1,_,_⟩:=RJ 0 Ax
  obtain⟨_,h2,h3⟩:=World.cells?_some h1
  have h4:=h3 0 h0
  rw[List.getElem?_eq_getElem (by omega)] at h4
  have:=zyw h4
  simpa[Addr.add] using this
 obtain⟨b,off,sp⟩:=a
 simp only at CZ
 subst CZ
 have build:∀m,m≤len→∃(es:List PV) (cc:List Value),es.length=m∧(∀p∈es,p.cells.length=P.cellsOf e∧Q p)∧bh (CV w) (es.flatMap PV.cells) cc∧(∀(k:Nat) v',cc[k]?=some v'→w.cell? ⟨b,off+k,none⟩=some v'):=by
  intro m
  induction m with
  |zero=>exact fun _=>⟨[],[],rfl,fun p h=>(by cases h),.nil,fun k v' h=>by simp at h⟩
  |succ m ih=>
   intro cj
   obtain⟨es,cc,h1,h2,h3,h4⟩:=ih (by omega)
   obtain⟨c,y,k1,k2,k3⟩:=RJ m (by omega)
   obtain⟨p,p1,p2,p3⟩:=he n' c y k2 (fun q hq=>hm q (List.mem_cons_of_mem _ (List.mem_append_left _ (zs3 (List.mem_map.2 ⟨y,List.mem_of_getElem? k3,rfl⟩) q hq))))
   obtain⟨_,g2,g3⟩:=World.cells?_some k1
   have wU:cc.length=m*P.cellsOf e:=by rw[← h3.1,Cv (fun x hx=>(h2 x hx).1),h1]
   refine⟨es++[p],cc++c,by simp[h1],fun x hx=>?_,by simpa using h3.append p2,fun k v' hk=>?_⟩
   ·rcases List.mem_append.1 hx with hx|hx
    ·exact h2 x hx
    simp at hx;subst hx;exact⟨p1,p3⟩
   by_cases hkc:k<cc.length
   ·rw[List.getElem?_append_left hkc] at hk;exact h4 k v' hk
   rw[List.getElem?_append_right (by omega)] at hk
   have aP:=(List.getElem?_eq_some_iff.1 hk).1
   have:=g3 (k - cc.length) (by omega)
   rw[uJ,uJ,hk] at this
   rw[← this]
   congr 2
   omega
 obtain⟨es,cc,h1,h2,h3,h4⟩:=build len (Nat.le_refl _)
 have hb:b<w.heap.size:=by
  obtain⟨c,y,k1,_,_⟩:=RJ 0 Ax
  have:=World.cells?_block k1 h0
  simpa[Addr.add] using this
 refine⟨.vec es,by rw[hc];rfl,.cons ?_ .nil,es,rfl,fun x hx=>(h2 x hx).2,by omega,by rw[h1];exact o0⟩
 subst h1
 exact .vec es b off cap (P.cellsOf e) cc B4 hbound h0 (fun p hp=>(h2 p hp).1) hb h4 h3.1.symm (fun k v v' hv aQ=>h3.2 k v v' hv aQ)
theorem GD {t e:TypeId}{Q:PV→Prop}(ht:P.underlying t=some (.slice e))(hc:P.cellsOf t=1)(h0:0<P.cellsOf e)(pU:0<P.bytesOf e)(he:Reads enc P w e Q) :
 Reads enc P w t fun p=>∃es,p=.vec es∧(∀x∈es,Q x)∧es.length<az:=(zsa ht hc h0 pU he).mono fun p ⟨es,h1,h2,h3,_⟩=>⟨es,h1,h2,h3⟩
def total (P:Program):List Field→Nat
 |[]=>0
 |f::r=>P.cellsOf f.type+total P r
def Ab (P:Program):Nat→List Field→Bool
 |_,[]=>true
 |off,f::r=>decide (f.offset=off)&&Ab P (off+P.cellsOf f.type) r
theorem Y4 {n:Nat}{cs:List Value}:∀(fs:List Field) (off:Nat) (Qs:List (PV→Prop)) (xs:List (DataW H×List MemPlace)),fs.length=Qs.length→(∀(i:Nat) f Q,fs[i]?=some f→Qs[i]?=some Q→Reads enc P w f.type Q)→Ab P off fs=true→
  xs.length=fs.length→off+total P fs≤cs.length→
  (∀(i:Nat) (f:Field),fs[i]?=some f→DataW.trod enc P w 0 (fun _=>true) true n f.type ((cs.drop f.offset).take (P.cellsOf f.type))=xs[i]?)→
  (∀m∈DataW.weightsEach P (fs.map (·.type)) (xs.map (·.1)),m≤reachBytes)→
  ∃ps:List PV,ps.length=fs.length∧(ps.flatMap PV.cells).length=total P fs∧bh (CV w) (ps.flatMap PV.cells) ((cs.drop off).take (total P fs))∧∀(i:Nat) Q p,Qs[i]?=some Q→ps[i]?=some p→Q p
 |[],off,Qs,xs,hQ,_,_,_,_,_,_=>⟨[],rfl,rfl,by simp only[total,List.take_zero];exact .nil,fun i Q p _ hp=>by simp at hp⟩
 |f::fs,off,[],xs,hQ,_,_,_,_,_,_=>by simp at hQ
 |f::fs,off,Q::Qs,[],_,_,_,hx,_,_,_=>by simp at hx
 |f::fs,off,Q::Qs,x::xs,hQ,hr,GM,hx,zd,Y5,hm=>by
  simp only[Ab,bS,decide_eq_true_eq] at GM
  obtain⟨ho,GM⟩:=GM
  simp only[total] at zd
  simp only[List.map_cons,DataW.weightsEach,List.mem_append] at hm
  have t0:=Y5 0 f rfl
  simp only[List.getElem?_cons_zero] at t0
  obtain⟨p,p1,p2,p3⟩:=hr 0 f Q rfl rfl n _ x t0 (fun m h=>hm m (.inl h))
  obtain⟨ps,h1,h2,h3,h4⟩:=Y4 (n:=n) (cs:=cs) fs (off+P.cellsOf f.type) Qs xs (by simpa using hQ) (fun i f Q hf hq=>hr (i+1) f Q (by simpa using hf) (by simpa using hq)) GM (by simpa using hx) (by omega)
   (fun i f' hf=>by have:=Y5 (i+1) f' (by simpa using hf);simpa using this) (fun m h=>hm m (.inr h))
  refine⟨p::ps,by simp[h1],by simp[total,h2,p1],?_,fun i Q' p' hq hp=>?_⟩
  ·have e1:(cs.drop off).take (total P (f::fs))=(cs.drop f.offset).take (P.cellsOf f.type)++(cs.drop (off+P.cellsOf f.type)).take (total P fs):=by
    subst ho
    rw[total,List.take_add,List.drop_drop]
   rw[e1,List.flatMap_cons]
   exact p2.append h3
  cases i with
  |zero=>simp at hq hp;subst hq;subst hp;exact p3
  |succ i=>exact h4 i Q' p' (by simpa using hq) (by simpa using hp)
theorem GF {t:TypeId}{fs:Array Field}(Qs:List (PV→Prop))(ht:P.underlying t=some (.struct fs))(hQ:fs.toList.length=Qs.length)(hr:∀(i:Nat) f Q,fs.toList[i]?=some f→Qs[i]?=some Q→Reads enc P w f.type Q)
  (GM:Ab P 0 fs.toList=true) (zd:total P fs.toList=P.cellsOf t):Reads enc P w t fun p=>∃ps:List PV,p=.agg (ps.flatMap PV.cells)∧ps.length=Qs.length∧∀(i:Nat) Q p,Qs[i]?=some Q→ps[i]?=some p→Q p:=by
 intro n cs x hx hm
 obtain⟨xs,n',_,rfl,hl,hlen,hf⟩:=DataW.trod_struct ht hx
 simp only[DataW.weights,ht] at hm
 obtain⟨ps,h1,h2,h3,h4⟩:=Y4 (n:=n') (cs:=cs) fs.toList 0 Qs xs hQ hr GM (by simpa using hlen) (by rw[zd];omega) (fun i f oX=>hf i f (by simpa using oX)) hm
 refine⟨.agg (ps.flatMap PV.cells),by rw[← zd];exact h2,?_,ps,rfl,by rw[h1,hQ],h4⟩
 have e:(cs.drop 0).take (total P fs.toList)=cs:=by rw[zd,← hl];simp
 rw[e] at h3
 exact h3
end
open Go.ChangeShapes Go.WideShapes
section
variable {H:Type} {enc:TypeId×Value→H} {P:Program} {w w':World}
theorem Ai.sameAt (u:Ai w w'){p:MemPlace}(hp:p.block<w.heap.size):w.sameAt w' p:=by
 cases p with
 |cell b off=>exact C5 (u.2.2 b hp)
 |map b=>exact u.2.2 b hp
theorem Ai.keptBut (u:Ai w w')(may:MemPlace→Prop):w.keptBut w' may:=by
 refine⟨u.1.1,u.1.2,fun i hi=>?_⟩
 rw[u.2.2 i hi]
 cases w.heap[i]? with
 |none=>rfl
 |some o=>cases o<;>first|exact⟨rfl,rfl,rfl,fun _ _=>rfl⟩|exact .inr ⟨rfl,rfl⟩|rfl
theorem Y6 {base:Nat}{spare:Nat→Bool}{held:Bool}:∀ {ts:List TypeId} {vs:List Value} {ds:List (DataW H)} {ps:List MemPlace},DataW.TrodAll enc P w base spare held ts vs ds ps→(∀p∈ps,w.sameAt w' p)→
  DataW.TrodAll enc P w' base spare held ts vs ds ps
 |[],_,_,_,h,_=>by
  obtain⟨rfl,rfl,rfl⟩:=trodAll_nil h
  exact trodAll_mk0
 |_::_,_,_,_,h,hs=>by
  obtain⟨v,vs1,d,ds1,a,b,rfl,rfl,rfl,⟨n,h1⟩,h2⟩:=trodAll_cons h
  exact⟨a,b,⟨n,DataW.trod_carry n _ _ _ h1 (fun p hp=>hs p (List.mem_append_left _ hp))⟩,Y6 h2 (fun p hp=>hs p (List.mem_append_right _ hp)),rfl⟩
theorem zod {T:TypeId→Prop}(K:Kids P T)(hz:∀t e,T t→P.underlying t=some (.slice e)→0<P.cellsOf e){f:Func}(hT:∀t∈f.params.toList,T t){s:ChangeSpec}{apart fresh handsOn:Bool}{args:Array Value}{v:Value}
  {ds gs:List (DataW H)} {before:List MemPlace} (hW:DataW.Whole enc P f.params.toList s.vars apart w args.toList ds gs before) (sq:s.vars=[])
  (Ba:∀(b:Nat) (sp:Nat→Bool) (hd:Bool),DataW.TrodAll enc P w' b sp hd f.resultTypes.toList (v.resultList f.resultTypes.size) (s.fn H (ds++gs)).results [])
  (iN:(s.fn H (ds++gs)).args=ds) (hv:(s.fn H (ds++gs)).vars=[]) (hu:Ai w w'):s.post enc P f apart fresh handsOn false w args v w':=by
 have aP:=hW.lt
 refine⟨ds,gs,before,[],before,[],hW,Ba _ _ _,?_,by rw[sq,hv];rfl,hu.keptBut _,fun h=>by cases h⟩
 obtain⟨p,q,h1,h2,rfl,_,_⟩:=hW
 rw[sq] at h2
 obtain⟨_,rfl⟩:=trodVars_none h2
 rw[List.append_nil] at aP ⊢
 rw[iN]
 exact DataW.TrodAll.respare K hz hT (Y6 h1 (fun x hx=>hu.sameAt (aP x hx))) (fun x hx=>by simpa using aP x hx)
def vD (enc:TypeId×Value→H)(P:Program)(w:World)(base:Nat)(t:TypeId)(Q:PV→Prop):Prop:=
 ∀v d p,Value.okWide P w .any base t v→DataW.Trod enc P w 0 (fun _=>true) true t v d p→(∀m∈d.weights P t,m≤reachBytes)→∃pv:PV,CV w pv v∧Q pv
theorem zx9 {base:Nat}{t:TypeId}{Q:PV→Prop}(hv:∀v,Value.okWide P w .any base t v→v.cells=#[v])(hq:∀p,Q p→p.cells=[p])(hr:Reads enc P w t Q):vD enc P w base t Q:=by
 intro v d p fq ⟨n,hn⟩ hm
 obtain⟨pv,_,h2,h3⟩:=hr n _ _ hn hm
 rw[hq pv h3,hv v fq] at h2
 exact⟨pv,h2.2 0 _ _ rfl rfl,h3⟩
theorem JF {base:Nat}{t e:TypeId}{Q:PV→Prop}(ht:P.underlying t=some (.slice e))(hq:∀p,Q p→p.cells=[p])(hr:Reads enc P w t Q):vD enc P w base t Q:=
 zx9 (fun v h=>by obtain⟨a,l,c,rfl⟩:=okWide_slice ht h;rfl) hq hr
theorem Rk {base:Nat}{t:TypeId}{fs:Array Field}{Q:PV→Prop}(ht:P.underlying t=some (.struct fs))(hq:∀p,Q p→∃cs,p=.agg cs)(hr:Reads enc P w t Q):vD enc P w base t Q:=by
 intro v d p fq ⟨n,hn⟩ hm
 obtain⟨cs,rfl,_⟩:=okWide_struct ht fq
 obtain⟨pv,_,h2,h3⟩:=hr n _ _ hn hm
 obtain⟨ps,rfl⟩:=hq pv h3
 exact⟨_,.agg ps cs (by have:=h2.1;simpa[PV.cells,Value.cells] using this) (fun i v v' hv aQ=>h2.2 i v v' hv (by simpa[Value.cells] using aQ)),h3⟩
theorem Y7 {base:Nat}:∀ {ts:List TypeId} (Qs:List (PV→Prop)) {vs:List Value} {ds:List (DataW H)} {ps:List MemPlace},ts.length=Qs.length→(∀(i:Nat) t Q,ts[i]?=some t→Qs[i]?=some Q→vD enc P w base t Q)→
  (∀(i:Nat) t v,ts[i]?=some t→vs[i]?=some v→Value.okWide P w .any base t v)→DataW.TrodAll enc P w 0 (fun _=>true) true ts vs ds ps→(∀m∈DataW.weightsEach P ts ds,m≤reachBytes)→
  ∃sg:List PV,sg.length=Qs.length∧bh (CV w) sg vs∧∀(i:Nat) Q p,Qs[i]?=some Q→sg[i]?=some p→Q p
 |[],[],_,_,_,_,_,_,h,_=>by
  obtain⟨rfl,rfl,rfl⟩:=trodAll_nil h
  exact⟨[],rfl,.nil,fun i Q p _ hp=>by simp at hp⟩
 |[],_::_,_,_,_,hl,_,_,_,_=>by simp at hl
 |_::_,[],_,_,_,hl,_,_,_,_=>by simp at hl
 |t::ts,Q::Qs,_,_,_,hl,ha,fq,h,hm=>by
  obtain⟨v,vs1,d,ds1,a,b,rfl,rfl,rfl,h1,h2⟩:=trodAll_cons h
  simp only[DataW.weightsEach,List.mem_append] at hm
  obtain⟨p,k1,k2⟩:=ha 0 t Q rfl rfl v d a (fq 0 t v rfl rfl) h1 (fun m hx=>hm m (.inl hx))
  obtain⟨sg,k3,k4,k5⟩:=Y7 (base:=base) Qs (by simpa using hl) (fun i t Q ht hq=>ha (i+1) t Q (by simpa using ht) (by simpa using hq)) (fun i t v ht hv=>fq (i+1) t v (by simpa using ht) (by simpa using hv)) h2 (fun m hx=>hm m (.inr hx))
  refine⟨p::sg,by simp[k3],k4.cons k1,fun i Q' p' hq hp=>?_⟩
  cases i with
  |zero=>simp at hq hp;subst hq;subst hp;exact k2
  |succ i=>exact k5 i Q' p' (by simpa using hq) (by simpa using hp)
theorem Rl {T:TypeId→Prop}(K:Kids P T)(hz:∀t e,T t→P.underlying t=some (.slice e)→0<P.cellsOf e){Y8:FuncId}{f:Func}(hT:∀t∈f.params.toList,T t){tb:TypeId}(hb:P.underlying tb=some .bool)(bo:f.resultTypes=#[tb])
  {s:ChangeSpec} (sq:s.vars=[]) {base:Nat} {args:Array Value} {ds gs:List (DataW H)} {before:List MemPlace}
  (ly:∀(j:Nat) t v,f.params[j]?=some t→args[j]?=some v→Value.okWide P w .any base t v) (hW:DataW.Whole enc P f.params.toList s.vars false w args.toList ds gs before)
  (eJ:(DataW.weightsEach P (f.params.toList++s.plain.varTypes P) (ds++gs)).all (·≤reachBytes)=true) (hvt:s.plain.varTypes P=[])
  (J8:∀l:List (DataW H),l.length=f.params.toList.length→s.fn H l={ results:=[.lit (.bool true)],args:=l })
  (Qs:List (PV→Prop)) (hQ:f.params.toList.length=Qs.length) (ha:∀(i:Nat) t Q,f.params.toList[i]?=some t→Qs[i]?=some Q→vD enc P w base t Q)
  (sE:∀b,b<bF.K→w.heap[b]?=bF.obj b) (RI:bF.K≤w.heap.size)
  (walk:∀sg:List PV,sg.length=Qs.length→(∀(i:Nat) Q p,Qs[i]?=some Q→sg[i]?=some p→Q p)→aN P Y8 sg fun r=>r=.bool true) :
  Calls P Y8 args w fun e w'=>∃v,e=.returned v∧s.post enc P f false true false false w args v w':=by
 have hW':=hW
 obtain⟨p,q,h1,h2,rfl,_,_⟩:=hW
 rw[sq] at h2
 obtain⟨rfl,rfl⟩:=trodVars_none h2
 rw[hvt,List.append_nil,List.append_nil] at eJ
 have AB:ds.length=f.params.toList.length:=by
  have:∀ {ts:List TypeId} {vs:List Value} {ds:List (DataW H)} {ps:List MemPlace},DataW.TrodAll enc P w 0 (fun _=>true) true ts vs ds ps→ds.length=ts.length:=by
   intro ts
   induction ts with
   |nil=>intro vs ds ps h;obtain⟨_,rfl,_⟩:=trodAll_nil h;rfl
   |cons t ts ih=>intro vs ds ps h;obtain⟨_,_,_,_,_,_,_,rfl,_,_,h⟩:=trodAll_cons h;simp[ih h]
  exact this h1
 obtain⟨sg,k1,k2,k3⟩:=Y7 (base:=base) Qs hQ ha (fun i t v ht hv=>ly i t v (by simpa using ht) (by simpa using hv)) h1 (fun m hm=>by simpa using List.all_eq_true.1 eJ m hm)
 refine((walk sg k1 k3).enter (w:=w) sE RI (ba:=args) (by have:=k2.1;simpa using this) (fun i v v' hv aQ=>k2.2 i v v' hv (by simpa using aQ))).mono fun e w' ⟨he,hu⟩=>⟨_,he,?_⟩
 have hs:=J8 (ds++[]) (by simpa using AB)
 refine zod K hz hT hW' sq (fun b sp hd=>?_) (by rw[hs];simp) (by rw[hs]) hu
 rw[hs,bo]
 exact trodAll_mk1 (v:=.bool true) (p:=[]) ⟨1,by simp[Value.cells,DataW.trod,hb]⟩
end
def ai.back (vh:ai)(i:Nat)(x:aM):ai:=⟨vh.next,(i,x)::vh.bq⟩
theorem ai.wL (vh:ai)(i j:Nat)(x:aM):(vh.back i x).get j=if j=i then some x else vh.get j:=by
 simp only[ai.get,ai.back,bt,beq_eq]
 by_cases h:j=i<;>simp[h]
section
variable {P:Program} {N b:Nat} {Q:jd} {ab:a7} {vh:ai} {lo:Nat} {g:Fz} {σ:Sg} {h:ah}
theorem dV.back {N0:Nat}{bf:aL}{h':ah}{g':Fz}{aR:Sg}{aU:a7}{ao:ai}(s:VS lo g σ vh h){i:Nat}{x x':aM}{y:bc}(hx:vh.get i=some x)(hl:x.live=true)
  (a:dV N0 vh.next lo g σ (vh.drop i) (h.put (σ i).1 none) bf h' g' aR aU ao) (vH:uo g' aR ao.next (h'.put (σ i).1 (some y)) i x') :
  VS lo g' aR (ao.back i x') (h'.put (σ i).1 (some y))∧VF σ vh h aR (ao.back i x') (h'.put (σ i).1 (some y))∧dU g σ vh h g':=by
 have aP:=(s.obj i x hx).2.lt hl
 have hi:=(s.obj i x hx).1
 have cy:aR i=σ i:=a.agree i hi
 have uK:(σ i).1<h'.next:=Nat.lt_of_lt_of_le aP a.f.next
 have gC:∀j z,ao.get j=some z→z.live=true→(aR j).1≠(σ i).1:=fun j z hz b7 he=>by
  obtain⟨k,u,k1,k2,k3⟩:=a.f.own j z hz b7 (by rw[he];exact aP)
  obtain⟨k4,k5⟩:=kK k1
  exact k4 (s.inj k i u x k5 hx k2 hl (k3.trans he))
 have zP:g' (σ i).1=none:=by
  cases hg:g' (σ i).1 with
  |none=>rfl
  |some z=>
   rcases a.own _ z hg aP with h1|⟨k,u,k1,k2,k3⟩
   ·rw[s.jU i x hx hl] at h1;cases h1
   obtain⟨k4,k5⟩:=kK k1
   exact absurd (s.inj k i u x k5 hx k2 hl k3) k4
 have rS:∀p,(h'.put (σ i).1 (some y)).get p=if p=(σ i).1 then some y else h'.get p:=fun p=>ah.dJ _ _ _ _ uK
 refine⟨⟨fun j z hz=>?_,fun j k z u hz hu b7 tU he=>?_,fun j z hz b7=>?_,fun p z hz=>?_,fun j z hz b7=>?_,a.s.bO⟩,⟨a.f.next,fun p hp hn=>?_,fun j z hz b7 oM=>?_⟩,fun p z hz hp=>?_⟩
 ·rw[ai.wL] at hz
  by_cases hj:j=i
  ·subst hj;simp at hz;subst hz;exact⟨Nat.lt_of_lt_of_le hi a.base,vH⟩
  simp[hj] at hz
  obtain⟨k1,k2⟩:=a.s.obj j z hz
  exact⟨k1,k2.mono (Fz.le_refl g') (Nat.le_refl _) (fun _ _=>rfl) k1 fun b7=>by rw[rS,if_neg (gC j z hz b7)]⟩
 ·rw[ai.wL] at hz hu
  by_cases hj:j=i<;>by_cases hk:k=i
  ·rw[hj,hk]
  ·simp[hk] at hu;subst hj;rw[cy] at he;exact absurd he.symm (gC k u hu tU)
  ·simp[hj] at hz;subst hk;rw[cy] at he;exact absurd he (gC j z hz b7)
  simp[hj] at hz;simp[hk] at hu;exact a.s.inj j k z u hz hu b7 tU he
 ·rw[ai.wL] at hz
  by_cases hj:j=i
  ·subst hj;rw[cy];exact s.low j x hx hl
  simp[hj] at hz;exact a.s.low j z hz b7
 ·rw[rS,if_neg (by rintro rfl;rw[zP] at hz;cases hz)];exact a.s.fz p z hz
 ·rw[ai.wL] at hz
  by_cases hj:j=i
  ·subst hj;rw[cy];exact zP
  simp[hj] at hz;exact a.s.jU j z hz b7
 ·have wM:p≠(σ i).1:=fun he=>hn i x hx hl he.symm
  rw[rS,if_neg wM,a.f.gD p hp fun j z hz b7=>hn j z (kK hz).2 b7,ah.dJ _ _ _ _ aP,if_neg wM]
 ·rw[ai.wL] at hz
  by_cases hj:j=i
  ·subst hj;exact⟨j,x,hx,hl,by rw[cy]⟩
  simp[hj] at hz
  obtain⟨k,u,k1,k2,k3⟩:=a.f.own j z hz b7 oM
  exact⟨k,u,(kK k1).2,k2,k3⟩
 rcases a.own p z hz hp with h1|⟨k,u,k1,k2,k3⟩
 ·exact .inl h1
 exact .inr ⟨k,u,(kK k1).2,k2,k3⟩
def mz (ab:a7):List (Tmp×PV)→a7
 |[]=>ab
 |(t,v)::r=>mz ((t,v)::ab) r
theorem Ru {n:Nat}:∀ {ps:List Tmp} {l:List PV} {l':List Value} {ab:a7} {ts:aL},VT g σ n ab ts→bh (VR g σ n) l l'→(∀t∈ps,t<ts.length)→
  VT g σ n (mz ab (ps.zip l)) (um ts (ps.zip l'))∧(um ts (ps.zip l')).length=ts.length
 |[],_,_,_,_,ht,_,_=>by exact⟨by simpa[mz,um] using ht,by simp[um]⟩
 |p::ps,[],l',ab,ts,ht,hl,_=>by
  have:=hl.jM;subst this
  exact⟨by simpa[mz,um] using ht,by simp[um]⟩
 |p::ps,v::l,l',ab,ts,ht,hl,hp=>by
  obtain⟨v',r',rfl,h1,h2⟩:=hl.dE
  simp only[List.zip_cons_cons,mz,um]
  have aP:=hp p List.mem_cons_self
  obtain⟨k1,k2⟩:=Ru (ps:=ps) (l:=l) (l':=r') (ab:=(p,v)::ab) (ts:=ts.set p v') (fun t u hu=>by
   simp only[bK,beq_eq] at hu
   by_cases RK:t=p
   ·subst RK;simp at hu;subst hu
    rw[List.getD_eq_getElem?_getD,List.getElem?_set_self aP];exact h1
   simp[RK] at hu
   rw[List.getD_eq_getElem?_getD,List.getElem?_set_ne (fun h=>RK h.symm),← List.getD_eq_getElem?_getD];exact ht t u hu) h2 (fun t hm=>by simp;exact hp t (List.mem_cons_of_mem _ hm))
  exact⟨k1,by simpa using k2⟩
def xa0 (N0:Nat)(ps:Array Tmp)(assign body:Code)(dp:a7)(i:Nat)(K:Bool→ai→Prop):jd
 |.normal,_,ao=>K true (ao.back i (.loop N0 ps assign body dp none))
 |.ret,_,ao=>K false (ao.back i (.loop N0 ps assign body dp (some .ret)))
 |.exit id,_,ao=>K false (ao.back i (.loop N0 ps assign body dp (some (.exit id))))
 |_,_,_=>False
theorem lN.yield {o:Oper}{fo:Operand}{args:Array Operand}{aT:Array TypeId}{i N0:Nat}{ps:Array Tmp}{assign body:Code}{dp:a7}{l:List PV}{next:a7→ai→Prop}(ho:o.op=.call ⟨.value fo,args,aT⟩)
  (hf:cC ab fo=some (.bY i)) (hl:iE ab args.toList=some l) (hg:vh.get i=some (.loop N0 ps assign body dp none)) (hlen:l.length=ps.size) (gr:ps.toList.all (Nat.blt · N0)=true) (hd:iq N o.dst=true)
  (hc:VW P N0 vh.next assign (BS (VW P N0 vh.next body (xa0 N0 ps assign body dp i fun bb ao=>next (bP ab o.dst (.bool bb)) ao)) (fun _ _ _=>False)) (mz dp (ps.toList.zip l)) (vh.drop i)) :
  lN P N b o next ab vh:=fun lo g σ h ts ht hn s hb=>by
 obtain⟨f',k1,k2⟩:=eO ht hf
 obtain⟨l',k3,k4⟩:=AU ht hl
 obtain⟨hi,L,q1,q2,q3,q4,q5,q6⟩:=s.obj i _ hg
 have JI:f'=.func (.yield (σ i).1) #[] #[]:=by
  cases k2 with
  |fr _ _ h=>cases h
  |bY _ o a k dD hs=>rw[hs]
 subst JI
 subst q2;subst q3;subst q4
 have fc:aM.live (.loop N0 L.params L.assign L.body dp none)=true:=rfl
 obtain⟨sk,_⟩:=s.kill hg fc
 have jh:∀t∈L.params.toList,t<L.ts.length:=fun t Ht=>by
  rw[List.all_eq_true] at gr
  rw[q5];simpa using gr t Ht
 obtain⟨e1,e2⟩:=Ru (g:=g) (σ:=σ) (n:=vh.next) (ps:=L.params.toList) q6 k4 jh
 refine .yield ho k1 k3 q1 (s.low i _ hg fc) (by rw[← hlen,k4.1]) ?_
 have run:=hc lo g σ (h.put (σ i).1 none) _ e1 (e2.trans q5) sk (Nat.le_refl _)
 have fin:∀(jump:Option Code) (nr:aL) (h2:ah) (g2:Fz) (dG:Sg) (aA:a7) (aV:ai),dV N0 vh.next lo g σ (vh.drop i) (h.put (σ i).1 none) nr h2 g2 dG aA aV→
   next (bP ab o.dst (.bool jump.isNone)) (aV.back i (.loop N0 L.params L.assign L.body dp jump))→qt N b lo g σ vh h next (bE ts o.dst (.bool jump.isNone)) (h2.put (σ i).1 (some (.loop L jump))):=by
  intro jump nr h2 g2 dG aA aV a hk
  have cy:dG i=σ i:=a.agree i hi
  have oM:(σ i).1<h2.next:=Nat.lt_of_lt_of_le ((s.obj i _ hg).2.lt fc) a.f.next
  obtain⟨r1,r2,r3⟩:=dV.back (x':=.loop N0 L.params L.assign L.body dp jump) (y:=.loop L jump) s hg fc a ⟨L,by rw[cy,ah.dJ _ _ _ _ oM];simp,rfl,rfl,rfl,q5,q6.mono a.le a.base a.agree⟩
  obtain⟨t1,t2⟩:=sU a.le a.base a.agree ht o.dst (hn▸hd) (.fr _ _ (.bool jump.isNone):VR g2 dG aV.next (.bool jump.isNone) (.bool jump.isNone))
  exact⟨g2,dG,_,aV.back i (.loop N0 L.params L.assign L.body dp jump),⟨t1,t2.trans hn,r1,a.le,fun j hj=>a.agree j (by omega),r2,Nat.le_trans hb a.base,r3⟩,hk⟩
 refine run.mono fun e jT h1 hs=>?_
 cases e with
 |normal=>
  obtain⟨g1,rB,iY,cn,a1,hW⟩:=hs
  refine(hW lo g1 rB h1 jT a1.t a1.len a1.s a1.base).mono fun e nr h2 gy=>?_
  cases e with
  |normal=>obtain⟨g2,dG,aA,aV,a2,hk⟩:=gy;exact fin none _ _ _ _ _ _ (a1.trans a2) hk
  |ret=>obtain⟨g2,dG,aA,aV,a2,hk⟩:=gy;exact fin (some .ret) _ _ _ _ _ _ (a1.trans a2) hk
  |exit id=>obtain⟨g2,dG,aA,aV,a2,hk⟩:=gy;exact fin (some (.exit id)) _ _ _ _ _ _ (a1.trans a2) hk
  |goto l=>obtain⟨_,_,_,_,_,hk⟩:=gy;exact hk.elim
  |panic ch=>obtain⟨_,_,_,_,_,hk⟩:=gy;exact hk.elim
  |outgrown=>obtain⟨_,_,_,_,_,hk⟩:=gy;exact hk.elim
 |exit id=>obtain⟨_,_,_,_,_,hk⟩:=hs;exact hk.elim
 |goto l=>obtain⟨_,_,_,_,_,hk⟩:=hs;exact hk.elim
 |ret=>obtain⟨_,_,_,_,_,hk⟩:=hs;exact hk.elim
 |panic ch=>obtain⟨_,_,_,_,_,hk⟩:=hs;exact hk.elim
 |outgrown=>obtain⟨_,_,_,_,_,hk⟩:=hs;exact hk.elim
@[irreducible] def mD (i:Nat)(ab:a7)(Q:jd)(ao:ai):Prop:=match ao.get i with
 |some (.loop _ _ _ _ _ none)=>Q .normal ab (ao.drop i)
 |some (.loop _ _ _ _ _ (some .ret))=>Q .ret ab (ao.drop i)
 |some (.loop _ _ _ _ _ (some (.exit id)))=>Q (.exit id) ab (ao.drop i)
 |_=>False
def YD (i:Nat)(ab:a7)(Q:jd):jd
 |.normal,_,ao=>mD i ab Q ao
 |.ret,_,ao=>mD i ab Q ao
 |_,_,_=>False
theorem Eg {i:Nat}{ab aA:a7}{Q:jd}{ao:ai}{N2:Nat}{tX:Array Tmp}{a2 b2:Code}(h:ao.get i=some (.loop N2 tX a2 b2 aA none))(k:Q .normal ab (ao.drop i)):mD i ab Q ao:=by
 unfold mD;rw[h];exact k
theorem CB {i:Nat}{ab aA:a7}{Q:jd}{ao:ai}{N2:Nat}{tX:Array Tmp}{a2 b2:Code}(h:ao.get i=some (.loop N2 tX a2 b2 aA (some .ret)))(k:Q .ret ab (ao.drop i)):mD i ab Q ao:=by
 unfold mD;rw[h];exact k
theorem xbk {i id:Nat}{ab aA:a7}{Q:jd}{ao:ai}{N2:Nat}{tX:Array Tmp}{a2 b2:Code}(h:ao.get i=some (.loop N2 tX a2 b2 aA (some (.exit id))))(k:Q (.exit id) ab (ao.drop i)):mD i ab Q ao:=by
 unfold mD;rw[h];exact k
theorem xbp {n m:Nat}{args:List PV}{aB:List Value}(ha:bh (VR g σ n) args aB):VT g σ n (lD 0 args) (aB++List.replicate m Go.undef):=fun t v hv=>by
 rw[RF] at hv
 simp at hv
 obtain⟨v',h1,h2⟩:=ha.get hv
 have aP:t<aB.length:=by
  rcases Nat.lt_or_ge t aB.length with h|h
  ·exact h
  rw[List.getElem?_eq_none h] at h1;cases h1
 have:(aB++List.replicate m Go.undef).getD t Go.undef=v':=by
  rw[List.getD,List.getElem?_append_left aP,h1];rfl
 rw[this];exact h2
theorem VW.rangeFunc {g0:Operand}{ps:Array Tmp}{assign body:Code}{f:FuncId}{fn:Func}{c:Code}{xs ys:List PV}(hg:cC ab g0=some (.func f xs ys))(dM:∀cs w,(callFunc f cs).run P w=.ok (.enter f cs) w)
  (hf:P.funcs[f]?=some fn) (hb:fn.body=some c) (hr:fn.results=#[]) (hn:Nat.ble (xs.length+1+ys.length) fn.ntmps=true)
  (hc:VW P fn.ntmps (vh.next+1) c (YD vh.next ab Q) (lD 0 (xs++[.bY vh.next]++ys)) (vh.alloc (.loop N ps assign body ab none))):VW P N b (.rangeFunc g0 ps assign body) Q ab vh:=fun lo g σ h ts ht hN s wC=>by
 obtain⟨f',k1,k2⟩:=eO ht hg
 obtain⟨bw,dK,rfl,hx,hy⟩:=MJ k2
 have BW:∀i,i<vh.next→(σ.put vh.next (h.next,0,0)) i=σ i:=fun i hi=>Sg.zy _ _ (by omega)
 obtain⟨s1,f1⟩:=s.alloc (x:=.loop N ps assign body ab none) (.loop ⟨ps,assign,body,ts,0⟩ none) 0 ⟨⟨ps,assign,body,ts,0⟩,by rw[Sg.cB,ah.jf];simp,rfl,rfl,rfl,hN,ht.mono (Fz.le_refl g) (Nat.le_succ _) BW⟩
 have ha:bh (VR g (σ.put vh.next (h.next,0,0)) (vh.next+1)) (xs++[.bY vh.next]++ys) (bw.toList++[Value.func (.yield h.next) #[] #[]]++dK.toList):=
  ((hx.DT (Fz.le_refl g) (Nat.le_succ _) BW).append (.cons (.bY vh.next h.next 0 0 (Nat.lt_succ_self _) (Sg.cB _ _ _)) .nil)).append (hy.DT (Fz.le_refl g) (Nat.le_succ _) BW)
 refine .rangeFunc 0 k1 dM (.bT hf hb ?_)
 have hlen:((bw.toList++[Value.func (.yield h.next) #[] #[]]++dK.toList)++List.replicate (fn.ntmps - (bw.toList++[Value.func (.yield h.next) #[] #[]]++dK.toList).length) Go.undef).length=fn.ntmps:=by
  have h1:=ha.1
  have h2:xs.length+1+ys.length≤fn.ntmps:=by simpa using hn
  simp at h1 ⊢;omega
 refine(hc lo g _ _ _ (xbp ha) hlen s1 (Nat.le_refl _)).mono fun e bf h' ⟨g',aR,aU,ao,a,k⟩=>?_
 have fin:mD vh.next ab Q ao→∃l,uO P bf h' fn.results.toList=some l∧∃L jump,h'.get h.next=some (.loop L jump)∧match jump with
    |none=>qt N b lo g σ vh h (Q .normal) ts (h'.put h.next none)
    |some c=>AW P lo c (fun e=>qt N b lo g σ vh h (Q e)) ts (h'.put h.next none):=fun vG=>by
  refine⟨[],by rw[hr];rfl,?_⟩
  have eh:aR vh.next=(h.next,0,0):=(a.agree vh.next (Nat.lt_succ_self _)).trans (Sg.cB _ _ _)
  have J9:∀i,i<vh.next→aR i=σ i:=fun i hi=>(a.agree i (by omega)).trans (BW i hi)
  have Y9:vh.next≤ao.next:=Nat.le_trans (Nat.le_succ _) a.base
  have done:∀ {N2 tX a2 b2 aA jump},ao.get vh.next=some (.loop N2 tX a2 b2 aA jump)→∀ {K:a7→ai→Prop},K ab (ao.drop vh.next)→qt N b lo g σ vh h K ts (h'.put h.next none):=fun sF K hK=>by
   have:=a.s.kill sF rfl
   rw[eh] at this
   exact⟨g',aR,ab,ao.drop vh.next,⟨ht.mono a.le Y9 J9,hN,this.1,a.le,fun i hi=>J9 i (by omega),(f1.trans a.f).trans this.2,Nat.le_trans wC Y9,(dU.refl g σ vh h).trans f1 a.own⟩,hK⟩
  have obj:∀ {N2 tX a2 b2 aA jump},ao.get vh.next=some (.loop N2 tX a2 b2 aA jump)→∃L,h'.get h.next=some (.loop L jump):=fun sF=>by
   obtain⟨_,L,q1,_⟩:=a.s.obj _ _ sF
   rw[eh] at q1
   exact⟨L,q1⟩
  unfold mD at vG
  split at vG
  ·rename_i sF;obtain⟨L,hL⟩:=obj sF;exact⟨L,none,hL,done sF vG⟩
  ·rename_i sF;obtain⟨L,hL⟩:=obj sF;exact⟨L,some .ret,hL,.ret (done sF vG)⟩
  ·rename_i id sF;obtain⟨L,hL⟩:=obj sF;exact⟨L,some (.exit id),hL,.exit (done sF vG)⟩
  exact vG.elim
 cases e with
 |normal=>exact fin k
 |ret=>exact fin k
 |exit id=>exact k.elim
 |goto l=>exact k.elim
 |panic ch=>exact k.elim
 |outgrown=>exact k.elim
end
section
variable {P:Program} {N b lo:Nat} {Q:jd} {ab:a7} {vh ao:ai} {g g':Fz} {σ aR:Sg} {h h':ah}
theorem VS.RL (s:VS lo g σ vh h){T:ah}{V:ai}{ids:List Nat}(hn:T.next=h.next)(hv:V.next=vh.next)(hV:∀j x,V.get j=some x→vh.get j=some x∧j∉ids)
  (hT:∀o,T.get o=h.get o∨∃i x,i∈ids∧vh.get i=some x∧x.live=true∧(σ i).1=o):VS lo g σ V T:=by
 refine⟨fun j x hx=>?_,fun i j x y hx hy=>s.inj i j x y (hV i x hx).1 (hV j y hy).1,fun j x hx=>s.low j x (hV j x hx).1,fun o x hx=>?_,fun j x hx=>s.jU j x (hV j x hx).1,hn▸s.bO⟩
 ·obtain⟨h1,h2⟩:=hV j x hx
  obtain⟨k1,k2⟩:=s.obj j x h1
  rw[hv]
  refine⟨k1,k2.mono (Fz.le_refl g) (Nat.le_refl _) (fun _ _=>rfl) k1 fun hl=>?_⟩
  rcases hT (σ j).1 with h|⟨i,y,hi,hy,jb,he⟩
  ·exact h
  have:=s.inj i j y x hy h1 jb hl he
  subst this;exact absurd hi h2
 rcases hT o with h|⟨i,y,hi,hy,jb,he⟩
 ·rw[h];exact s.fz o x hx
 have:=s.jU i y hy jb
 rw[he,hx] at this;cases this
theorem dV.xgi {σs:Sg}{gs:Fz}{Za:ai}{hs:ah}{cb bf:aL}{dp aU:a7}{V V2:ai}{T H2:ah}{ids:List Nat}(a0:dV N b lo gs σs Za hs cb h g σ dp vh)
  (hn:T.next=h.next) (hv:V.next=vh.next) (hV:∀j x,V.get j=some x→vh.get j=some x∧j∉ids)
  (hid:∀i∈ids,∃x,vh.get i=some x∧x.live=true)
  (hT:∀o,T.get o=h.get o∨∃i,i∈ids∧(σ i).1=o)
  (a:dV N vh.next lo g σ V T bf h' g' aR aU ao)
  (Zb:H2.next=h'.next) (h2:∀o,(∃i,i∈ids∧(σ i).1=o∧H2.get o=h.get o)∨((∀i∈ids,(σ i).1≠o)∧H2.get o=h'.get o))
  (RM:V2.next=ao.next) (zZ:∀j x,V2.get j=some x→(j∈ids∧vh.get j=some x)∨(j∉ids∧ao.get j=some x)) :
  dV N b lo gs σs Za hs bf H2 g' aR aU V2:=by
 have s:=a0.s
 have lt:∀i x,vh.get i=some x→i<vh.next:=fun i x hx=>(s.obj i x hx).1
 have eh:∀i,i<vh.next→aR i=σ i:=a.agree
 have uT:∀j z,ao.get j=some z→z.live=true→∀i∈ids,(aR j).1≠(σ i).1:=fun j z hz b7 i hi he=>by
  obtain⟨x,hx,hl⟩:=hid i hi
  obtain⟨k,u,k1,k2,k3⟩:=a.f.own j z hz b7 (by rw[he,hn];exact(s.obj i x hx).2.lt hl)
  obtain⟨k4,k5⟩:=hV k u k1
  have:=s.inj k i u x k4 hx k2 hl (k3.trans he)
  subst this;exact k5 hi
 have zP:∀i∈ids,g' (σ i).1=none:=fun i hi=>by
  obtain⟨x,hx,hl⟩:=hid i hi
  cases hg:g' (σ i).1 with
  |none=>rfl
  |some z=>
   rcases a.own _ z hg (by rw[hn];exact(s.obj i x hx).2.lt hl) with h1|⟨k,u,k1,k2,k3⟩
   ·rw[s.jU i x hx hl] at h1;cases h1
   obtain⟨k4,k5⟩:=hV k u k1
   have:=s.inj k i u x k4 hx k2 hl k3
   subst this;exact absurd hi k5
 have eK:∀j x,j∈ids→vh.get j=some x→x.live=true→H2.get (σ j).1=h.get (σ j).1:=fun j x hj hx hl=>by
  rcases h2 (σ j).1 with⟨i,hi,he,h3⟩|⟨h3,_⟩
  ·exact h3
  exact absurd rfl (h3 j hj)
 refine⟨?_,a.len,⟨fun j x hx=>?_,fun j k x y hx hy ze jb he=>?_,fun j x hx hl=>?_,fun o x hx=>?_,fun j x hx hl=>?_,Zb▸a.s.bO⟩,Fz.le_trans a0.le a.le,fun i hi=>(eh i (Nat.lt_of_lt_of_le hi a0.base)).trans (a0.agree i hi),
  ⟨Zb▸(Nat.le_trans a0.f.next (hn▸a.f.next)),fun o ho gC=>?_,fun j x hx hl aP=>?_⟩,RM▸(Nat.le_trans a0.base a.base),fun o x hx ho=>?_⟩
 ·rw[RM];exact a.t
 ·rw[RM]
  rcases zZ j x hx with⟨hj,hx⟩|⟨hj,hx⟩
  ·obtain⟨k1,k2⟩:=s.obj j x hx
   exact⟨Nat.lt_of_lt_of_le k1 a.base,k2.mono a.le a.base eh k1 fun hl=>eK j x hj hx hl⟩
  obtain⟨k1,k2⟩:=a.s.obj j x hx
  refine⟨k1,k2.mono (Fz.le_refl g') (Nat.le_refl _) (fun _ _=>rfl) k1 fun hl=>?_⟩
  rcases h2 (aR j).1 with⟨i,hi,he,h3⟩|⟨_,h3⟩
  ·exact absurd he.symm (uT j x hx hl i hi)
  exact h3
 ·rcases zZ j x hx with⟨hj,hx⟩|⟨hj,hx⟩<;>rcases zZ k y hy with⟨hk,hy⟩|⟨hk,hy⟩
  ·rw[eh j (lt j x hx),eh k (lt k y hy)] at he;exact s.inj j k x y hx hy ze jb he
  ·rw[eh j (lt j x hx)] at he;exact absurd he.symm (uT k y hy jb j hj)
  ·rw[eh k (lt k y hy)] at he;exact absurd he (uT j x hx ze k hk)
  exact a.s.inj j k x y hx hy ze jb he
 ·rcases zZ j x hx with⟨hj,hx⟩|⟨hj,hx⟩
  ·rw[eh j (lt j x hx)];exact s.low j x hx hl
  exact a.s.low j x hx hl
 ·rcases h2 o with⟨i,hi,he,h3⟩|⟨_,h3⟩
  ·subst he;rw[zP i hi] at hx;cases hx
  rw[h3];exact a.s.fz o x hx
 ·rcases zZ j x hx with⟨hj,hx⟩|⟨hj,hx⟩
  ·rw[eh j (lt j x hx)];exact zP j hj
  exact a.s.jU j x hx hl
 ·have h3:=a0.f.gD o ho gC
  have aP:o<h.next:=Nat.lt_of_lt_of_le ho a0.f.next
  rcases h2 o with⟨i,hi,he,h4⟩|⟨h4,h5⟩
  ·rw[h4,h3]
  rw[h5,a.f.gD o (by rw[hn];exact aP) fun j x hx hl he=>?_]
  ·rcases hT o with h6|⟨i,hi,he⟩
   ·rw[h6,h3]
   exact absurd he (h4 i hi)
  obtain⟨k,u,k1,k2,k3⟩:=a0.f.own j x (hV j x hx).1 hl (by rw[he];exact ho)
  exact gC k u k1 k2 (k3.trans he)
 ·rcases zZ j x hx with⟨hj,hx⟩|⟨hj,hx⟩
  ·rw[eh j (lt j x hx)] at aP ⊢;exact a0.f.own j x hx hl aP
  obtain⟨k,u,k1,k2,k3⟩:=a.f.own j x hx hl (by rw[hn];exact Nat.lt_of_lt_of_le aP a0.f.next)
  obtain⟨q,w,q1,q2,q3⟩:=a0.f.own k u (hV k u k1).1 k2 (by rw[k3];exact aP)
  exact⟨q,w,q1,q2,q3.trans k3⟩
 rcases a.own o x hx (by rw[hn];exact Nat.lt_of_lt_of_le ho a0.f.next) with h3|⟨k,u,k1,k2,k3⟩
 ·exact a0.own o x h3 ho
 obtain⟨q,w,q1,q2,q3⟩:=a0.f.own k u (hV k u k1).1 k2 (by rw[k3];exact ho)
 exact .inr ⟨q,w,q1,q2,q3.trans k3⟩
def gk (P:Program)(ab:a7)(vh:ai):Op→Option (PV×aM)
 |.alloc t=>(ey P t).map fun z=>(.ptr vh.next 0,.box z)
 |.box _ x=>(cC ab x).map fun v=>(.ptr vh.next 0,.box v.cells)
 |.buildSlice t n parts=>match mw ab parts.toList with
  |some l=>match nF P ⟨vh.next,[]⟩ t n l with
   |some (v,aV)=>match aV.get vh.next with
    |some x=>some (v,x)
    |none=>none
   |none=>none
  |none=>none
 |.makeSlice t l c=>match cC ab l,cC ab c with
  |some a,some b=>match nG P ⟨vh.next,[]⟩ t a b with
   |some (v,aV)=>match aV.get vh.next with
    |some x=>some (v,x)
    |none=>none
   |none=>none
  |_,_=>none
 |_=>none
theorem z7v {ts:aL}(ht:VT g σ vh.next ab ts){op:Op}{v:PV}{x:aM}(hv:gk P ab vh op=some (v,x))(id:Nat):∃v' y,jk P ts id op=some (v',y)∧x.live=true∧
  ∀(dG:Sg) (h2:ah),dG vh.next=(id,0,0)→(∀i,i<vh.next→dG i=σ i)→h2.get id=some y→VR g dG (vh.next+1) v v'∧uo g dG (vh.next+1) h2 vh.next x:=by
 cases op<;>simp only[gk] at hv<;>try (cases hv;done)
 case alloc t=>
  obtain⟨z,h1,h2⟩:=dq hv
  simp only[bG] at h2
  obtain⟨rfl,rfl⟩:=h2
  obtain⟨z',k1,k2⟩:=zz (g:=g) h1
  refine⟨_,_,by simp only[jk,k1];rfl,rfl,fun dG h2 e1 e2 e3=>⟨?_,0,z',by rw[e1];exact e3,by rw[e1],k2.vr⟩⟩
  have:=VR.ptr (g:=g) (σ:=dG) (n:=vh.next+1) vh.next 0 id 0 0 (by omega) e1
  simpa using this
 case box t y=>
  obtain⟨u,h1,h2⟩:=dq hv
  simp only[bG] at h2
  obtain⟨rfl,rfl⟩:=h2
  obtain⟨u',k1,k2⟩:=eO ht h1
  refine⟨_,_,by simp only[jk,k1];rfl,rfl,fun dG h2 e1 e2 e3=>⟨?_,0,u'.cells.toList,by rw[e1];exact e3,by rw[e1],k2.cells.DT (Fz.le_refl g) (Nat.le_succ _) e2⟩⟩
  have:=VR.ptr (g:=g) (σ:=dG) (n:=vh.next+1) vh.next 0 id 0 0 (by omega) e1
  simpa using this
 case buildSlice t len parts=>
  split at hv
  ·rename_i l hl
   obtain⟨l',k1,k2⟩:=KX ht hl
   split at hv
   ·rename_i v0 aV hb
    unfold nF at hb
    split at hb
    ·rename_i e n2 ka
     split at hb
     ·rename_i z ag hz eh
      obtain⟨z',h1,h2⟩:=zz (g:=g) hz
      cases zf:(Nat.beq z.length n2&&Nat.ble (len*n2) 16777216&&Nat.blt 0 n2) with
      |false=>rw[zf] at hb;cases hb
      |true=>
       rw[zf] at hb
       simp only[aO] at hb
       split at hb
       ·rename_i cs hf
        cases ha:PV.aF cs with
        |false=>rw[ha] at hb;cases hb
        |true=>
         rw[ha] at hb
         simp only[aO,ax,bG] at hb
         obtain⟨rfl,rfl⟩:=hb
         have tA:(ai.alloc ⟨vh.next,[]⟩ (.arr ag n2 cs)).get vh.next=some (.arr ag n2 cs):=by rw[ai.jf];simp
         rw[tA] at hv
         simp only[ax,bG] at hv
         obtain⟨rfl,rfl⟩:=hv
         obtain⟨ar,h4,h5⟩:=HA k2 (FM h2.vr len) hf
         have qY:(Nat.beq z'.length n2&&Nat.ble (len*n2) 16777216&&Nat.blt 0 n2)=true:=by rw[← h2.1];exact zf
         simp only[bS,Nat.blt_eq,Nat.ble_eq] at zf
         have hlen:len≤len*n2:=Nat.le_mul_of_pos_right _ zf.2
         have dx:(16777216:Nat)<az:=by decide
         refine⟨_,_,by simp only[jk,k1,ka,h1,qY,aO,h4];rfl,rfl,fun dG h3 e1 e2 e3=>⟨?_,zf.2,0,ar,by rw[e1];exact e3,by rw[e1],h5.aG ha⟩⟩
         have:=VR.own (g:=g) (σ:=dG) (n:=vh.next+1) vh.next 0 len len id 0 0 (by omega) e1 (Nat.le_refl _) (by omega)
         simpa using this
       cases hb
     cases hb
    cases hb
   cases hv
  cases hv
 case makeSlice t lx cx=>
  split at hv
  ·rename_i la ca hla RN
   obtain⟨l',q1,q2⟩:=eO ht hla
   obtain⟨c',q3,q4⟩:=eO ht RN
   split at hv
   ·rename_i v0 aV hb
    unfold nG at hb
    split at hb
    ·rename_i l c e n ka
     have:=q2.aG rfl;cases this
     have:=q4.aG rfl;cases this
     split at hb
     ·rename_i z bytes ag hz pU eh
      obtain⟨z',h1,h2⟩:=zz (g:=g) hz
      cases zf:(decide (0≤l∧l≤c∧c≤4294967296)&&Nat.beq z.length n&&Nat.ble bytes 4096&&Nat.blt 0 n) with
      |false=>rw[zf] at hb;cases hb
      |true=>
       rw[zf] at hb
       simp only[aO,ax,bG] at hb
       obtain⟨rfl,rfl⟩:=hb
       have tA:(ai.alloc ⟨vh.next,[]⟩ (.arr ag n (cz z c.toNat))).get vh.next=some (.arr ag n (cz z c.toNat)):=by rw[ai.jf];simp
       rw[tA] at hv
       simp only[ax,bG] at hv
       obtain⟨rfl,rfl⟩:=hv
       simp only[bS,decide_eq_true_eq,Nat.blt_eq,Nat.ble_eq] at zf
       obtain⟨⟨⟨⟨kf,cT,nY⟩,zA⟩,NX⟩,HB⟩:=zf
       have Fw:z'.length=n:=by rw[← h2.1];simpa using zA
       cases l with
       |negSucc l=>omega
       |ofNat l=>
        cases c with
        |negSucc c=>omega
        |ofNat c=>
         have e1:l≤c:=by have:(l:Int)≤(c:Int):=cT;omega
         have e2:c≤4294967296:=by have:(c:Int)≤4294967296:=nY;omega
         have e3:bytes*c≤4096*4294967296:=Nat.mul_le_mul NX e2
         have de:(Nat.beq z'.length n&&Nat.ble l c&&Nat.ble (bytes*c) 281474976710656&&Nat.blt 0 n&&Nat.ble c 281474976710656)=true:=by
          simp only[bS,Nat.ble_eq,Nat.blt_eq]
          exact⟨⟨⟨⟨by rw[Fw];exact Nat.beq_refl n,e1⟩,by omega⟩,HB⟩,by omega⟩
         have dx:(4294967296:Nat)<az:=by decide
         refine⟨_,_,by simp only[jk,q1,q3,ka,h1,pU,de,aO];rfl,rfl,fun dG h3 k1 k2 k3=>⟨?_,HB,0,db z' c,by rw[k1];exact k3,by rw[k1],FM h2 c⟩⟩
         have:=VR.own (g:=g) (σ:=dG) (n:=vh.next+1) vh.next 0 l c id 0 0 (by omega) k1 e1 (by omega)
         simpa using this
     cases hb
    cases hb
   cases hv
  cases hv
end
theorem tY {base:Nat}{M:Nat→Bool}{h:ah}:∀fl:List (Nat×bc),(iO base M fl h).next=h.next
 |[]=>rfl
 |(i,x)::r=>by
  simp only[iO]
  cases M i<;>simp[tY r]
theorem BX {base:Nat}{M:Nat→Bool}{h:ah}{o:Nat}:∀ {fl:List (Nat×bc)},(∀q∈fl,base+q.1<h.next)→(∀q∈fl,M q.1=true→base+q.1≠o)→(iO base M fl h).get o=h.get o
 |[],_,_=>rfl
 |(i,x)::r,hl,hq=>by
  have ih:=BX (base:=base) (M:=M) (h:=h) (o:=o) (fl:=r) (fun q hm=>hl q (List.mem_cons_of_mem _ hm)) fun q hm=>hq q (List.mem_cons_of_mem _ hm)
  simp only[iO]
  cases hM:M i with
  |false=>simpa using ih
  |true=>
   have h1:=hl (i,x) List.mem_cons_self
   rw[aO,ah.dJ _ _ _ _ (by rw[tY];exact h1),if_neg fun he=>hq (i,x) List.mem_cons_self hM he.symm,ih]
theorem Ka {base:Nat}{M:Nat→Bool}{h:ah}:∀ {fl:List (Nat×bc)},(∀q∈fl,base+q.1<h.next)→(fl.map (·.1)).Nodup→∀q∈fl,M q.1=true→(iO base M fl h).get (base+q.1)=some q.2
 |[],_,_,q,hq,_=>by cases hq
 |(i,x)::r,hl,hn,q,hq,hM=>by
  rw[List.map_cons,List.nodup_cons] at hn
  have hr:∀q∈r,base+q.1<h.next:=fun q hm=>hl q (List.mem_cons_of_mem _ hm)
  have h1:=hl (i,x) List.mem_cons_self
  simp only[iO]
  rcases List.mem_cons.1 hq with rfl|hq
  ·rw[hM,aO,ah.dJ _ _ _ _ (by rw[tY];exact h1),if_pos rfl]
  have ih:=Ka (base:=base) (M:=M) hr hn.2 q hq hM
  cases NA:M i with
  |false=>simpa using ih
  |true=>
   have cY:base+q.1≠base+i:=fun he=>hn.1 (by
    have:q.1=i:=by omega
    exact List.mem_map.2 ⟨q,hq,this⟩)
   rw[aO,ah.dJ _ _ _ _ (by rw[tY];exact h1),if_neg cY,ih]
def fW (ms:List Nat)(k:Nat)(cW:List (Nat×Nat)):List (Nat×Nat):=cW.filter fun p=>!bm ms p.1 k
def cS (ms:List Nat)(k:Nat)(cW:List (Nat×Nat)):List Nat:=(fW ms k cW).map (·.2)
def lg (wN:ai):List Nat→ai→ai
 |[],vh=>vh
 |i::r,vh=>match wN.get i with
  |some x=>(lg wN r vh).back i x
  |none=>lg wN r vh
theorem RO (wN:ai):∀(l:List Nat) (vh:ai),(lg wN l vh).next=vh.next
 |[],_=>rfl
 |i::r,vh=>by
  simp only[lg]
  split
  ·exact RO wN r vh
  exact RO wN r vh
theorem Zc (wN:ai):∀(l:List Nat) (vh:ai),(∀i∈l,∃x,wN.get i=some x)→∀j x,(lg wN l vh).get j=some x→(j∈l∧wN.get j=some x)∨(j∉l∧vh.get j=some x)
 |[],vh,_,j,x,h=>.inr ⟨by simp,h⟩
 |i::r,vh,hl,j,x,h=>by
  obtain⟨y,hy⟩:=hl i List.mem_cons_self
  simp only[lg,hy,ai.wL] at h
  by_cases hj:j=i
  ·subst hj;simp at h;subst h;exact .inl ⟨List.mem_cons_self,hy⟩
  simp[hj] at h
  rcases Zc wN r vh (fun k hk=>hl k (List.mem_cons_of_mem _ hk)) j x h with⟨h1,h2⟩|⟨h1,h2⟩
  ·exact .inl ⟨List.mem_cons_of_mem _ h1,h2⟩
  exact .inr ⟨by simp[hj,h1],h2⟩
structure Zd (base:Nat) (aR:Sg) (ao:ai) (h':ah) (cW:List (Nat×Nat)) (fl:List (Nat×bc)):Prop where
  ms:cW.map (·.1)=fl.map (·.1)
  nd:(fl.map (·.1)).Nodup
  place:∀p∈cW,(aR p.2).1=base+p.1∧∃x,ao.get p.2=some x∧x.live=true
  free:∀q∈fl,h'.get (base+q.1)=none∧base+q.1<h'.next
def ko (P:Program)(N b:Nat)(ops:Array Oper)(ms W As:List Nat)(K:a7→ai→Prop):List iD→List Nat→List (Nat×Nat)→List Nat→a7→ai→Prop
 |[],_,_,_,ab,vh=>K ab vh
 |.op m::r,todo,cW,Ar,ab,vh=>
  match ops[m]? with
  |none=>False
  |some o=>match ij ops o ab with
   |none=>False
   |some false=>iq N o.dst=true∧ko P N b ops ms W As K r (jD ops todo o.dst) cW Ar (bP ab o.dst (.bx [])) vh
   |some true=>bif W.contains m then qT P N vh.next ops o todo (fun cV aA aV=>ko P N b ops ms W As K r cV (fW ms m cW) Ar aA (lg vh (cS ms m cW) aV)) ab (gI (cS ms m cW) vh)
    else bif Ar.contains m then As.contains m=true∧iq N o.dst=true∧∃v x,gk P ab vh o.op=some (v,x)∧ko P N b ops ms W As K r (jD ops todo o.dst) ((m,vh.next)::cW) (Ar.filter fun k=>!Nat.beq k m) (bP ab o.dst v) (vh.alloc x)
    else As.contains m=false∧vU o.op=true∧iq N o.dst=true∧∃v,dH P ab (gI (cS ms m cW) vh) o.op=some (v,gI (cS ms m cW) vh)∧
     ko P N b ops ms W As K r (bif Ae o&&cW.isEmpty then m::jD ops todo o.dst else jD ops todo o.dst) cW Ar (bP ab o.dst v) vh
 |.ck m::r,todo,cW,Ar,ab,vh=>
  match ops[m]? with
  |none=>False
  |some o=>(todo.contains m=true∨o.dst.isSome=true∧ij ops o ab=some false)∧ko P N b ops ms W As K r todo cW Ar ab vh
section
variable {P:Program} {N b lo:Nat} {ops:Array Oper} {g g':Fz} {σ aR:Sg} {vh ao:ai} {hs h':ah} {base:Nat} {ms W As:List Nat}
theorem Ze {k:Nat}{cW:List (Nat×Nat)}{i:Nat}(h:i∈cS ms k cW):∃p∈cW,p.2=i∧bm ms p.1 k=false:=by
 unfold cS fW at h
 obtain⟨p,h1,h2⟩:=List.mem_map.1 h
 obtain⟨h3,h4⟩:=List.mem_filter.1 h1
 exact⟨p,h3,h2,by simpa using h4⟩
theorem Zf {k:Nat}{cW:List (Nat×Nat)}{p:Nat×Nat}(h:p∈cW)(hb:bm ms p.1 k=false):p.2∈cS ms k cW:=
 List.mem_map.2 ⟨p,List.mem_filter.2 ⟨h,by simp[hb]⟩,rfl⟩
theorem Zg {cW:List (Nat×Nat)}{fl:List (Nat×bc)}(hm:cW.map (·.1)=fl.map (·.1)){q:Nat×bc}(hq:q∈fl):∃p∈cW,p.1=q.1:=by
 have:q.1∈cW.map (·.1):=by rw[hm];exact List.mem_map_of_mem hq
 obtain⟨p,h1,h2⟩:=List.mem_map.1 this
 exact⟨p,h1,h2⟩
theorem xe6 {cW:List (Nat×Nat)}{fl:List (Nat×bc)}(hm:cW.map (·.1)=fl.map (·.1)){p:Nat×Nat}(hp:p∈cW):∃q∈fl,q.1=p.1:=by
 have:p.1∈fl.map (·.1):=by rw[← hm];exact List.mem_map_of_mem hp
 obtain⟨q,h1,h2⟩:=List.mem_map.1 this
 exact⟨q,h1,h2⟩
theorem Zh {cW:List (Nat×Nat)}{fl:List (Nat×bc)}(f:Zd base aR ao h' cW fl)(k:Nat)(o:Nat) :
  (iO base (fun i=>bm ms i k) fl h').get o=(iO base (fun _=>true) fl h').get o∨∃i,i∈cS ms k cW∧(aR i).1=o:=by
 have hl:∀q∈fl,base+q.1<h'.next:=fun q hq=>(f.free q hq).2
 by_cases hq:∃q∈fl,base+q.1=o
 ·obtain⟨q,hq,rfl⟩:=hq
  obtain⟨p,hp,AO⟩:=Zg f.ms hq
  cases hb:bm ms q.1 k with
  |true=>exact .inl (by rw[Ka (M:=fun i=>bm ms i k) hl f.nd q hq hb,Ka (M:=fun _=>true) hl f.nd q hq rfl])
  |false=>exact .inr ⟨p.2,Zf hp (AO▸hb),by rw[(f.place p hp).1,AO]⟩
 refine .inl ?_
 have h1:∀q∈fl,base+q.1≠o:=fun q hm he=>hq ⟨q,hm,he⟩
 rw[BX hl fun q hm _=>h1 q hm,BX hl fun q hm _=>h1 q hm]
theorem GN (hd:∀d∈(ops.toList.filterMap (·.dst)),d<N){K:a7→ai→Prop}(ss:hs.next≤base)(cg:lo≤hs.next):∀(items:List iD) (todo:List Nat) (cW:List (Nat×Nat)) (Ar:List Nat) (bf:aL) (fl:List (Nat×bc)) (h':ah) (g':Fz) (aR:Sg) (aU:a7) (ao:ai),
  dV N b lo g σ vh hs bf (iO base (fun _=>true) fl h') g' aR aU ao→Zd base aR ao h' cW fl→(∀j∈Ar,h'.get (base+j)=none∧base+j<h'.next∧j∉fl.map (·.1))→
  (∀m∈todo,uD P lo ops bf h' m)→ko P N b ops ms W As K items todo cW Ar aU ao→zt P lo ops base ms W As (qt N b lo g σ vh hs K) items bf fl h'
 |[],todo,cW,Ar,bf,fl,h',g',aR,aU,ao,a,f,C0,gP,k=>⟨g',aR,aU,ao,a,k⟩
 |.op m::r,todo,cW,Ar,bf,fl,h',g',aR,aU,ao,a,f,C0,gP,k=>by
  simp only[ko] at k
  have hl:∀q∈fl,base+q.1<h'.next:=fun q hq=>(f.free q hq).2
  have zg:h'.sub (iO base (fun i=>bm ms i m) fl h'):=fun o x hx=>by
   rw[BX hl fun q hq _ he=>by have:=(f.free q hq).1;rw[he,hx] at this;cases this];exact hx
  cases ho:ops[m]? with
  |none=>rw[ho] at k;exact k.elim
  |some o=>
   rw[ho] at k
   simp only at k
   refine⟨o,ho,?_⟩
   split at k
   ·exact k.elim
   ·rename_i hw
    rw[CX (a.len▸hd) a.t hw]
    simp only[bz]
    obtain⟨g1,g2⟩:=sU (Fz.le_refl g') (Nat.le_refl _) (fun _ _=>rfl) a.t o.dst (a.len▸k.1) (.fr _ _ uC)
    refine GN hd ss cg r _ cW Ar _ fl h' g' aR _ ao ⟨g1,g2.trans a.len,a.s,a.le,a.agree,a.f,a.base,a.own⟩ f C0 (fun m hm=>?_) k.2
    simp only[jD,List.mem_filter] at hm
    exact(gP m hm.1).put _ (fun _ _ hx=>hx) hm.2
   rename_i hw
   rw[CX (a.len▸hd) a.t hw]
   simp only[aO]
   have BY:∀i∈cS ms m cW,∃x,ao.get i=some x∧x.live=true:=fun i hi=>by
    obtain⟨p,hp,rfl,_⟩:=Ze hi
    exact(f.place p hp).2
   have Zi:(iO base (fun i=>bm ms i m) fl h').next=(iO base (fun _=>true) fl h').next:=by rw[tY,tY]
   have CT:∀j x,(gI (cS ms m cW) ao).get j=some x→ao.get j=some x∧j∉cS ms m cW:=fun j x hx=>let ⟨h1,h2⟩:=uE _ _ j x hx;⟨h2,h1⟩
   have sT:VS lo g' aR (gI (cS ms m cW) ao) (iO base (fun i=>bm ms i m) fl h'):=a.s.RL Zi (Ag _ _) CT fun o=>by
    rcases Zh (ms:=ms) f m o with h|⟨i,hi,he⟩
    ·exact .inl h
    obtain⟨x,hx,ze⟩:=BY i hi
    exact .inr ⟨i,x,hi,hx,ze,he⟩
   have tT:VT g' aR (gI (cS ms m cW) ao).next aU bf:=by rw[Ag];exact a.t
   cases hW:W.contains m with
   |true=>
    rw[hW] at k
    simp only[aO] at k ⊢
    intro jT eh
    refine(k lo g' aR _ bf tT a.len sT (by rw[Ag];exact Nat.le_refl _) (fun q hq=>?_) jT eh).mono fun nr h2 ⟨v',e,cV,Fb,g2,dG,aA,aV,c,k2⟩=>⟨v',e,?_⟩
    ·obtain⟨o2,d2,u,h1,c1,c2,c3,c4,c5⟩:=gP q hq
     obtain⟨_,e2⟩:=AK c3 c5
     exact⟨o2,d2,u,_,c1,c2,c3,c4,e2 _ zg⟩
    have Ff:∀q∈fl.filter (fun p=>!bm ms p.1 m),q∈fl∧bm ms q.1 m=false:=fun q hq=>by
     obtain⟨h1,h2⟩:=List.mem_filter.1 hq
     exact⟨h1,by simpa using h2⟩
    have RP:∀i,i<ao.next→dG i=aR i:=c.agree
    have C3:∀q∈fl,bm ms q.1 m=false→h2.get (base+q.1)=none∧base+q.1<h2.next:=fun q hq hb=>by
     have h1:=hl q hq
     have hT:(iO base (fun i=>bm ms i m) fl h').get (base+q.1)=none:=by
      rw[BX hl fun q' cm hM he=>?_]
      ·exact(f.free q hq).1
      have:q'.1=q.1:=by omega
      rw[this,hb] at hM;cases hM
     refine⟨?_,Nat.lt_of_lt_of_le (by rw[tY];exact h1) c.f.next⟩
     rw[c.f.gD _ (by rw[tY];exact h1) fun i x hx ze he=>?_]
     ·exact hT
     obtain⟨h2,h3⟩:=(sT.obj i x hx)
     have:∃y,(iO base (fun i=>bm ms i m) fl h').get (aR i).1=some y:=by
      cases x with
      |box cs=>obtain⟨s0,ar,q1,_⟩:=h3;exact⟨_,q1⟩
      |arr ag sz cs=>obtain⟨_,s0,ar,q1,_⟩:=h3;exact⟨_,q1⟩
      |map es=>obtain⟨br,q1,_⟩:=h3;exact⟨_,q1⟩
      |dS es=>obtain⟨br,q1,_⟩:=h3;exact⟨_,q1⟩
      |bW es=>obtain⟨_,_,_,s0,ar,q1,_⟩:=h3;exact⟨_,q1⟩
      |emap es=>obtain⟨br,q1,_⟩:=h3;exact⟨_,q1⟩
      |loop=>obtain⟨L,q1,_⟩:=h3;exact⟨_,q1⟩
      |grow sz es=>
       obtain⟨_,_,_,l8⟩:=h3
       rcases l8 with rfl|⟨s0,ar,q1,_⟩
       ·cases ze
       exact⟨_,q1⟩
     obtain⟨y,hy⟩:=this
     rw[he,hT] at hy;cases hy
    have uj:∀q∈fl.filter (fun p=>!bm ms p.1 m),base+q.1<h2.next:=fun q hq=>(C3 q (Ff q hq).1 (Ff q hq).2).2
    have Zj:((fl.filter (fun p=>!bm ms p.1 m)).map (·.1)).Nodup:=f.nd.sublist (List.filter_sublist.map _)
    refine GN hd ss cg r cV (fW ms m cW) Ar _ _ h2 g2 dG aA _ (dV.xgi a Zi (Ag _ _) CT BY (Zh f m) c (tY _) (fun o=>?_) (RO _ _ _) (Zc _ _ _ fun i hi=>let ⟨x,hx,_⟩:=BY i hi;⟨x,hx⟩)) ⟨?_,Zj,fun p hp=>?_,fun q hq=>C3 q (Ff q hq).1 (Ff q hq).2⟩ (fun j hj=>?_) Fb k2
    ·by_cases hq:∃q∈fl,bm ms q.1 m=false∧base+q.1=o
     ·obtain⟨q,hq,hb,rfl⟩:=hq
      obtain⟨p,hp,AO⟩:=Zg f.ms hq
      refine .inl ⟨p.2,Zf hp (AO▸hb),by rw[(f.place p hp).1,AO],?_⟩
      rw[Ka (M:=fun _=>true) hl f.nd q hq rfl,Ka (M:=fun _=>true) uj Zj q (List.mem_filter.2 ⟨hq,by simp[hb]⟩) rfl]
     refine .inr ⟨fun i hi he=>?_,?_⟩
     ·obtain⟨p,hp,rfl,hb⟩:=Ze hi
      obtain⟨q,cm,Zk⟩:=xe6 f.ms hp
      exact hq ⟨q,cm,by rw[Zk];exact hb,by rw[Zk,← he,(f.place p hp).1]⟩
     exact BX uj fun q Zl _ he=>hq ⟨q,(Ff q Zl).1,(Ff q Zl).2,he⟩
    ·have:∀(l:List (Nat×Nat)) (l2:List (Nat×bc)),l.map (·.1)=l2.map (·.1)→(l.filter fun p=>!bm ms p.1 m).map (·.1)=(l2.filter fun p=>!bm ms p.1 m).map (·.1):=by
      intro l
      induction l with
      |nil=>intro l2 h;cases l2 with|nil=>rfl|cons=>simp at h
      |cons p l ih=>
       intro l2 h
       cases l2 with
       |nil=>simp at h
       |cons q l2=>
        simp only[List.map_cons,List.cons.injEq] at h
        simp only[List.filter_cons,h.1]
        cases bm ms q.1 m<;>simp[ih l2 h.2,h.1]
     exact this cW fl f.ms
    ·obtain⟨h1,G0⟩:=List.mem_filter.1 hp
     obtain⟨e1,x,e2,e3⟩:=f.place p h1
     have mM:p.2∈cS ms m cW:=List.mem_map.2 ⟨p,hp,rfl⟩
     refine⟨by rw[RP _ (a.s.obj p.2 x e2).1];exact e1,x,?_,e3⟩
     have:∀(l:List Nat),p.2∈l→(∀i∈l,∃x,ao.get i=some x)→(lg ao l aV).get p.2=some x:=by
      intro l
      induction l with
      |nil=>intro h;cases h
      |cons i l ih=>
       intro hm hex
       obtain⟨y,hy⟩:=hex i List.mem_cons_self
       simp only[lg,hy,ai.wL]
       by_cases wM:p.2=i
       ·subst wM;rw[e2] at hy;injection hy with hy;simp[hy]
       simp only[wM,if_false]
       exact ih (by rcases List.mem_cons.1 hm with h|h;exact absurd h wM;exact h) fun k hk=>hex k (List.mem_cons_of_mem _ hk)
     exact this _ mM fun i hi=>let ⟨x,hx,_⟩:=BY i hi;⟨x,hx⟩
    obtain⟨h1,h3,h4⟩:=C0 j hj
    have hT:(iO base (fun i=>bm ms i m) fl h').get (base+j)=none:=by
     rw[BX hl fun q' cm hM he=>?_]
     ·exact h1
     exact h4 (List.mem_map.2 ⟨q',cm,by omega⟩)
    refine⟨?_,Nat.lt_of_lt_of_le (by rw[tY];exact h3) c.f.next,fun hm=>h4 ?_⟩
    ·rw[c.f.gD _ (by rw[tY];exact h3) fun i x hx ze he=>?_]
     ·exact hT
     obtain⟨h5,h6⟩:=(sT.obj i x hx)
     have:∃y,(iO base (fun i=>bm ms i m) fl h').get (aR i).1=some y:=by
      cases x with
      |box cs=>obtain⟨s0,ar,q1,_⟩:=h6;exact⟨_,q1⟩
      |arr ag sz cs=>obtain⟨_,s0,ar,q1,_⟩:=h6;exact⟨_,q1⟩
      |map es=>obtain⟨br,q1,_⟩:=h6;exact⟨_,q1⟩
      |dS es=>obtain⟨br,q1,_⟩:=h6;exact⟨_,q1⟩
      |bW es=>obtain⟨_,_,_,s0,ar,q1,_⟩:=h6;exact⟨_,q1⟩
      |emap es=>obtain⟨br,q1,_⟩:=h6;exact⟨_,q1⟩
      |loop=>obtain⟨L,q1,_⟩:=h6;exact⟨_,q1⟩
      |grow sz es=>
       obtain⟨_,_,_,l8⟩:=h6
       rcases l8 with rfl|⟨s0,ar,q1,_⟩
       ·cases ze
       exact⟨_,q1⟩
     obtain⟨y,hy⟩:=this
     rw[he,hT] at hy;cases hy
    obtain⟨q,hq,rfl⟩:=List.mem_map.1 hm
    exact List.mem_map_of_mem (Ff q hq).1
   |false=>
    rw[hW] at k
    simp only[bz] at k ⊢
    cases hA:Ar.contains m with
    |true=>
     rw[hA] at k
     simp only[aO] at k
     obtain⟨kA,rP,v,x,hv,k2⟩:=k
     rw[kA]
     simp only[aO]
     have hmA:m∈Ar:=by simpa using hA
     obtain⟨r1,r2,r3⟩:=C0 m hmA
     obtain⟨v',y,e1,e2,e3⟩:=z7v a.t hv (base+m)
     refine⟨v',y,e1,?_⟩
     have cy:∀i,i<ao.next→(aR.put ao.next (base+m,0,0)) i=aR i:=fun i hi=>Sg.zy _ _ (by omega)
     have fJ:∀o,(iO base (fun _=>true) ((m,y)::fl) h').get o=if o=base+m then some y else (iO base (fun _=>true) fl h').get o:=fun o=>by
      show ((iO base (fun _=>true) fl h').put (base+m) (some y)).get o=_
      rw[ah.dJ _ _ _ _ (by rw[tY];exact r2)]
     have RQ:(iO base (fun _=>true) fl h').get (base+m)=none:=by
      rw[BX hl fun q hq _ he=>r3 (List.mem_map.2 ⟨q,hq,by omega⟩)];exact r1
     obtain⟨e4,e5⟩:=e3 (aR.put ao.next (base+m,0,0)) (iO base (fun _=>true) ((m,y)::fl) h') (Sg.cB _ _ _) cy (by rw[fJ];simp)
     have gC:∀i z,ao.get i=some z→z.live=true→(aR i).1≠base+m:=fun i z hz b7 he=>by
      obtain⟨h5,h6⟩:=a.s.obj i z hz
      have:∃y,(iO base (fun _=>true) fl h').get (aR i).1=some y:=by
       cases z with
       |box cs=>obtain⟨s0,ar,q1,_⟩:=h6;exact⟨_,q1⟩
       |arr ag sz cs=>obtain⟨_,s0,ar,q1,_⟩:=h6;exact⟨_,q1⟩
       |map es=>obtain⟨br,q1,_⟩:=h6;exact⟨_,q1⟩
       |dS es=>obtain⟨br,q1,_⟩:=h6;exact⟨_,q1⟩
       |bW es=>obtain⟨_,_,_,s0,ar,q1,_⟩:=h6;exact⟨_,q1⟩
       |emap es=>obtain⟨br,q1,_⟩:=h6;exact⟨_,q1⟩
       |loop=>obtain⟨L,q1,_⟩:=h6;exact⟨_,q1⟩
       |grow sz es=>
        obtain⟨_,_,_,l8⟩:=h6
        rcases l8 with rfl|⟨s0,ar,q1,_⟩
        ·cases b7
        exact⟨_,q1⟩
      obtain⟨u,hu⟩:=this
      rw[he,RQ] at hu;cases hu
     have split:∀i z,(ao.alloc x).get i=some z→(i=ao.next∧z=x)∨(i<ao.next∧ao.get i=some z):=fun i z hz=>by
      rw[ai.jf] at hz
      by_cases hi:i=ao.next
      ·subst hi;simp at hz;exact .inl ⟨rfl,hz.symm⟩
      simp[hi] at hz;exact .inr ⟨(a.s.obj i z hz).1,hz⟩
     obtain⟨g1,g2⟩:=sU (Fz.le_refl g') (Nat.le_succ ao.next) cy a.t o.dst (a.len▸rP) e4
     refine GN hd ss cg r _ _ _ _ ((m,y)::fl) h' g' _ _ (ao.alloc x) ⟨g1,g2.trans a.len,⟨fun i z hz=>?_,fun i j z u hz hu b7 tU he=>?_,fun i z hz b7=>?_,fun o z hz=>?_,fun i z hz b7=>?_,?_⟩,a.le,fun i hi=>(cy i (Nat.lt_of_lt_of_le hi a.base)).trans (a.agree i hi),
      ⟨?_,fun o ho RR=>?_,fun i z hz b7 aP=>?_⟩,Nat.le_trans a.base (Nat.le_succ _),a.own⟩ ⟨by simp[f.ms],by rw[List.map_cons,List.nodup_cons];exact⟨r3,f.nd⟩,fun p hp=>?_,fun q hq=>?_⟩ (fun j hj=>?_) (fun q hq=>?_) k2
     ·rcases split i z hz with⟨rfl,rfl⟩|⟨hi,hz⟩
      ·exact⟨Nat.lt_succ_self _,e5⟩
      refine⟨Nat.lt_succ_of_lt hi,(a.s.obj i z hz).2.mono (Fz.le_refl g') (Nat.le_succ _) cy hi fun b7=>?_⟩
      rw[fJ,if_neg (gC i z hz b7)]
     ·rcases split i z hz with⟨hi,_⟩|⟨hi,hz⟩<;>rcases split j u hu with⟨hj,_⟩|⟨hj,hu⟩
      ·rw[hi,hj]
      ·rw[hi,Sg.cB,cy j hj] at he;exact absurd he.symm (gC j u hu tU)
      ·rw[hj,Sg.cB,cy i hi] at he;exact absurd he (gC i z hz b7)
      rw[cy i hi,cy j hj] at he;exact a.s.inj i j z u hz hu b7 tU he
     ·rcases split i z hz with⟨rfl,rfl⟩|⟨hi,hz⟩
      ·rw[Sg.cB];show lo≤base+m;omega
      rw[cy i hi];exact a.s.low i z hz b7
     ·rw[fJ,if_neg (by rintro rfl;have:=a.s.fz _ z hz;rw[RQ] at this;cases this)];exact a.s.fz o z hz
     ·rcases split i z hz with⟨rfl,rfl⟩|⟨hi,hz⟩
      ·rw[Sg.cB]
       cases hg:g' (base+m) with
       |none=>rfl
       |some w=>have:=a.s.fz _ w hg;rw[RQ] at this;cases this
      rw[cy i hi];exact a.s.jU i z hz b7
     ·have:=a.s.bO;rw[tY] at this ⊢;exact this
     ·have:=a.f.next;rw[tY] at this ⊢;exact this
     ·rw[fJ,if_neg (by omega)];exact a.f.gD o ho RR
     ·rcases split i z hz with⟨rfl,rfl⟩|⟨hi,hz⟩
      ·rw[Sg.cB] at aP;simp only at aP;omega
      rw[cy i hi] at aP ⊢;exact a.f.own i z hz b7 aP
     ·rcases List.mem_cons.1 hp with rfl|hp
      ·exact⟨by rw[Sg.cB],x,by rw[ai.jf];simp,e2⟩
      obtain⟨q1,z,q2,q3⟩:=f.place p hp
      have hi:=(a.s.obj p.2 z q2).1
      exact⟨by rw[cy _ hi];exact q1,z,by rw[ai.jf,if_neg (by omega)];exact q2,q3⟩
     ·rcases List.mem_cons.1 hq with rfl|hq
      ·exact⟨r1,r2⟩
      exact f.free q hq
     ·obtain⟨h1,h2⟩:=List.mem_filter.1 hj
      have KP:j≠m:=by simpa[beq_eq] using h2
      obtain⟨s1,s2,s3⟩:=C0 j h1
      exact⟨s1,s2,by simp only[List.map_cons,List.mem_cons,not_or];exact⟨KP,s3⟩⟩
     simp only[jD,List.mem_filter] at hq
     exact(gP q hq.1).put _ (fun _ _ hx=>hx) hq.2
    |false=>
     rw[hA] at k
     simp only[bz] at k
     obtain⟨kA,hr,rP,v,hv,k2⟩:=k
     rw[kA]
     simp only[bz]
     obtain⟨v',h1,e1,dG,e2,e3,e4,e5,e6⟩:=BU (lo:=lo) sT tT hv
     obtain⟨e7,_⟩:=AK hr e1
     subst e7
     rw[Ag] at e6 e2
     have e2':VR g' aR ao.next v v':=e2.mono (Fz.le_refl g') (Nat.le_refl _) fun i hi=>(e6 i hi).symm
     obtain⟨g1,g2⟩:=sU (Fz.le_refl g') (Nat.le_refl _) (fun _ _=>rfl) a.t o.dst (a.len▸rP) e2'
     refine⟨v',_,e1,GN hd ss cg r _ cW Ar _ fl h' g' aR _ ao ⟨g1,g2.trans a.len,a.s,a.le,a.agree,a.f,a.base,a.own⟩ f C0 (fun m' hm=>?_) k2⟩
     have gV:m'∈jD ops todo o.dst→uD P lo ops (bE bf o.dst v') h' m':=fun hm=>by
      simp only[jD,List.mem_filter] at hm
      exact(gP m' hm.1).put _ (fun _ _ hx=>hx) hm.2
     cases qU:(Ae o&&cW.isEmpty) with
     |false=>rw[qU] at hm;exact gV hm
     |true=>
      rw[qU] at hm
      simp only[aO,List.mem_cons] at hm
      rcases hm with rfl|hm
      ·rw[bS] at qU
       obtain⟨qU,hem⟩:=qU
       have W0:cW=[]:=by simpa using hem
       have kI:fl=[]:=by have:=f.ms;rw[W0] at this;simpa using this.symm
       subst kI
       unfold Ae at qU
       cases sn:o.dst with
       |none=>rw[sn] at qU;cases qU
       |some d=>
        rw[sn] at qU
        have aP:d<bf.length:=by
         have:=a.len▸rP
         rw[sn] at this
         simpa[iq] using this
        have:=uD.new (P:=P) (lo:=lo) ho sn aP hr e1 qU
        rwa [sn] at this
      exact gV hm
 |.ck m::r,todo,cW,Ar,bf,fl,h',g',aR,aU,ao,a,f,C0,gP,k=>by
  simp only[ko] at k
  have hl:∀q∈fl,base+q.1<h'.next:=fun q hq=>(f.free q hq).2
  have zg:h'.sub (iO base (fun i=>bm ms i m) fl h'):=fun o x hx=>by
   rw[BX hl fun q hq _ he=>by have:=(f.free q hq).1;rw[he,hx] at this;cases this];exact hx
  cases ho:ops[m]? with
  |none=>rw[ho] at k;exact k.elim
  |some o=>
   rw[ho] at k
   simp only at k
   obtain⟨k1,k2⟩:=k
   have rest:=GN hd ss cg r _ cW Ar bf fl h' g' aR aU ao a f C0 gP k2
   rcases k1 with k1|⟨k1,hw⟩
   ·have hm:m∈todo:=by simpa using k1
    obtain⟨o',d,v,h1,c1,c2,c3,c4,c5⟩:=gP m hm
    rw[ho] at c1;injection c1 with c1;subst c1
    obtain⟨_,e2⟩:=AK c3 c5
    exact⟨o,d,ho,c2,fun _=>⟨v,_,c4,e2 _ zg⟩,rest⟩
   cases sn:o.dst with
   |none=>rw[sn] at k1;cases k1
   |some d=>exact⟨o,d,ho,sn,fun o0=>(by rw[CX (a.len▸hd) a.t hw] at o0;cases o0),rest⟩
theorem VW.tf {id:Nat}{Q:jd}{ab:a7}{vh:ai}{ms W As:List Nat}{items:List iD}(hm:P.follows .mixedOrders=true)(cN:Hm ops ms W As=true)(lY:Cn As=true)(hc:zu ops ms W As [] W [] items=true)(hd:Ad N ops=true)
  (Zm:As.all (Nat.blt · (mO As ops.size))=true)
  (hs:ko P N b ops ms W As (Q .normal) items [] [] As ab vh):VW P N b (.region id ops true) Q ab vh:=fun lo g σ h ts ht hn s hb=>by
 refine .sched hm cN lY hc ?_
 have hg:=ah.xf (mO As ops.size) h
 have oY:=ah.DA (mO As ops.size) h
 have s2:VS lo g σ vh (ah.oV (mO As ops.size) h):=⟨fun i x hx=>let ⟨k1,k2⟩:=s.obj i x hx;⟨k1,k2.mono (Fz.le_refl g) (Nat.le_refl _) (fun _ _=>rfl) k1 fun _=>hg _⟩,s.inj,s.low,fun o x hx=>by rw[hg];exact s.fz o x hx,s.jU,by rw[oY];have:=s.bO;omega⟩
 refine GN (base:=h.next) (RD hd) (Nat.le_refl _) s.bO items [] [] As ts [] _ g σ ab vh ⟨ht,hn,s2,Fz.le_refl g,fun _ _=>rfl,⟨by rw[tY,oY];omega,fun o _ _=>hg o,fun i x hx hl _=>⟨i,x,hx,hl,rfl⟩⟩,hb,dU.refl _ _ _ _⟩
  ⟨rfl,List.nodup_nil,fun p hp=>(by cases hp),fun q hq=>(by cases hq)⟩ (fun j hj=>?_) (fun m hm=>(by cases hm)) hs
 rw[List.all_eq_true] at Zm
 have aP:j<mO As ops.size:=by simpa using Zm j hj
 refine⟨?_,by rw[oY];omega,by simp⟩
 rw[hg]
 cases hq:h.get (h.next+j) with
 |none=>rfl
 |some x=>have:=ah.gx hq;omega
variable {ab:a7} {todo:List Nat} {cW:List (Nat×Nat)} {Ar:List Nat} {K:a7→ai→Prop} {m:Nat} {r:List iD} {o:Oper}
theorem ko.rd {v:PV}(ho:ops[m]?=some o)(hw:ij ops o ab=some true)(hW:W.contains m=false)(hA:Ar.contains m=false)(xN:As.contains m=false)(hr:vU o.op=true)(hd:iq N o.dst=true)
  (hv:dH P ab (gI (cS ms m cW) vh) o.op=some (v,gI (cS ms m cW) vh)) (hk:ko P N b ops ms W As K r (bif Ae o&&cW.isEmpty then m::jD ops todo o.dst else jD ops todo o.dst) cW Ar (bP ab o.dst v) vh) :
  ko P N b ops ms W As K (.op m::r) todo cW Ar ab vh:=by
 simp only[ko,ho,hw,hW,hA,bz]
 exact⟨xN,hr,hd,v,hv,hk⟩
theorem ko.al {v:PV}{x:aM}(ho:ops[m]?=some o)(hw:ij ops o ab=some true)(hW:W.contains m=false)(hA:Ar.contains m=true)(xN:As.contains m=true)(hd:iq N o.dst=true)
  (hv:gk P ab vh o.op=some (v,x)) (hk:ko P N b ops ms W As K r (jD ops todo o.dst) ((m,vh.next)::cW) (Ar.filter fun k=>!Nat.beq k m) (bP ab o.dst v) (vh.alloc x)) :
  ko P N b ops ms W As K (.op m::r) todo cW Ar ab vh:=by
 simp only[ko,ho,hw,hW,hA,bz,aO]
 exact⟨xN,hd,v,x,hv,hk⟩
theorem ko.wr (ho:ops[m]?=some o)(hw:ij ops o ab=some true)(hW:W.contains m=true)
  (hs:qT P N vh.next ops o todo (fun cV aA aV=>ko P N b ops ms W As K r cV (fW ms m cW) Ar aA (lg vh (cS ms m cW) aV)) ab (gI (cS ms m cW) vh)) :
  ko P N b ops ms W As K (.op m::r) todo cW Ar ab vh:=by
 simp only[ko,ho,hw,hW,aO]
 exact hs
theorem ko.ck (ho:ops[m]?=some o)(hc:todo.contains m=true)(hk:ko P N b ops ms W As K r todo cW Ar ab vh):ko P N b ops ms W As K (.ck m::r) todo cW Ar ab vh:=by
 simp only[ko,ho]
 exact⟨.inl hc,hk⟩
theorem ko.done (hk:K ab vh):ko P N b ops ms W As K [] todo cW Ar ab vh:=hk
end
theorem Alt.ofEq {vh:ai}{n2:Nat}{D:Nat→Bool}{ρ:Nat→Nat}{v v2:PV}(hf:v.aG=true)(h:v=v2):Alt vh n2 D ρ v v2:=h▸.same v hf
theorem Alt.zR {vh:ai}{n2:Nat}{D:Nat→Bool}{ρ:Nat→Nat}{v2:PV}(h:v2=.vec []):Alt vh n2 D ρ .aI v2:=h▸.dC
theorem Alt.oA {vh:ai}{n2:Nat}{D:Nat→Bool}{ρ:Nat→Nat}(j n:Nat)(nl:Bool)(hn:n=0):Alt vh n2 D ρ .aI (.grow j n nl):=hn▸.aI j nl
section
variable {P:Program} {N b:Nat} {ab:a7} {vh:ai}
theorem lN.Iz {o:Oper}{t ek:TypeId}{x y:Operand}{next:a7→ai→Prop}(ho:∃pos,o.op=.binOp .eql t x y pos)(ht:P.underlying t=some (.slice ek))(hx:cC ab x=some (.vec []))(hy:cC ab y=some .aI)(hd:iq N o.dst=true)
  (hn:∀q:Bool,next (bP ab o.dst (.bool q)) vh):lN P N b o next ab vh:=fun lo g σ h ts pN hl s hb=>by
 obtain⟨pos,ho⟩:=ho
 obtain⟨x',k1,k2⟩:=eO pN hx
 obtain⟨y',k3,k4⟩:=eO pN hy
 have:=k4.aG rfl;cases this
 have hq:∃q:Bool,dR P t x' (.slice none 0 0)=some q:=by
  have:=k2.aG rfl
  cases this with
  |fw=>exact⟨true,by simp[dR,ht]⟩
  |dv=>exact⟨false,by simp[dR,ht]⟩
  |vec _ o off k s0 sz ar=>exact⟨false,by simp[dR,ht]⟩
 obtain⟨q,hq⟩:=hq
 obtain⟨e1,_⟩:=NS (P:=P) hq (fun k x k' y hh=>by have:=hh.2;cases this) (fun x y hh=>by have:=hh.2;cases this)
 obtain⟨g1,g2⟩:=sU (Fz.le_refl g) (Nat.le_refl _) (fun _ _=>rfl) pN o.dst (hl▸hd) (.fr _ _ (.bool q):VR g σ vh.next (.bool q) (.bool q))
 refine .op (v:=.bool q) (h':=h) (by rw[ho];simp only[cu,k1,k3,e1,Option.map_some]) ?_
 exact⟨g,σ,_,vh,⟨g1,g2.trans hl,s,Fz.le_refl g,fun _ _=>rfl,VF.refl _ _ _,hb,dU.refl _ _ _ _⟩,hn q⟩
theorem dP.fresh {f:FuncId}{args es:List PV}{sz:Nat}(hp:dP P f args ai.empty fun v ao=>∃i nl,v=.grow i es.length nl∧ao.get i=some (.grow sz es))(hf:PV.aF args=true)(cY:0<es.length) :
  dP P f args vh fun v ao=>v=.grow vh.next es.length false∧ao=vh.alloc (.grow sz es):=fun lo g σ h aB ha s=>by
 have yY:bh (VR g σ ai.empty.next) args aB:=(ha.aG hf).vr
 refine(hp lo g σ h aB yY (.none s.fz s.bO σ)).mono fun r h' ⟨g',aR,v,ao,h1,h2,h3,h4,h5,h6,h7,i,nl,h8,h9⟩=>?_
 subst h8
 have dd:∀o,o<h.next→h'.get o=h.get o:=fun o ho=>h5.gD o ho fun i x hx=>by cases hx
 have fZ:aM.live (.grow sz es)=true:=by
  cases es with
  |nil=>simp at cY
  |cons=>rfl
 obtain⟨hi,rA⟩:=h2.obj i _ h9
 have Zn:h.next≤(aR i).1:=by
  rcases Nat.lt_or_ge (aR i).1 h.next with aP|Zn
  ·obtain⟨j,y,hj,_⟩:=h5.own i _ h9 fZ aP
   cases hj
  exact Zn
 have hg:∀o x,g' o=some x→o<h.next→∃y,g o=some y:=fun o x hx ho=>by
  rcases h7 o x hx ho with h|⟨i,y,h,_⟩
  ·exact⟨_,h⟩
  cases h
 have cy:∀j,j<vh.next→(σ.put vh.next (aR i)) j=σ j:=fun j hj=>Sg.zy _ _ (by omega)
 have split:∀j z,(vh.alloc (.grow sz es)).get j=some z→(j=vh.next∧z=.grow sz es)∨(j<vh.next∧vh.get j=some z):=fun j z hz=>by
  rw[ai.jf] at hz
  by_cases hj:j=vh.next
  ·subst hj;simp at hz;exact .inl ⟨rfl,hz.symm⟩
  simp[hj] at hz;exact .inr ⟨(s.obj j z hz).1,hz⟩
 refine⟨g',σ.put vh.next (aR i),.grow vh.next es.length false,vh.alloc (.grow sz es),?_,⟨fun j z hz=>?_,fun j k z u hz hu b7 tU he=>?_,fun j z hz b7=>?_,h2.fz,fun j z hz b7=>?_,h2.bO⟩,h3,cy,⟨h5.next,fun o ho _=>dd o ho,fun j z hz b7 aP=>?_⟩,Nat.le_succ _,fun o x hx ho=>.inl (h7 o x hx ho |>.elim id fun⟨i,y,h,_⟩=>by cases h),rfl,rfl⟩
 ·generalize hm:es.length=m at h1 cY ⊢
  cases h1 with
  |fr _ _ h=>cases h
  |b8=>omega
  |b9=>omega
  |grow _ _ o a k _ dD hs hn=>exact .grow vh.next m o a k false (Nat.lt_succ_self _) (by rw[Sg.cB];exact hs) hn
 ·rcases split j z hz with⟨rfl,rfl⟩|⟨hj,hz⟩
  ·refine⟨Nat.lt_succ_self _,?_⟩
   obtain⟨q0,q1,q2,q3⟩:=rA
   refine⟨q0,q1,q2,q3.imp_right fun⟨s0,ar,k1,k2,k3,k4⟩=>⟨s0,ar,by rw[Sg.cB];exact k1,by rw[Sg.cB];exact k2,k3,by rw[Sg.cB];exact k4⟩⟩
  obtain⟨k1,k2⟩:=s.obj j z hz
  exact⟨Nat.lt_succ_of_lt hj,k2.mono h3 (Nat.le_succ _) cy hj fun b7=>dd _ (k2.lt b7)⟩
 ·rcases split j z hz with⟨hj,_⟩|⟨hj,hz⟩<;>rcases split k u hu with⟨hk,_⟩|⟨hk,hu⟩
  ·rw[hj,hk]
  ·rw[hj,Sg.cB,cy k hk] at he
   have:=(s.obj k u hu).2.lt tU;omega
  ·rw[hk,Sg.cB,cy j hj] at he
   have:=(s.obj j z hz).2.lt b7;omega
  rw[cy j hj,cy k hk] at he;exact s.inj j k z u hz hu b7 tU he
 ·rcases split j z hz with⟨rfl,rfl⟩|⟨hj,hz⟩
  ·rw[Sg.cB];exact h2.low i _ h9 fZ
  rw[cy j hj];exact s.low j z hz b7
 ·rcases split j z hz with⟨rfl,rfl⟩|⟨hj,hz⟩
  ·rw[Sg.cB];exact h2.jU i _ h9 fZ
  rw[cy j hj]
  have hd:=s.jU j z hz b7
  have aP:=(s.obj j z hz).2.lt b7
  cases oS:g' (σ j).1 with
  |none=>rfl
  |some y=>
   obtain⟨w,hw⟩:=hg _ y oS aP
   rw[hd] at hw;cases hw
 rcases split j z hz with⟨rfl,rfl⟩|⟨hj,hz⟩
 ·rw[Sg.cB] at aP;omega
 rw[cy j hj] at aP ⊢;exact⟨j,z,hz,b7,rfl⟩
theorem dP.yc {f:FuncId}{args es:List PV}{sz n:Nat}(hn:es.length=n)(hp:dP P f args ai.empty fun v ao=>∃i nl,v=.grow i n nl∧ao.get i=some (.grow sz es))(hf:PV.aF args=true)(cY:0<n) :
  dP P f args vh fun v ao=>v=.grow vh.next n false∧ao=vh.alloc (.grow sz es):=by
 subst hn;exact dP.fresh hp hf cY
def GO (P:Program)(ab:a7)(aV:ai)(ops:Array Oper)(todo:List Nat):List Nat→Prop
 |[]=>True
 |m::r=>(todo.contains m=true∧∃om u,ops[m]?=some om∧dH P ab aV om.op=some (u,aV))∧GO P ab aV ops todo r
theorem GO.mem {ab:a7}{aV:ai}{ops:Array Oper}{todo:List Nat}:∀ {l:List Nat},GO P ab aV ops todo l→∀m∈l,m∈todo∧∃om u,ops[m]?=some om∧dH P ab aV om.op=some (u,aV)
 |[],_,m,hm=>by cases hm
 |k::r,h,m,hm=>by
  rcases List.mem_cons.1 hm with rfl|hm
  ·exact⟨by simpa using h.1.1,h.1.2⟩
  exact GO.mem h.2 m hm
theorem zwe {lo:Nat}{h h':ah}{t:TypeId}{o off:Nat}{v:Value}(hs:B2 P lo h t (.pointer (some ⟨o,off,none⟩)) v=some h'):∃z,h'=h.put o z:=by
 unfold B2 at hs
 simp only at hs
 split at hs
 ·rename_i s cs n hg hn
  cases hb:(Nat.ble lo o&&Nat.beq v.cells.toList.length n&&v.cells.toList.all (·.oneCell')&&Nat.ble (off+n) cs.length) with
  |false=>rw[hb] at hs;cases hs
  |true=>rw[hb] at hs;simp only[aO,ax] at hs;exact⟨_,hs.symm⟩
 cases hs
theorem qT.Jx {ops:Array Oper}{o:Oper}{todo cV:List Nat}{next:List Nat→a7→ai→Prop}{t:TypeId}{a x:Operand}{i off:Nat}{y0:aM}{v:PV}{ao:ai}(ho:o.op=.store t a x)(hp:cC ab a=some (.ptr i off))(Zo:vh.get i=some y0)(lR:y0.live=true)
  (hv:Go.Am.dH P ab vh o.op=some (v,ao)) (hd:o.dst=none) (ht:GO P ab (vh.drop i) ops todo cV) (hn:next cV (bP ab o.dst v) ao):qT P N b ops o todo next ab vh:=fun lo g σ h ts mB hl s hb gP jT eh=>by
 obtain⟨v',h',k1,aR,k2,k3,k4,k5,k6⟩:=BU (lo:=lo) s mB hv
 obtain⟨g1,g2⟩:=sU (Fz.le_refl g) k5 k6 mB o.dst (by rw[hd];simp[iq]) k2
 refine .op (v:=v') (h':=h') (by rw[Cf (fun x hx=>eh.eval x hx)];exact k1) ⟨v',rfl,cV,fun m hm=>?_,g,aR,_,ao,⟨g1,g2.trans hl,k3,Fz.le_refl g,fun i hi=>k6 i (by omega),k4,by omega,dU.refl _ _ _ _⟩,hn⟩
 rw[hd]
 obtain⟨h1,om,u,h2,h3⟩:=ht.mem m hm
 obtain⟨o',d,w,h4,c1,c2,c3,c4,c5⟩:=gP m h1
 rw[h2] at c1;injection c1 with c1;subst c1
 obtain⟨sk,_⟩:=s.kill Zo lR
 have aP:=(s.obj i y0 Zo).2.lt lR
 obtain⟨w',h5,e1,_⟩:=BU (lo:=lo) (vh:=vh.drop i) sk mB h3
 obtain⟨e2,e3⟩:=AK c3 e1
 have sub:∀z,(h.put (σ i).1 none).sub (h.put (σ i).1 z):=fun z p q hq=>by
  rw[ah.dJ _ _ _ _ aP] at hq ⊢
  by_cases wM:p=(σ i).1
  ·simp[wM] at hq
  simpa[wM] using hq
 have Fg:(h.put (σ i).1 none).sub h:=fun p q hq=>by
  rw[ah.dJ _ _ _ _ aP] at hq
  by_cases wM:p=(σ i).1
  ·simp[wM] at hq
  simpa[wM] using hq
 have ew:w'=w:=by
  have:=e3 h Fg
  rw[c5] at this
  simp only[ax,bG] at this
  exact this.1.symm
 subst ew
 obtain⟨a',q1,q2⟩:=eO mB hp
 have hz:∃z,h'=h.put (σ i).1 z:=by
  rw[ho] at k1
  simp only[cu,q1] at k1
  cases q2 with
  |fr _ _ hh=>cases hh
  |ptr _ _ o2 a2 k2 hi2 gy=>
   split at k1
   ·rename_i p2 v2 rO eN
    injection rO with rO;subst rO
    obtain⟨h6,e5,e6⟩:=dq k1
    simp only[bG] at e6
    obtain⟨_,rfl⟩:=e6
    rw[gy]
    exact zwe e5
   cases k1
 obtain⟨z,rfl⟩:=hz
 exact⟨om,d,w',_,h2,c2,c3,c4,e3 _ (sub z)⟩
end
theorem VW.join {P:Program}{N b:Nat}{Q:jd}{ab:a7}{vh:ai}{x y:Code}{S:Type}(st:S→a7×ai)(I:S→Prop)
  (hx:VW P N b x (BS (fun aU ao=>∃s',I s'∧Rec b aU ao (st s').1 (st s').2) Q) ab vh) (hy:∀s,I s→VW P N b y Q (st s).1 (st s).2):VW P N b (.seq x y) Q ab vh:=
 .seq (hx.mono fun e ab vh hq=>by
  cases e with
  |normal=>obtain⟨s',k1,k2⟩:=hq;exact .rec k2 (hy s' k1)
  |exit id=>exact hq
  |goto l=>exact hq
  |ret=>exact hq
  |panic ch=>exact hq
  |outgrown=>exact hq)
theorem P4 {sz:Nat}:∀ {es:List PV} {q:Nat} {e:PV},(∀e∈es,e.cells.length=sz)→es[q]?=some e→((es.flatMap PV.cells).drop (q*sz)).take sz=e.cells∧q*sz+sz≤(es.flatMap PV.cells).length
 |[],q,e,_,h=>by simp at h
 |a::r,0,e,hs,h=>by
  simp at h;subst h
  have:=hs a List.mem_cons_self
  rw[Nat.zero_mul,List.drop_zero,List.flatMap_cons,List.take_append_of_le_length (by omega),← this,List.take_length]
  exact⟨rfl,by rw[List.length_append];omega⟩
 |a::r,q+1,e,hs,h=>by
  have h1:=hs a List.mem_cons_self
  obtain⟨h2,h3⟩:=P4 (es:=r) (q:=q) (fun x hx=>hs x (List.mem_cons_of_mem _ hx)) (by simpa using h)
  rw[List.flatMap_cons,Nat.succ_mul,show q*sz+sz=a.cells.length+q*sz by omega,List.drop_append,List.drop_eq_nil_of_le (by omega),List.nil_append,show a.cells.length+q*sz - a.cells.length=q*sz by omega]
  exact⟨h2,by rw[List.length_append];omega⟩
section
variable {P:Program} {N b:Nat} {ab:a7} {vh:ai}
end
open Go Go.Proofs
section
variable {P:Program} {N b:Nat} {ab:a7} {vh:ai}
end
open Go
section
variable {P:Program} {N b:Nat} {ab:a7} {vh:ai}
inductive Deep (vh:ai):PV→PV→Prop where
  |bI {v v2:PV} (h:bI vh v=some v2):Deep vh v v2
  |ptr {i off:Nat} {cs nq:List PV} (hg:vh.get i=some (.box cs)) (hz:b6 vh cs=some nq) (hle:Nat.ble off nq.length=true):Deep vh (.ptr i off) (.vp (nq.drop off))
end
section
variable {P:Program} {vh:ai}
end
section
variable {P:Program} {N b:Nat} {Q:jd} {ab:a7} {vh:ai} {pv:Value}
end
section
variable {P:Program} {N b:Nat} {ab:a7} {vh:ai}
end
section
variable {P:Program} {lo:Nat} {Q:lW} {ts:aL} {h:ah} {pv:Value}
end
section
variable {P:Program} {N b:Nat} {Q:jd} {ab:a7} {vh:ai} {pv:Value}
end
section
variable {P:Program} {vh:ai}
theorem VS.BZ {lo:Nat}{g:Fz}{σ:Sg}{h:ah}(s:VS lo g σ vh h)(i:Nat):VS lo g σ (vh.drop i) h:=
 ⟨fun j y hy=>s.obj j y (kK hy).2,fun j k y z hy hz=>s.inj j k y z (kK hy).2 (kK hz).2,fun j y hy=>s.low j y (kK hy).2,s.fz,fun j y hy=>s.jU j y (kK hy).2,s.bO⟩
theorem VS.xhr {lo:Nat}{g g':Fz}{σ aR:Sg}{h h':ah}{cn:ai}(s:VS lo g σ vh h){i:Nat}{x:aM}(hi:vh.get i=some x)(hl:x.live=true)(h2:VS lo g' aR cn h')(h3:g.le g')(h4:∀i,i<vh.next→aR i=σ i)
  (h5:VF σ (vh.drop i) h aR cn h') (h6:vh.next≤cn.next) (h7:dU g σ (vh.drop i) h g'):VS lo g' aR (cn.back i x) h'∧VF σ vh h aR (cn.back i x) h'∧dU g σ vh h g':=by
 obtain⟨dx,Zp⟩:=s.obj i x hi
 have aP:=Zp.lt hl
 have zh:=h4 i dx
 have cY:∀j y,(vh.drop i).get j=some y→y.live=true→(σ j).1≠(σ i).1:=fun j y hy jb he=>by
  obtain⟨k1,k2⟩:=kK hy
  exact k1 (s.inj j i y x k2 hi jb hl he)
 have dd:h'.get (σ i).1=h.get (σ i).1:=h5.gD _ aP cY
 have gC:∀j z,cn.get j=some z→z.live=true→(aR j).1≠(σ i).1:=fun j z hz b7 he=>by
  obtain⟨k,u,k1,k2,k3⟩:=h5.own j z hz b7 (by rw[he];exact aP)
  exact cY k u k1 k2 (k3.trans he)
 refine⟨⟨fun j z hz=>?_,fun j k z u hz hu b7 tU he=>?_,fun j z hz b7=>?_,h2.fz,fun j z hz b7=>?_,h2.bO⟩,⟨h5.next,fun o ho hn=>h5.gD o ho fun j y hy jb=>hn j y (kK hy).2 jb,fun j z hz b7 oM=>?_⟩,fun o z hz ho=>?_⟩
 ·rw[ai.wL] at hz
  by_cases hj:j=i
  ·subst hj
   simp at hz;subst hz
   exact⟨Nat.lt_of_lt_of_le dx h6,Zp.mono h3 h6 h4 dx fun _=>dd⟩
  simp only[hj,if_false] at hz
  exact h2.obj j z hz
 ·rw[ai.wL] at hz hu
  by_cases hj:j=i
  ·subst hj
   by_cases hk:k=j
   ·exact hk.symm
   simp only[hk,if_false] at hu
   exact absurd (he.symm.trans (by rw[zh])) (gC k u hu tU)
  simp only[hj,if_false] at hz
  by_cases hk:k=i
  ·subst hk
   exact absurd (he.trans (by rw[zh])) (gC j z hz b7)
  simp only[hk,if_false] at hu
  exact h2.inj j k z u hz hu b7 tU he
 ·rw[ai.wL] at hz
  by_cases hj:j=i
  ·subst hj;rw[zh];exact s.low j x hi hl
  simp only[hj,if_false] at hz
  exact h2.low j z hz b7
 ·rw[ai.wL] at hz
  by_cases hj:j=i
  ·subst hj
   rw[zh]
   cases oS:g' (σ j).1 with
   |none=>rfl
   |some q=>
    rcases h7 _ q oS aP with wq|⟨k,u,k1,k2,k3⟩
    ·rw[s.jU j x hi hl] at wq;cases wq
    exact absurd k3 (cY k u k1 k2)
  simp only[hj,if_false] at hz
  exact h2.jU j z hz b7
 ·rw[ai.wL] at hz
  by_cases hj:j=i
  ·subst hj;exact⟨j,x,hi,hl,by rw[zh]⟩
  simp only[hj,if_false] at hz
  obtain⟨k,u,k1,k2,k3⟩:=h5.own j z hz b7 oM
  exact⟨k,u,(kK k1).2,k2,k3⟩
 rcases h7 o z hz ho with wq|⟨k,u,k1,k2,k3⟩
 ·exact .inl wq
 exact .inr ⟨k,u,(kK k1).2,k2,k3⟩
theorem dP.frame {f:FuncId}{args:List PV}{R:PV→ai→Prop}{i:Nat}{x:aM}(hi:vh.get i=some x)(hl:x.live=true)(hc:dP P f args (vh.drop i) R):dP P f args vh fun v ao=>∃cn,R v cn∧ao=cn.back i x:=fun lo g σ h aB ha s=>by
 refine(hc lo g σ h aB ha (s.BZ i)).mono fun r h' ⟨g',aR,v,cn,h1,h2,h3,h4,h5,h6,h7,h8⟩=>?_
 obtain⟨k1,k2,k3⟩:=s.xhr hi hl h2 h3 h4 h5 h6 h7
 exact⟨g',aR,v,cn.back i x,h1,k1,h3,h4,k2,h6,k3,cn,h8,rfl⟩
end
section
variable {P:Program} {N b:Nat} {ab:a7} {vh:ai}
end
section
variable {P:Program} {vh:ai}
end
section
variable {P:Program} {N b:Nat} {ab:a7} {vh:ai}
end
def ai.wO (vh:ai):List Nat→ai
 |[]=>vh
 |i::r=>(vh.wO r).drop i
def Kc (l:List Nat):List (Nat×aM)→List (Nat×aM)
 |[]=>[]
 |(j,y)::r=>bif l.contains j then (j,y)::Kc l r else Kc l r
def ai.only (vh:ai)(l:List Nat):ai:=⟨vh.next,Kc l vh.bq⟩
theorem ai.Zq {vh:ai}{l:List Nat}{j:Nat}{y:aM}(h:(vh.only l).get j=some y):vh.get j=some y∧j∈l:=by
 obtain⟨n,os⟩:=vh
 simp only[ai.get,ai.only] at h ⊢
 induction os with
 |nil=>simp[Kc,bt] at h
 |cons e r ih=>
  obtain⟨i,z⟩:=e
  simp only[Kc] at h
  cases hc:l.contains i with
  |true=>
   rw[hc] at h
   simp only[aO,bt,beq_eq] at h ⊢
   by_cases iZ:j=i
   ·subst iZ;simp at h ⊢;exact⟨h,by simpa using hc⟩
   simp[iZ] at h ⊢;exact ih h
  |false=>
   rw[hc] at h
   simp only[bz,bt,beq_eq] at h ⊢
   have:=ih h
   by_cases iZ:j=i
   ·subst iZ;rw[← List.contains_iff_mem] at this;rw[hc] at this;exact absurd this.2 (by simp)
   simp[iZ];exact this
section
variable {P:Program} {N b lo:Nat} {ab:a7} {vh:ai} {g:Fz} {σ:Sg} {h:ah}
theorem VS.Zr (s:VS lo g σ vh h):∀l:List Nat,(∀j y,(vh.wO l).get j=some y→vh.get j=some y)∧∃hK:ah,VS lo g σ (vh.wO l) hK∧∀p q,hK.get p=some q→h.get p=some q∧∀i∈l,∀y,vh.get i=some y→y.live=true→p≠(σ i).1
 |[]=>⟨fun _ _ h=>h,h,s,fun p q hq=>⟨hq,fun i hi=>by cases hi⟩⟩
 |i::r=>by
  obtain⟨k0,hK,k1,k2⟩:=VS.Zr s r
  have k3:∀j y,(vh.wO (i::r)).get j=some y→vh.get j=some y:=fun j y hy=>k0 j y (kK hy).2
  refine⟨k3,?_⟩
  have soft:(∀y,(vh.wO r).get i=some y→y.live=true→False)→∃hK:ah,VS lo g σ (vh.wO (i::r)) hK∧∀p q,hK.get p=some q→h.get p=some q∧∀j∈i::r,∀y,vh.get j=some y→y.live=true→p≠(σ j).1:=fun gC=>by
   refine⟨hK,k1.BZ i,fun p q hq=>⟨(k2 p q hq).1,fun j hj y hy jb=>?_⟩⟩
   rcases List.mem_cons.1 hj with rfl|hj
   ·by_cases Zs:j∈r
    ·exact(k2 p q hq).2 j Zs y hy jb
    have same:∀l:List Nat,j∉l→(vh.wO l).get j=vh.get j:=by
     intro l
     induction l with
     |nil=>intro _;rfl
     |cons a l ih=>
      intro hn
      simp only[List.mem_cons,not_or] at hn
      show ((vh.wO l).drop a).get j=_
      rw[ai.NR,if_neg hn.1];exact ih hn.2
    exact absurd jb (fun jb=>gC y (by rw[same r Zs];exact hy) jb)
   exact(k2 p q hq).2 j hj y hy jb
  cases hg:(vh.wO r).get i with
  |none=>exact soft fun y hy=>by rw[hg] at hy;cases hy
  |some y=>
   cases hl:y.live with
   |false=>exact soft fun z hz b7=>by rw[hg] at hz;injection hz with hz;subst hz;rw[hl] at b7;cases b7
   |true=>
    obtain⟨q1,_⟩:=k1.kill hg hl
    have aP:=(k1.obj i y hg).2.lt hl
    refine⟨_,q1,fun p q hq=>?_⟩
    rw[ah.dJ _ _ _ _ aP] at hq
    by_cases hp:p=(σ i).1
    ·simp[hp] at hq
    rw[if_neg hp] at hq
    refine⟨(k2 p q hq).1,fun j hj z hz b7=>?_⟩
    rcases List.mem_cons.1 hj with rfl|hj
    ·exact hp
    exact(k2 p q hq).2 j hj z hz b7
theorem qT.EE {ops:Array Oper}{o:Oper}{todo cV:List Nat}{next:List Nat→a7→ai→Prop}(l:List Nat){v v2:PV}{ao aV:ai}(hv:Go.Am.dH P ab vh o.op=some (v,ao))(eN:Go.Am.dH P ab (vh.only l) o.op=some (v2,aV))(hd:iq N o.dst=true)
  (ht:GO P ab (vh.wO l) ops todo cV) (hf:cV.all (MK ops o.dst)=true) (hn:next cV (bP ab o.dst v) ao):qT P N b ops o todo next ab vh:=fun lo g σ h ts mB hl s hb gP jT eh=>by
 obtain⟨v',h',k1,aR,k2,k3,k4,k5,k6⟩:=BU (lo:=lo) s mB hv
 obtain⟨g1,g2⟩:=sU (Fz.le_refl g) k5 k6 mB o.dst (hl▸hd) k2
 refine .op (v:=v') (h':=h') (by rw[Cf (fun x hx=>eh.eval x hx)];exact k1) ⟨v',rfl,cV,fun m hm=>?_,g,aR,_,ao,⟨g1,g2.trans hl,k3,Fz.le_refl g,fun i hi=>k6 i (by omega),k4,by omega,dU.refl _ _ _ _⟩,hn⟩
 obtain⟨h1,om,u,h2,h3⟩:=ht.mem m hm
 obtain⟨o',d,w,h4,c1,c2,c3,c4,c5⟩:=gP m h1
 rw[h2] at c1;injection c1 with c1;subst c1
 obtain⟨_,hK,q1,q2⟩:=s.Zr l
 have nx:∀l:List Nat,(vh.wO l).next=vh.next:=by
  intro l
  induction l with
  |nil=>rfl
  |cons a l ih=>exact ih
 have RS:VT g σ (vh.wO l).next ab ts:=by rw[nx];exact mB
 obtain⟨w',h5,e1,_⟩:=BU (lo:=lo) q1 RS h3
 obtain⟨e2,e3⟩:=AK c3 e1
 subst e2
 have Fg:h5.sub h:=fun p q hq=>(q2 p q hq).1
 have ew:w'=w:=by
  have:=e3 h Fg
  rw[c5] at this
  simp only[ax,bG] at this
  exact this.1.symm
 subst ew
 obtain⟨sO,_⟩:=s.sub (aV:=vh.only l) rfl fun j y hy=>(ai.Zq hy).1
 obtain⟨v3,Kn,r1,_,_,_,r4,_⟩:=BU (lo:=lo) sO mB eN
 rw[k1] at r1
 simp only[ax,bG] at r1
 obtain⟨rfl,rfl⟩:=r1
 have BZ:h5.sub h':=fun p q hq=>by
  obtain⟨t1,t2⟩:=q2 p q hq
  rw[r4.gD p (ah.gx t1) fun i x hx ze he=>?_]
  ·exact t1
  obtain⟨t3,t4⟩:=ai.Zq hx
  exact t2 i t4 x t3 ze he.symm
 have hc:uD P lo ops ts h5 m:=⟨om,d,w',h5,h2,c2,c3,c4,e1⟩
 exact hc.put v' BZ (List.all_eq_true.1 hf m hm)
end
open Go Go.Proofs Go.Shelf Go.Sort
theorem RT {α β:Type}{enc:α→List β}{k:Nat}(hk:∀x,(enc x).length=k):∀(zs:List α) (t:Nat),(zs.flatMap enc)[t]?=(zs[t / k]?).bind fun x=>(enc x)[t % k]?
 |[],t=>by simp
 |a::r,t=>by
  rw[List.flatMap_cons,List.getElem?_append,hk]
  by_cases h:t<k
  ·rw[if_pos h,Nat.div_eq_of_lt h,Nat.mod_eq_of_lt h];rfl
  rw[if_neg h]
  rcases Nat.eq_zero_or_pos k with rfl|h0
  ·rw[RT hk r (t - 0)]
   have e0:∀x:α,enc x=[]:=fun x=>List.eq_nil_of_length_eq_zero (hk x)
   simp only[e0]
   cases hx:r[(t - 0) / 0]?<;>cases hy:(a::r)[t / 0]?<;>rfl
  rw[RT hk r (t - k)]
  have e1:t / k=(t - k) / k+1:=by rw[Nat.div_eq t k,if_pos ⟨h0,by omega⟩]
  have e2:t % k=(t - k) % k:=by rw[Nat.mod_eq t k,if_pos ⟨h0,by omega⟩]
  rw[e1,e2];rfl
theorem Gc {α β:Type}{enc:α→List β}{k:Nat}(hk:∀x,(enc x).length=k):∀zs:List α,(zs.flatMap enc).length=zs.length*k
 |[]=>by simp
 |a::r=>by rw[List.flatMap_cons,List.length_append,hk,Gc hk r,List.length_cons,Nat.succ_mul,Nat.add_comm]
theorem zxk {α:Type}[Inhabited α]{enc:α→List Value}{k:Nat}(hk:∀x,(enc x).length=k)(h0:0<k)(zs:List α):(flatK enc k zs.toArray).toList=zs.flatMap enc:=by
 refine List.ext_getElem? fun t=>?_
 rw[RT hk]
 by_cases ht:t<zs.length*k
 ·have hq:t / k<zs.length:=by rw[Nat.div_lt_iff_lt_mul h0];exact ht
  have hr:t % k<(enc zs[t / k]).length:=by rw[hk];exact Nat.mod_lt _ h0
  rw[List.getElem?_eq_getElem hq]
  simp only[Option.bind_some]
  rw[List.getElem?_eq_getElem hr]
  have hs:t<(flatK enc k zs.toArray).toList.length:=by simp;exact ht
  rw[List.getElem?_eq_getElem hs]
  have:=get_flatK enc k zs.toArray t (by simpa using ht)
  rw[getElem!_pos _ t (by simpa using ht)] at this
  rw[Array.getElem_toList,this]
  simp[hq,hr]
 have hq:¬t / k<zs.length:=by rw[Nat.div_lt_iff_lt_mul h0];exact ht
 rw[List.getElem?_eq_none (l:=zs) (by omega)]
 rw[List.getElem?_eq_none (by simp;omega)]
 rfl
section
variable {P:Program} {lo:Nat} {h:ah}
theorem zr1 {U:Mu}{w:World}(r:Rel U lo h w){o off s b a C:Nat}{cs:List Value}(d d0:List Value)(hd:∀x∈d,lQ x=true)(RU:∀x∈d0,lQ x=true)(hlen:d.length=d0.length)
  (hg:h.get o=some (.cells s cs)) (hl:lo≤o) (hm:U o=some (b,a,C)) (ov:∀i x,d0[i]?=some x→cs[off+i]?=some x) (xy:off≤cs.length) :
  Sort.Holds id w b (a+off) d0.toArray∧Rel U lo (h.put o (some (.cells s (fT cs off d)))) (Sort.putRow id w b (a+off) d.toArray)∧
  Frame lo U h w U (h.put o (some (.cells s (fT cs off d)))) (Sort.putRow id w b (a+off) d.toArray):=by
 have rA:=oP r hg hm
 have hH:Sort.Holds id w b (a+off) d0.toArray:=by
  intro j hj
  have mn:j<d0.length:=by simpa using hj
  obtain⟨v',h1,h2⟩:=rA.2.1 (off+j) _ (ov j d0[j] (by simp[mn]))
  have:=Hb (RU _ (List.getElem_mem mn)) h2
  subst this
  refine⟨?_,r.eY o _ b a C hl hg hm _⟩
  have e:d0.toArray[j]! = d0[j]:=by simp[mn]
  rw[e,Nat.add_assoc];exact h1
 refine⟨hH,?_⟩
 have hle:off+d.length≤cs.length:=by
  rw[hlen]
  rcases Nat.eq_zero_or_pos d0.length with h0|h0
  ·omega
  have:=ov (d0.length - 1) d0[d0.length - 1] (by simp)
  have:=(List.getElem?_eq_some_iff.1 this).1
  omega
 refine MP r hg hl hm _ (by simp) (fun b' qY=>?_) ⟨by simp;exact rA.1,fun i v hv=>?_,fun hs=>⟨by rw[MR _ _ _ hle];exact(rA.2.2 hs).1,fun i hi=>?_⟩⟩ (fun o'=>by rw[Sort.frozen?_putRow];exact r.eY o _ b a C hl hg hm o') ⟨rfl,rfl,rfl,fun _=>by first|exact Nat.le_refl _|exact Nat.le_add_right _ _|exact Nat.le_succ _⟩
 ·have:b≠b':=fun h=>qY h.symm
  simp only[Sort.putRow,Sort.mapBlock,Array.getElem?_modify,this,if_false]
 ·rw[Ke _ _ _ hle] at hv
  by_cases hi:off≤i∧i<off+d.length
  ·rw[if_pos hi] at hv
   have hid:i - off<d.length:=by omega
   rw[List.getElem?_eq_getElem hid] at hv
   simp only[ax] at hv
   subst hv
   refine⟨_,?_,.Al (hd _ (List.getElem_mem hid))⟩
   have:=Sort.cell?_putRow id w b (a+off) d0.toArray d.toArray hH (by simpa using hlen) (i - off) (by simpa using hid)
   have e:a+off+(i - off)=a+i:=by omega
   rw[e] at this
   rw[this]
   simp[hid]
  rw[if_neg hi] at hv
  obtain⟨v',h1,h2⟩:=rA.2.1 i v hv
  refine⟨v',?_,h2⟩
  rw[Sort.cell?_putRow_other]
  ·exact h1
  right;simp only[List.size_toArray];omega
 obtain⟨v',h1⟩:=(rA.2.2 hs).2 i hi
 by_cases hi2:off≤i∧i<off+d.length
 ·have:=Sort.cell?_putRow id w b (a+off) d0.toArray d.toArray hH (by simpa using hlen) (i - off) (by simp;omega)
  have e:a+off+(i - off)=a+i:=by omega
  rw[e] at this
  exact⟨_,this⟩
 refine⟨v',?_⟩
 rw[Sort.cell?_putRow_other]
 ·exact h1
 right;simp only[List.size_toArray];omega
def CD {α:Type}(cf:α→α→Int)(x y:α):Bool:=!(ltOf cf) y x
theorem nU.z5h {ρ:Ren}(L:SlLaysF0.n6 P ρ){α:Type}[Inhabited α]{k:Nat}(h0:0<k)(aE:∀w,(isAgg (ρ.t 24)).run P w=.ok true w)(zE:∀w,(Go.sizeOf (ρ.t 24)).run P w=.ok k w)(enc:α→List Value)(hk:∀x,(enc x).length=k)(rp:∀x,∀v∈enc x,lQ v=true∧v.oneCell'=true)
  (cf:α→α→Int) (hO:SWO (ltOf cf)) (hT:∀x y,ltOf cf x y=false→ltOf cf y x=false→x=y) (g:Nat) (eg:∀args w,(callFunc g args).run P w=.ok (.enter g args) w)
  (Fh:∀x y w,Calls P g #[.agg (enc x).toArray,.agg (enc y).toArray] w fun e w'=>e=.returned (.int .i64 (cf x y))∧∃q s5,w'=Sort.grow (w.drewN q) s5)
  {o off s kk:Nat} {cs:List Value} {zs:List α} (hg:h.get o=some (.cells s cs)) (hl:lo≤o) (xy:off≤cs.length) (hz:∀t v,(zs.flatMap enc)[t]?=some v→cs[off+t]?=some v) (eJ:zs.length<4611686018427387904) (nC:kk<dW) (Ax:0<zs.length) :
  nU P lo (ρ.f 6) [.slice (some ⟨o,off,none⟩) zs.length kk,.func (.func g) #[] #[]] h fun r h'=>r=.tuple #[]∧h'=h.put o (some (.cells s (fT cs off ((zs.mergeSort (CD cf)).flatMap enc)))):=by
 refine .KU fun U w ba ha r=>?_
 obtain⟨v',r',qX,hv,hr⟩:=ha.dE
 obtain⟨v2,r2,RV,eN,jQ⟩:=hr.dE
 have:=jQ.jM;subst this
 obtain⟨LL,hL⟩:∃LL,zs.length=LL:=⟨_,rfl⟩
 rw[hL] at hv
 have wH:v2=.func (.func g) #[] #[]:=by
  cases eN with
  |func _ _ _ bw dK hx hy _ _=>
   have h1:bw=#[]:=Array.eq_empty_of_size_eq_zero (by simpa using hx.symm)
   have h2:dK=#[]:=Array.eq_empty_of_size_eq_zero (by simpa using hy.symm)
   rw[h1,h2]
 subst wH
 subst RV
 have iN:ba=#[v',.func (.func g) #[] #[]]:=Array.ext' (by simpa using qX)
 subst iN
 cases hv with
 |slice _ _ _ _ b a C hm B4 kc=>
  subst hL
  have rA:=oP r hg hm
  have self:∀(l:List α),∀x∈l.flatMap enc,lQ x=true:=fun l x hx=>by
   obtain⟨y,_,hy⟩:=List.mem_flatMap.1 hx
   exact(rp y x hy).1
  obtain⟨hH,jQ,wH⟩:=zr1 r ((zs.mergeSort (CD cf)).flatMap enc) (zs.flatMap enc) (self _) (self _) (by rw[Gc hk,Gc hk,List.length_mergeSort]) hg hl hm hz xy
  have eF:∀l:List α,(l.flatMap enc).toArray=flatK enc k l.toArray:=fun l=>Array.ext' (by rw[zxk hk h0])
  rw[eF] at hH jQ wH
  have DQ:zs.toArray.size<4611686018427387904:=by simpa using eJ
  have hc:=AnyQ.slices_SortFunc_total L k aE zE enc hk (fun x v hv=>(rp x v hv).2) cf hO g #[] b (a+off) (ie C kk) zs.toArray w eg (fun m os dk _ x y=>Fh x y _) hH rA.tZ DQ hT
  have RW:zs.toArray.size=zs.length:=by simp
  rw[RW] at hc
  refine hc.mono fun e w' ⟨h1,n,os,h2⟩=>?_
  subst h2
  obtain⟨Ex,hf3⟩:=z2z (lo:=lo) os n jQ
  exact⟨.tuple #[],_,_,U,h1,.tuple #[] #[] rfl (fun i h=>by simp at h),Ex,wH.trans hf3,rfl,rfl⟩
 |bX=>exact absurd nC (Nat.lt_irrefl _)
 |cp=>omega
end
theorem Pg {α:Type}(l:α→List Int)(zs:List α):(zs.map fun x=>PV.agg ((l x).map (PV.int .i64))).flatMap PV.cells=(zs.flatMap l).map (PV.int .i64):=by
 induction zs with
 |nil=>rfl
 |cons a r ih=>rw[List.map_cons,List.flatMap_cons,ih,List.flatMap_cons,List.map_append];rfl
section
variable {P:Program} {vh:ai}
theorem dP.zra {ρ:Ren}(L:SlLaysF0.n6 P ρ){α:Type}[Inhabited α]{k:Nat}(h0:0<k)(aE:∀w,(isAgg (ρ.t 24)).run P w=.ok true w)(zE:∀w,(Go.sizeOf (ρ.t 24)).run P w=.ok k w)(l:α→List Int)(hk:∀x,(l x).length=k)
  (cf:α→α→Int) (hO:SWO (ltOf cf)) (hT:∀x y,ltOf cf x y=false→ltOf cf y x=false→x=y) (g:Nat) (eg:∀args w,(callFunc g args).run P w=.ok (.enter g args) w)
  (Fh:∀x y w,Calls P g #[.agg ((l x).map (Value.int .i64)).toArray,.agg ((l y).map (Value.int .i64)).toArray] w fun e w'=>e=.returned (.int .i64 (cf x y))∧∃q s5,w'=Sort.grow (w.drewN q) s5)
  {i n:Nat} {nl:Bool} {zs:List α} (hg:vh.get i=some (.grow k (zs.map fun x=>PV.agg ((l x).map (PV.int .i64))))) (hn:zs.length=n) :
  dP P (ρ.f 6) [.grow i n nl,.func g [] []] vh fun r ao=>r=.bx []∧ao=vh.put i (.grow k ((zs.mergeSort (CD cf)).map fun x=>PV.agg ((l x).map (PV.int .i64)))):=fun lo ga σ h aB ha s=>by
 subst hn
 obtain⟨v',r',rfl,hv,hr⟩:=ha.dE
 obtain⟨v2,r2,rfl,eN,jQ⟩:=hr.dE
 have:=jQ.jM;subst this
 have wH:v2=.func (.func g) #[] #[]:=by
  have e0:∀(xs:Array Value),([]:List PV).length=xs.size→xs=#[]:=fun xs hx=>Array.eq_empty_of_size_eq_zero (by simpa using hx.symm)
  cases eN with
  |fr _ _ hf=>
   cases hf with
   |func _ _ _ bw dK hx hy _ _=>rw[e0 _ hx,e0 _ hy]
  |func _ _ _ bw dK hx hy _ _=>rw[e0 _ hx,e0 _ hy]
 subst wH
 obtain⟨hi,Pf,eM,dx,l8⟩:=s.obj i _ hg
 have empty:∀ {p:Option Addr} {cap:Nat},v'=.slice p 0 cap→zs.length=0→nU P lo (ρ.f 6) [v',.func (.func g) #[] #[]] h fun r h'=>∃g' aR v ao,VR g' aR ao.next v r∧VS lo g' aR ao h'∧ga.le g'∧(∀i,i<vh.next→aR i=σ i)∧VF σ vh h aR ao h'∧vh.next≤ao.next∧dU ga σ vh h g'∧v=.bx []∧
   ao=vh.put i (.grow k ((zs.mergeSort (CD cf)).map fun x=>PV.agg ((l x).map (PV.int .i64)))):=fun {p cap} aQ hz=>by
  have hz:=List.eq_nil_of_length_eq_zero hz
  subst hz
  subst aQ
  have hs:([]:List α).mergeSort (CD cf)=[]:=by simp
  rw[hs]
  obtain⟨s1,f1⟩:=s.cB hg
  refine .KU fun U w ba RN r=>?_
  obtain⟨v2,r2,qX,GI,NC⟩:=RN.dE
  obtain⟨v3,r3,RX,yaY,RY⟩:=NC.dE
  have:=RY.jM;subst this
  subst RX
  have hsh:∃p' B0,v2=.slice p' 0 B0:=by cases GI<;>exact⟨_,_,rfl⟩
  obtain⟨p',B0,rfl⟩:=hsh
  have iN:ba=#[.slice p' 0 B0,v3]:=Array.ext' (by simpa using qX)
  subst iN
  refine(AnyF.slices_SortFunc_none L p' B0 v3 w).mono fun e w' ⟨h1,h2⟩=>?_
  subst h2
  exact⟨.tuple #[],_,h,U,h1,.tuple #[] #[] rfl (fun i h=>by simp at h),r,Frame.refl _ _ _ _,ga,σ,.bx [],_,.fr _ _ uC,s1,Fz.le_refl ga,fun _ _=>rfl,f1,Nat.le_refl _,dU.refl _ _ _ _,rfl,rfl⟩
 rcases l8 with vl|⟨s0,ar,h1,h2,h3,h4⟩
 ·have hz:zs.length=0:=by have:=congrArg List.length vl;simpa using this
  have km:zs=[]:=List.eq_nil_of_length_eq_zero hz
  subst km
  cases hv with
  |fr _ _ h=>cases h
  |b8=>exact empty rfl rfl
  |b9=>exact empty rfl rfl
  |grow _ _ _ _ _ _ _ _ hn=>simp at hn
 rw[Pg] at h3
 have qX:=bh.ints h3
 generalize hm:zs.length=m at hv
 cases hv with
 |fr _ _ h=>cases h
 |b8=>exact empty rfl hm
 |b9=>exact empty rfl hm
 |grow _ _ o a kk _ dD hs hn=>
  subst hm
  have fZ:(aM.grow k (zs.map fun x=>PV.agg ((l x).map (PV.int .i64)))).live=true:=by
   cases zs with
   |nil=>simp at hn
   |cons=>rfl
  have bJ:=s.low i _ hg fZ
  rw[hs] at h1 h2 h4 bJ;simp only at h1 h2 h4 bJ;subst h2
  subst qX
  have Bk:zs.length<4611686018427387904:=by
   have h6:(zs.map fun x=>PV.agg ((l x).map (PV.int .i64))).length<4611686018427387904:=dx
   rw[List.length_map] at h6
   exact h6
  have dZ:kk<dW:=by
   show kk<9223372036854775808
   rcases h4 with⟨rfl,_⟩|rfl
   ·decide
   rw[List.length_map];omega
  have ug:∀zs:List α,zs.flatMap (fun x=>(l x).map (Value.int .i64))=(zs.flatMap l).map (Value.int .i64):=fun zs=>by rw[List.map_flatMap]
  have hS:=nU.z5h (P:=P) (h:=h) (lo:=lo) L h0 aE zE (fun x=>(l x).map (Value.int .i64)) (fun x=>by simp[hk]) (fun x v hv=>by obtain⟨n,_,rfl⟩:=List.mem_map.1 hv;exact⟨rfl,rfl⟩) cf hO hT g eg Fh (off:=0) (kk:=kk) (zs:=zs) h1 bJ (Nat.zero_le _) (fun t x hx=>by rw[ug] at hx;simpa using hx) Bk dZ hn
  refine hS.mono fun r h' ⟨e1,e2⟩=>?_
  obtain⟨ms,IN⟩:∃ms,zs.mergeSort (CD cf)=ms:=⟨_,rfl⟩
  have hlen:ms.length=zs.length:=by rw[← IN];exact List.length_mergeSort zs
  rw[IN] at e2 ⊢
  rw[ug] at e2
  have fc:((ms.flatMap l).map (Value.int .i64)).length=((zs.flatMap l).map (Value.int .i64)).length:=by rw[List.length_map,List.length_map,Gc hk,Gc hk,hlen]
  have RZ:fT ((zs.flatMap l).map (Value.int .i64)) 0 ((ms.flatMap l).map (Value.int .i64))=(ms.flatMap l).map (Value.int .i64):=by
   unfold fT
   rw[fc];simp
  rw[RZ] at e2
  subst e1;subst e2
  have hw:=s.write hg fZ (x':=.grow k (ms.map fun x=>PV.agg ((l x).map (PV.int .i64)))) (.cells s0 ((ms.flatMap l).map (Value.int .i64)))
   ⟨Pf,fun e he=>(by obtain⟨x,_,rfl⟩:=List.mem_map.1 he;show ((l x).map (PV.int .i64)).length=k;rw[List.length_map,hk]),by rw[List.length_map,hlen];exact Bk,.inr ⟨s0,_,by rw[ah.dJ _ _ _ _ (by rw[hs];exact ah.gx h1),if_pos rfl],by rw[hs],by rw[Pg];exact bh.Ph _,by
    rw[hs];simp only[List.length_map,hlen] at h4 ⊢;exact h4⟩⟩
  rw[hs] at hw
  exact⟨ga,σ,.bx [],_,.fr _ _ uC,hw.1,Fz.le_refl ga,fun _ _=>rfl,hw.2,Nat.le_refl _,dU.refl _ _ _ _,rfl,rfl⟩
end
theorem Ai.grown {w w':World}(hd:bF.dr)(h:Ai w w'):∃q s5,w'=Sort.grow (w.drewN q) s5:=by
 obtain⟨⟨c1,c2,c3,c4⟩,hs,hk⟩:=h
 have c4:=c4 hd
 refine⟨w'.drawn - w.drawn,w'.heap.extract w.heap.size w'.heap.size,?_⟩
 obtain⟨ua,tp',dr',s5,ou'⟩:=w'
 obtain⟨hp,tp,dr,os,ou⟩:=w
 simp only at c1 c2 c3 c4 hs hk
 subst c1;subst c2;subst c3
 unfold Sort.grow World.drewN
 simp only[World.mk.injEq,and_true,true_and]
 refine⟨Array.ext_getElem? fun i=>?_,by omega⟩
 rw[Array.getElem?_append]
 split
 ·rename_i hi;exact hk i hi
 rename_i hi
 rw[Array.getElem?_extract]
 split
 ·congr 1;omega
 rw[Array.getElem?_eq_none (by omega)]
omit [bF] in
theorem aN.xdr {P:Program}{f:FuncId}{args:List PV}{k:IntKind}{n:Int}(hp:@aN bF.no P f args fun r=>r=.int k n){w:World}{ba:Array Value}(hl:args.length=ba.size)
  (ha:∀(i:Nat) v v',args[i]?=some v→ba[i]?=some v'→CV w v v'):Calls P f ba w fun e w'=>e=.returned (.int k n)∧@Ai bF.no w w':=by
 letI:bF:=bF.no
 have e0:∀o x,ah.empty.get o=some x→False:=fun o x hx=>by rw[ah.R3] at hx;cases hx
 have r0:Rel (fun _=>none) ah.empty.next ah.empty w:=⟨fun o x hx=>(e0 o x hx).elim,fun o o' x x' b a C a' C' _ hx=>(e0 o x hx).elim,fun o x hx=>(by cases hx),fun o x b a C _ hx=>(e0 o x hx).elim,Nat.le_refl _,⟨fun b hb=>absurd hb (Nat.not_lt_zero _),Nat.zero_le _,fun o x b a C _ hx=>(e0 o x hx).elim⟩⟩
 obtain⟨U,h,us,m,r,f1,v1⟩:=J7 (l':=ba.toList) (by simpa using hl) (fun i v v' hv aQ=>(ha i v v' hv (by simpa using aQ)).Y3) _ _ r0
 have hc:nU P h.next f us h _:=hp h.next h.get (fun _=>(0,0,0)) h us ⟨f1.1,fun i v v' hv aQ=>.fr _ _ (f1.2 i v v' hv aQ)⟩ (VS.none (fun _ _ hx=>hx) (Nat.le_refl _) _)
 refine Calls.mono (callsIn_wide.1 (hc Fence.wide SB rfl 0 U w ba v1 r)) fun e w' ⟨r',v,h',aS,k1,k2,k3,k4,g',aR,pv,ao,k5,_,_,_,_,_,_,k6,k7⟩=>?_
 subst k7
 cases k5 with
 |fr _ _ hf=>
  cases hf
  cases k2
  exact⟨k1,k4.calm,k4.size,fun b hb=>k4.kept b hb (by rintro⟨o,x,a,C,g1,g2,_⟩;have:=ah.gx g2;omega)⟩
omit [bF] in
theorem CV.ints {w:World}(l:List Int):CV w (.agg (l.map (PV.int .i64))) (.agg (l.map (Value.int .i64)).toArray):=
 .agg _ _ (by simp) fun i v v' hv aQ=>by
  rw[List.getElem?_map] at hv
  simp only[List.getElem?_toArray,List.getElem?_map] at aQ
  cases hi:l[i]? with
  |none=>rw[hi] at hv;cases hv
  |some x=>
   rw[hi] at hv aQ
   simp only[Option.map_some,ax] at hv aQ
   subst hv;subst aQ
   exact .int _ _
omit [bF] in
theorem aN.cmp {P:Program}{f:FuncId}{a b:List Int}{n:Int}(hp:@aN bF.no P f [.agg (a.map (PV.int .i64)),.agg (b.map (PV.int .i64))] fun r=>r=.int .i64 n)(w:World) :
  Calls P f #[.agg (a.map (Value.int .i64)).toArray,.agg (b.map (Value.int .i64)).toArray] w fun e w'=>e=.returned (.int .i64 n)∧∃q s5,w'=Sort.grow (w.drewN q) s5:=
 (aN.xdr hp (w:=w) (ba:=#[.agg (a.map (Value.int .i64)).toArray,.agg (b.map (Value.int .i64)).toArray]) rfl fun i v v' hv aQ=>by
  match i,hv,aQ with
  |0,hv,aQ=>simp at hv aQ;subst hv;subst aQ;simpa using CV.ints (w:=w) a
  |1,hv,aQ=>simp at hv aQ;subst hv;subst aQ;simpa using CV.ints (w:=w) b
  |i+2,hv,_=>simp at hv).mono fun e w' ⟨h1,h2⟩=>letI:bF:=bF.no;⟨h1,Ai.grown trivial h2⟩
def mh (sz:Nat)(es:List PV):Prop:=∀e∈es,∃cs,e=.agg cs∧cs.length=sz
theorem mh.map {α:Type}{sz:Nat}{f:α→PV}{g:α→List PV}(hf:∀x,f x=.agg (g x))(hg:∀x,(g x).length=sz)(l:List α):mh sz (l.map f):=fun e he=>by
 obtain⟨x,_,rfl⟩:=List.mem_map.1 he
 exact⟨g x,hf x,hg x⟩
theorem mh.len {sz:Nat}:∀ {es:List PV},mh sz es→(es.flatMap PV.cells).length=es.length*sz
 |[],_=>by simp
 |e::r,h=>by
  obtain⟨cs,rfl,hc⟩:=h _ List.mem_cons_self
  have:=mh.len (es:=r) fun x hx=>h x (List.mem_cons_of_mem _ hx)
  rw[List.flatMap_cons,List.length_append,this,List.length_cons,Nat.succ_mul]
  show cs.length+_=_
  omega
theorem R0 {sz:Nat}:∀ {es:List PV},mh sz es→∀r:List PV,chunk true sz es.length (es.flatMap PV.cells++r)=es
 |[],_,r=>rfl
 |e::l,h,r=>by
  obtain⟨cs,rfl,hc⟩:=h _ List.mem_cons_self
  have ih:=R0 (es:=l) (fun x hx=>h x (List.mem_cons_of_mem _ hx)) r
  simp only[chunk,aO] at ih ⊢
  rw[List.length_cons,List.range_succ_eq_map,List.map_cons,List.map_map,List.flatMap_cons]
  have e0:(PV.agg cs).cells=cs:=rfl
  rw[e0,List.append_assoc]
  congr 1
  ·rw[Nat.zero_mul,List.drop_zero,List.take_left' hc]
  have:((fun i=>PV.agg (((cs++(l.flatMap PV.cells++r)).drop (i*sz)).take sz))∘Nat.succ)=fun i=>PV.agg (((l.flatMap PV.cells++r).drop (i*sz)).take sz):=by
   funext i
   simp only[Function.comp]
   rw[show i.succ*sz=cs.length+i*sz by rw[Nat.succ_mul,hc];omega,List.drop_append,List.drop_eq_nil_of_le (by omega),Nat.add_sub_cancel_left,List.nil_append]
  rw[this];exact ih
section
variable {vh:ai}
theorem YE {i n k sz:Nat}{es r:List PV}(hg:vh.get i=some (.arr true sz (es.flatMap PV.cells++r)))(he:mh sz es)(hn:es.length=n):iP vh sz (.own i 0 n k)=some es:=by
 subst hn
 have hl:=he.len
 have h1:Nat.ble (0+es.length*sz) (es.flatMap PV.cells++r).length=true:=by rw[Nat.ble_eq,List.length_append,hl];omega
 simp only[iP,hg,List.drop_zero,h1,Bool.true_or,Bool.and_true,beq_eq,decide_true,aO,R0 he r]
theorem LN {i n sz:Nat}{es r:List PV}(hg:vh.get i=some (.arr true sz (es.flatMap PV.cells++r)))(he:mh sz es)(hn:es.length=n):iP vh sz (.sub i 0 n)=some es:=by
 subst hn
 have hl:=he.len
 have h1:Nat.ble (0+es.length*sz) (es.flatMap PV.cells++r).length=true:=by rw[Nat.ble_eq,List.length_append,hl];omega
 simp only[iP,hg,List.drop_zero,h1,Bool.true_or,Bool.and_true,beq_eq,decide_true,aO,R0 he r]
theorem z2h {P:Program}{t e:TypeId}{i n k sz:Nat}{es:List PV}{z:List PV}(ht:gO P t=some (e,sz))(h0:0<sz)(he:mh sz es)(hs:lC sz es=true)(h1:ma es=true)(hz:z.length=sz)(hn:es.length=n)(hg:vh.get i=some (.arr true sz (cz z n))) :
  cU P vh t (.own i 0 n k) (.vec es)=some (.int .i64 n,vh.put i (.arr true sz (es.flatMap PV.cells))):=by
 subst hn
 have hl:=he.len
 have hp:∀m,(cz z m).length=m*sz:=fun m=>by
  induction m with
  |zero=>simp[cz]
  |succ m ih=>unfold cz at ih ⊢;rw[List.replicate_succ,List.flatten_cons,List.length_append,ih,hz,Nat.succ_mul];omega
 have hv:iP vh sz (.vec es)=some es:=by simp only[iP,hs,aO]
 have h2:jn (cz z es.length) 0 (es.flatMap PV.cells)=es.flatMap PV.cells:=by
  unfold jn
  rw[List.take_zero,List.nil_append,List.drop_eq_nil_of_le (by rw[hp,hl];omega),List.append_nil]
 have h3:Nat.blt 0 sz=true:=by rw[Nat.blt_eq];exact h0
 have h4:Nat.ble (0+es.length*sz) (cz z es.length).length=true:=by rw[Nat.ble_eq,hp];omega
 simp only[cU,ht,hv,hg,List.take_length,h3,h4,h1,Bool.and_true,aO,h2]
 congr 3
 simp
end
theorem zx4 {U:Mu}{lo:Nat}{h:ah}{w w':World}(hd:¬bF.dr)(r:Rel U lo h w)(b:Go.RowKit.Below w.heap.size w w'):Rel U lo h w'∧Frame lo U h w U h w':=by
 have hk:=b.block
 refine Rel.MN r (fun o x hx=>?_) r.inj r.pF (fun o x b' a C hl hx hm off=>?_) r.bO ⟨Mu.le_refl _,b.size,Nat.le_refl _,fun k kc _=>hk k kc,fun _ _ h=>h,fun _ _=>rfl,fun _ _=>rfl,fun _ _ h=>h,⟨b.os,b.output,b.tape,fun h=>absurd h hd⟩⟩
 ·obtain⟨b',a,C,h1,h2⟩:=r.bq o x hx
  exact⟨b',a,C,h1,h2.kept (hk _ h2.tZ)⟩
 rw[Ak (hk _ (oP r hx hm).tZ)]
 exact r.eY o x b' a C hl hx hm off
theorem aN.world {P:Program}{f:FuncId}{args:List PV}{v:PV}{u:Value}(hd:¬bF.dr)(hv:∀g,FR g v u)(hs:lQ u=true)(hF:v.aG=true)
  (hc:∀lo g σ h aB U w ba,bh (VR g σ 0) args aB→VS lo g σ ai.empty h→bA U aB ba.toList→Rel U lo h w→Calls P f ba w fun e w'=>e=.returned u∧Go.RowKit.Below w.heap.size w w') :
  aN P f args fun r=>r=v:=fun lo g σ h aB ha s=>nU.KU fun U w ba hr r=>
 (hc lo g σ h aB U w ba ha s hr r).mono fun e w' ⟨he,hb⟩=>
  let ⟨r',f'⟩:=zx4 hd r hb
  ⟨u,u,h,U,he,.Al hs,r',f',g,σ,v,ai.empty,.fr _ _ (hv _),s,Fz.le_refl g,fun _ _=>rfl,VF.refl _ _ _,Nat.le_refl _,dU.refl _ _ _ _,hF,rfl⟩
theorem FR.ints {g:Fz}{l:List Int}{v:Value}(h:FR g (.agg (l.map (.int .i64))) v):v=.agg (l.map (Value.int .i64)).toArray:=by
 cases h with
 |agg cs ar hs hr=>
  congr 1
  apply Array.ext
  ·simpa using hs.symm
  intro i h1 h2
  have h3:i<l.length:=by simpa using h2
  have h4:=hr i (.int .i64 l[i]) ar[i] (by simp[h3]) (by simp[h1])
  generalize hu:ar[i]=u at h4
  cases h4
  simp
theorem VR.ints {g:Fz}{σ:Sg}{n:Nat}{l:List Int}{v:Value}(h:VR g σ n (.agg (l.map (.int .i64))) v):v=.agg (l.map (Value.int .i64)).toArray:=by
 cases h with
 |fr _ _ h=>exact h.ints
 |agg cs ar hs hr=>
  congr 1
  apply Array.ext
  ·simpa using hs.symm
  intro i h1 h2
  have h3:i<l.length:=by simpa using h2
  have h4:=hr i (.int .i64 l[i]) ar[i] (by simp[h3]) (by simp[h1])
  generalize hu:ar[i]=u at h4
  cases h4 with
  |fr _ _ h=>cases h;simp
theorem zw2 (l:List Int):lQ (.agg (l.map (Value.int .i64)).toArray)=true:=by
 unfold lQ
 simp[vI]
end Go.Am
end
section
namespace Go.Am
open Go Go.Proofs
section
variable [bF]
theorem aN.xdy {P:Program}{vh:ai}{f:FuncId}{args cD:List PV}{R:PV→Prop}(hp:aN P f cD R)(rz:b6 vh args=some cD):BV P f args vh fun v ao=>ao=gI (PV.cF args) vh∧R v:=fun lo g σ h aB ha s=>by
 have hA:=Fe vh (fun i=>(PV.cF args).contains i) args cD (fun i hi=>by simpa using hi) rz
 have yY:=aD.ok s hA ha
 have hF:PV.aF cD=true:=E9 vh args cD rz
 have hle:=vF (D:=fun i=>(PV.cF args).contains i) s
 have hS:VS lo (g.more σ vh h fun i=>(PV.cF args).contains i) σ (gI (PV.cF args) vh) h:=by
  refine⟨fun j y hy=>?_,fun j k y z hy hz=>s.inj j k y z (uE _ _ _ _ hy).2 (uE _ _ _ _ hz).2,fun j y hy=>s.low j y (uE _ _ _ _ hy).2,JR s,fun j y hy hl=>?_,s.bO⟩
  ·obtain⟨k1,k2⟩:=s.obj j y (uE _ _ _ _ hy).2
   rw[Ag]
   exact⟨k1,k2.mono hle (Nat.le_refl _) (fun _ _=>rfl) k1 fun _=>rfl⟩
  obtain⟨h1,h2⟩:=uE _ _ _ _ hy
  unfold Fz.more
  rw[if_neg]
  ·exact s.jU j y h2 hl
  rintro⟨i,z,k1,k2,k3,k4⟩
  have:=s.inj i j z y k2 h2 k3 hl k4
  subst this
  exact h1 (by simpa using k1)
 have JY:VF σ vh h σ (gI (PV.cF args) vh) h:=⟨Nat.le_refl _,fun _ _ _=>rfl,fun j y hy hl _=>⟨j,y,(uE _ _ _ _ hy).2,hl,rfl⟩⟩
 refine((hp.Fa (vh:=gI (PV.cF args) vh) hF) lo _ σ h aB (yY.aG hF).vr hS).mono fun r h' ⟨h0,g',aR,v,ao,h1,h2,h3,h4,h5,h6,h7,h8⟩=>?_
 rw[Ag] at h4 h6
 exact⟨h0,g',aR,v,ao,h1,h2,Fz.le_trans hle h3,h4,JY.trans h5,h6,MH.trans JY h7,h8⟩
theorem qT.Ln {P:Program}{N b:Nat}{ab:a7}{vh:ai}{ops:Array Oper}{todo:List Nat}{o:Oper}{next:List Nat→a7→ai→Prop}{fo:Operand}{args:Array Operand}{aT:Array TypeId}{f:FuncId}{xs ys l cD:List PV}{R:PV→Prop}(ho:o.op=.call ⟨.value fo,args,aT⟩)
  (hf:cC ab fo=some (.func f xs ys)) (hl:iE ab args.toList=some l) (dM:∀cs w,(callFunc f cs).run P w=.ok (.enter f cs) w) (hd:iq N o.dst=true)
  (hz:b6 vh (xs++l++ys)=some cD) (hp:aN P f cD R) (hn:∀r,R r→next (jD ops todo o.dst) (bP ab o.dst r) (gI (PV.cF (xs++l++ys)) vh)):qT P N b ops o todo next ab vh:=
 .Fa ho hf hl dM hd ((hp.xdy hz).mono fun r ao ⟨h1,h2⟩=>h1▸hn r h2)
end
end Go.Am
end
