/-
 What is used in the proof of a statement (part Vm2); no condition.
-/
import Derived.Shelf.SortM.SortNone
import Derived.SizedLaws
import Derived.ReadAgain
import Derived.ChangeArms
import Derived.ChangeSame
import Derived.Shelf.SlSortCmp.NoneTotal
import Derived.Below
import Derived.Test.YthnmgbgmlhackaaGreatDoorVm1
import Derived.Test.YthnmgbgmlhackaaGreatDoorAm3
import Derived.Test.YthnmgbgmlhackaaGreatDoorAm2
set_option linter.all false
set_option maxHeartbeats 40000000
set_option maxRecDepth 100000
section
namespace Go.Am
variable [bE]
theorem bc.ints {g:Fz}:∀ {l:List Int} {l':List Value},bc (FR g) (l.map (PV.int .i64)) l'→l'=l.map (Value.int .i64)
 |[],l',h=>h.iP
 |a::r,l',h=>by
  obtain⟨v',r',rfl,h1,h2⟩:=h.dt
  cases h1
  rw[bc.ints h2];rfl
theorem bc.LV {g:Fz}:∀l:List Int,bc (FR g) (l.map (PV.int .i64)) (l.map (Value.int .i64))
 |[]=>.nil
 |a::r=>.cons (.int _ _) (bc.LV r)
section
variable {P:Program} {vh:ah}
end
section
variable {P:Program} {N i j tI tN tB tE:Nat} {o1 o2 o3:Oper} {Kx:Array Oper} {body:Code} {WX WY:Nat}
end
inductive CV (w:World):PV→Value→Prop where
  |bool (b:Bool):CV w (.bool b) (.bool b)
  |int (k:IntKind) (n:Int):CV w (.int k n) (.int k n)
  |str (s:ByteArray):CV w (.str s) (.string s)
  |nilIface:CV w .nilIface .nilIface
  |fc:CV w (.vec []) (.slice none 0 0)
  |da (p:Addr) (k:Nat):CV w (.vec []) (.slice (some p) 0 k)
  |vec (es:List PV) (b off k sz:Nat) (cs:List Value) (hk:es.length≤k) (hl:es.length<ar) (h0:0<sz) (e8:∀e∈es,e.cells.length=sz) (hb:b<w.heap.size)
      (hc:∀(n:Nat) v',cs[n]?=some v'→w.cell? ⟨b,off+n,none⟩=some v') (hlen:cs.length=(es.flatMap PV.cells).length)
      (r:∀(n:Nat) v v',(es.flatMap PV.cells)[n]?=some v→cs[n]?=some v'→CV w v v'):CV w (.vec es) (.slice (some ⟨b,off,none⟩) es.length k)
  |agg (cs:List PV) (ao:Array Value) (hs:cs.length=ao.size) (r:∀(i:Nat) v v',cs[i]?=some v→ao[i]?=some v'→CV w v v'):CV w (.agg cs) (.agg ao)
structure mJ (U:Mu) (h:ae) (aN:Mu) (h':ae):Prop where
  le:U.le aN
  sub:∀o x,h.get o=some x→h'.get o=some x
theorem mJ.refl (U:Mu)(h:ae):mJ U h U h:=⟨Mu.le_refl U,fun _ _ h=>h⟩
theorem mJ.trans {U mK zD:Mu}{h h1 h2:ae}(a:mJ U h mK h1)(b:mJ mK h1 zD h2):mJ U h zD h2:=⟨Mu.le_trans a.le b.le,fun o x hx=>b.sub o x (a.sub o x hx)⟩
def Ux (w:World)(v:PV)(v':Value):Prop:=
 ∀U h,Rel U h.next h w→∃aN h' u,mJ U h aN h'∧Rel aN h'.next h' w∧FR h'.get v u∧aj aN u v'
theorem Hb {w:World}:∀ {l:List PV} {l':List Value},l.length=l'.length→(∀(i:Nat) v v',l[i]?=some v→l'[i]?=some v'→Ux w v v')→
  ∀U h,Rel U h.next h w→∃aN h' us,mJ U h aN h'∧Rel aN h'.next h' w∧bc (FR h'.get) l us∧bn aN us l'
 |[],[],_,_,U,h,r=>⟨U,h,[],mJ.refl U h,r,⟨rfl,fun i v v' hv=>by simp at hv⟩,.nil _⟩
 |[],_::_,hl,_,_,_,_=>by simp at hl
 |_::_,[],hl,_,_,_,_=>by simp at hl
 |x::l,x'::l',hl,hr,U,h,r=>by
  obtain⟨mK,h1,u,m1,r1,f1,v1⟩:=hr 0 x x' rfl rfl U h r
  obtain⟨zD,h2,us,m2,r2,f2,v2⟩:=Hb (l:=l) (l':=l') (by simpa using hl) (fun i v v' hv aX=>hr (i+1) v v' (by simpa using hv) (by simpa using aX)) mK h1 r1
  refine⟨zD,h2,u::us,m1.trans m2,r2,⟨by simp[f2.1],fun i v v' hv aX=>?_⟩,.cons (v1.mono m2.le) v2⟩
  cases i with
  |zero=>simp at hv aX;subst hv;subst aX;exact f1.mono m2.sub
  |succ i=>exact f2.2 i v v' (by simpa using hv) (by simpa using aX)
theorem zn8 {w:World}{U:Mu}{h:ae}(r:Rel U h.next h w){b off C:Nat}{us cs:List Value}(hb:b<w.heap.size)(hv:bn U us cs)(hc:∀(n:Nat) v',cs[n]?=some v'→w.cell? ⟨b,off+n,none⟩=some v') :
  mJ U h (U.put h.next (b,off,C)) (h.alloc (.cells 0 us))∧Rel (U.put h.next (b,off,C)) (h.alloc (.cells 0 us)).next (h.alloc (.cells 0 us)) w:=by
 have hle:=r.AR (b,off,C)
 refine⟨⟨hle,fun o x hx=>?_⟩,⟨fun o x hx=>?_,fun o o' x x' b1 a1 C1 a2 C2 hl hx=>?_,fun o x hx=>?_,fun o x b1 a1 C1 hl hx=>?_,Nat.le_refl _,⟨r.jA.gl,r.jA.ks,fun o x b1 a1 C1 hl hx=>absurd (ae.fC hx) (by omega)⟩⟩⟩
 ·rw[ae.gX,if_neg (by have:=ae.fC hx;omega)];exact hx
 ·rw[ae.gX] at hx
  by_cases ho:o=h.next
  ·simp[ho] at hx
   subst hx;subst ho
   refine⟨b,off,C,Mu.ct _ _ _,hb,fun i v hi=>?_,fun h=>absurd h (Nat.lt_irrefl _)⟩
   obtain⟨v',h1,h2⟩:=hv.2 i v hi
   exact⟨v',hc i v' h1,h2.mono hle⟩
  simp[ho] at hx
  obtain⟨b1,a1,C1,h1,h2⟩:=r.be o x hx
  exact⟨b1,a1,C1,hle _ _ h1,h2.mono hle⟩
 ·have:=ae.fC hx;omega
 ·by_cases ho:o=h.next
  ·subst ho;simp
  rw[Mu.iQ _ ho] at hx
  have:=r.ng o x hx
  simp;omega
 have:=ae.fC hx;omega
theorem CV.Uy {w:World}{v:PV}{v':Value}(hc:CV w v v'):Ux w v v':=by
 induction hc with
 |bool b=>exact fun U h r=>⟨U,h,_,.refl _ _,r,.bool b,.bool b⟩
 |int k n=>exact fun U h r=>⟨U,h,_,.refl _ _,r,.int k n,.int k n⟩
 |str s=>exact fun U h r=>⟨U,h,_,.refl _ _,r,.str s,.string s⟩
 |nilIface=>exact fun U h r=>⟨U,h,_,.refl _ _,r,.nilIface,.nilIface⟩
 |fc=>exact fun U h r=>⟨U,h,_,.refl _ _,r,.fc,.dH⟩
 |da p k=>exact fun U h r=>⟨U,h,_,.refl _ _,r,.da 0 0 dC,.bK _ _ _⟩
 |vec es b off k sz cs hk hl h0 e8 hb kv hlen _ ih=>
  intro U h r
  obtain⟨mK,h1,us,m1,r1,f1,v1⟩:=Hb hlen.symm ih U h r
  have hx:∃C kk,gb C kk=k∧kk≤ar∧es.length≤kk:=by
   by_cases mu:k<ar
   ·exact⟨0,k,by simp[gb,mu],Nat.le_of_lt mu,hk⟩
   exact⟨k,ar,by simp[gb],Nat.le_refl _,Nat.le_of_lt hl⟩
  obtain⟨C,kk,e1,e2,e3⟩:=hx
  obtain⟨m2,r2⟩:=zn8 (C:=C) r1 hb v1 kv
  refine⟨_,_,.slice (some ⟨h1.next,0,none⟩) es.length kk,m1.trans m2,r2,?_,?_⟩
  ·refine .vec es h1.next 0 kk 0 sz us e3 ?_ (by rw[ae.gX];simp) h0 (fun i e he=>e8 e (List.mem_of_getElem? he)) ?_ (fun i e j v v' he hv aX=>?_)
   ·simp only[ar] at hl e2;simp only[dC];omega
   ·have:=f1.1
    rw[Ae e8] at this
    omega
   exact(E8 (R:=FR h1.get) e8 f1 i e j v v' he hv (by simpa using aX)).mono m2.sub
  have:=aj.slice (U:=mK.put h1.next (b,off,C)) h1.next 0 es.length kk b off C (Mu.ct _ _ _) (by rw[e1];exact hk) (by simp only[ar] at e2;simp only[dC];omega)
  rw[e1] at this
  exact this
 |agg cs ao hs _ ih=>
  intro U h r
  obtain⟨mK,h1,us,m1,r1,f1,v1⟩:=Hb (l':=ao.toList) (by simpa using hs) (fun i v v' hv aX=>ih i v v' hv (by simpa using aX)) U h r
  refine⟨mK,h1,.agg us.toArray,m1,r1,.agg cs us.toArray (by simpa using f1.1) (fun i v v' hv aX=>f1.2 i v v' hv (by simpa using aX)),?_⟩
  refine .agg us.toArray ao (by have:=v1.1;simpa using this) (fun i hi dD=>?_)
  obtain⟨u',k1,k2⟩:=v1.2 i us[i] (by simp at hi ⊢)
  have:ao[i]=u':=by simpa[dD] using k1
  rw[this];simpa using k2
def xU (w w':World):Prop:=Calm w w'∧w.heap.size≤w'.heap.size∧∀b,b<w.heap.size→w'.heap[b]?=w.heap[b]?
theorem aM.enter {P:Program}{f:FuncId}{args:List PV}{t:Bool}(hp:aM P f args fun r=>r=.bool t){w:World}(qL:∀b,b<bE.K→w.heap[b]?=bE.obj b)(NS:bE.K≤w.heap.size){a6:Array Value}(hl:args.length=a6.size)
  (ha:∀(i:Nat) v v',args[i]?=some v→a6[i]?=some v'→CV w v v'):Calls P f a6 w fun e w'=>e=.returned (.bool t)∧xU w w':=by
 have e0:∀o x,ae.empty.get o=some x→False:=fun o x hx=>by rw[ae.Of] at hx;cases hx
 have r0:Rel (fun _=>none) ae.empty.next ae.empty w:=⟨fun o x hx=>(e0 o x hx).elim,fun o o' x x' b a C a' C' _ hx=>(e0 o x hx).elim,fun o x hx=>(by cases hx),fun o x b a C _ hx=>(e0 o x hx).elim,Nat.le_refl _,⟨qL,NS,fun o x b a C _ hx=>(e0 o x hx).elim⟩⟩
 obtain⟨U,h,us,m,r,f1,v1⟩:=Hb (l':=a6.toList) (by simpa using hl) (fun i v v' hv aX=>(ha i v v' hv (by simpa using aX)).Uy) _ _ r0
 have hc:mr P h.next f us h _:=hp h.next h.get (fun _=>(0,0,0)) h us ⟨f1.1,fun i v v' hv aX=>.fr _ _ (f1.2 i v v' hv aX)⟩ (VS.none (fun _ _ hx=>hx) (Nat.le_refl _) _)
 refine Calls.mono (callsIn_wide.1 (hc Fence.wide OO rfl 0 U w a6 v1 r)) fun e w' ⟨r',v,h',aN,k1,k2,k3,k4,g',aL,pv,ak,k5,_,_,_,_,_,_,k6,k7⟩=>?_
 subst k7
 cases k5 with
 |fr _ _ hf=>
  cases hf
  cases k2
  exact⟨k1,k4.calm,k4.size,fun b hb=>k4.kept b hb (by rintro⟨o,x,a,C,g1,g2,_⟩;have:=ae.fC g2;omega)⟩
section
variable {H:Type} {enc:TypeId×Value→H} {P:Program} {w:World}
def Reads (enc:TypeId×Value→H)(P:Program)(w:World)(t:TypeId)(Q:PV→Prop):Prop:=
 ∀n cs x,DataW.trod enc P w 0 (fun _=>true) true n t cs=some x→(∀m∈x.1.weights P t,m≤reachBytes)→∃p:PV,p.cells.length=P.cellsOf t∧bc (CV w) p.cells cs∧Q p
theorem Reads.mono {t:TypeId}{Q Q':PV→Prop}(h:Reads enc P w t Q)(hq:∀p,Q p→Q' p):Reads enc P w t Q':=fun n cs x hx hm=>let ⟨p,h1,h2,h3⟩:=h n cs x hx hm;⟨p,h1,h2,hq p h3⟩
theorem zyf {t:TypeId}{k:IntKind}(ht:P.underlying t=some (.int k))(hc:P.cellsOf t=1):Reads enc P w t fun p=>∃n,p=.int k n∧(Lit.int k n).wf=true:=by
 intro n cs x hx _
 cases n with
 |zero=>simp[DataW.trod] at hx
 |succ n=>
  unfold DataW.trod at hx
  rw[ht] at hx
  split at hx<;>simp_all
  obtain⟨⟨rfl,hw⟩,_⟩:=hx
  exact⟨_,rfl,.cons (.int _ _) .nil,_,rfl,hw⟩
theorem zrr {e:TypeId}{l:List (DataW H)}{d:DataW H}(hd:d∈l):∀m∈d.weights P e,m∈DataW.weightsAll P e l:=by
 induction l with
 |nil=>cases hd
 |cons a r ih=>
  intro m hm
  simp only[DataW.weightsAll,List.mem_append]
  rcases List.mem_cons.1 hd with rfl|hd
  ·exact .inl hm
  exact .inr (ih hd m hm)
theorem zyr {a:Addr}{v:Value}(h:w.cell? a=some v):a.spot=none:=by
 cases hs:a.spot with
 |none=>rfl
 |some s=>
  simp only[World.cell?] at h
  split at h
  ·simp[hs] at h
  cases h
theorem zp4 {t e:TypeId}{Q:PV→Prop}(ht:P.underlying t=some (.slice e))(hc:P.cellsOf t=1)(h0:0<P.cellsOf e)(nC:0<P.bytesOf e)(he:Reads enc P w e Q) :
  Reads enc P w t fun p=>∃es,p=.vec es∧(∀x∈es,Q x)∧es.length<ar∧es.length*P.bytesOf e≤reachBytes:=by
 intro n cs x hx hm
 rcases DataW.trod_slice ht hx with⟨rfl,rfl⟩|⟨a,len,cap,elems,rest,n',_,rfl,rfl,_,zG,_,hlen,kK,_,_⟩
 ·exact⟨.vec [],by rw[hc];rfl,.cons .fc .nil,[],rfl,fun x h=>(by cases h),by decide,by simp⟩
 simp only[DataW.weights,ht] at hm
 have mV:len*P.bytesOf e≤reachBytes:=by
  have:=hm _ (List.mem_cons_self ..)
  simp only[List.length_map,hlen] at this
  exact Nat.le_trans (Nat.mul_le_mul_right _ (Nat.le_add_right _ _)) this
 have hbound:len<ar:=by
  have:=hm _ (List.mem_cons_self ..)
  simp only[List.length_map,hlen] at this
  have h2:len≤(len+rest.length)*P.bytesOf e:=Nat.le_trans (Nat.le_add_right _ _) (Nat.le_mul_of_pos_right _ nC)
  have:=reachBytes_lt
  simp only[ar];omega
 rcases Nat.eq_zero_or_pos len with xC|sv
 ·subst xC
  exact⟨.vec [],by rw[hc];rfl,.cons (.da a cap) .nil,[],rfl,fun x h=>(by cases h),by decide,by simp⟩
 have NT:∀i,i<len→∃c y,w.cells? 0 (a.add (i*P.cellsOf e)) (P.cellsOf e)=some c∧DataW.trod enc P w 0 (fun _=>true) true n' e c=some y∧elems[i]?=some y:=fun i hi=>by
  have h1:=kK i hi
  rw[List.getElem?_eq_getElem (by omega)] at h1
  obtain⟨c,h2,h3⟩:=Option.bind_eq_some_iff.1 h1
  exact⟨c,_,h2,h3,by rw[List.getElem?_eq_getElem (by omega)]⟩
 have AL:a.spot=none:=by
  obtain⟨c,y,h1,_,_⟩:=NT 0 sv
  obtain⟨_,h2,h3⟩:=World.cells?_some h1
  have h4:=h3 0 h0
  rw[List.getElem?_eq_getElem (by omega)] at h4
  have:=zyr h4
  simpa[Addr.add] using this
 obtain⟨b,off,sp⟩:=a
 simp only at AL
 subst AL
 have build:∀m,m≤len→∃(es:List PV) (cc:List Value),es.length=m∧(∀p∈es,p.cells.length=P.cellsOf e∧Q p)∧bc (CV w) (es.flatMap PV.cells) cc∧(∀(k:Nat) v',cc[k]?=some v'→w.cell? ⟨b,off+k,none⟩=some v'):=by
  intro m
  induction m with
  |zero=>exact fun _=>⟨[],[],rfl,fun p h=>(by cases h),.nil,fun k v' h=>by simp at h⟩
  |succ m ih=>
   intro cj
   obtain⟨es,cc,h1,h2,h3,h4⟩:=ih (by omega)
   obtain⟨c,y,k1,k2,k3⟩:=NT m (by omega)
   obtain⟨p,p1,p2,p3⟩:=he n' c y k2 (fun q hq=>hm q (List.mem_cons_of_mem _ (List.mem_append_left _ (zrr (List.mem_map.2 ⟨y,List.mem_of_getElem? k3,rfl⟩) q hq))))
   obtain⟨_,g2,g3⟩:=World.cells?_some k1
   have uN:cc.length=m*P.cellsOf e:=by rw[← h3.1,Ae (fun x hx=>(h2 x hx).1),h1]
   refine⟨es++[p],cc++c,by simp[h1],fun x hx=>?_,by simpa using h3.append p2,fun k v' hk=>?_⟩
   ·rcases List.mem_append.1 hx with hx|hx
    ·exact h2 x hx
    simp at hx;subst hx;exact⟨p1,p3⟩
   by_cases zn:k<cc.length
   ·rw[List.getElem?_append_left zn] at hk;exact h4 k v' hk
   rw[List.getElem?_append_right (by omega)] at hk
   have aU:=(List.getElem?_eq_some_iff.1 hk).1
   have:=g3 (k - cc.length) (by omega)
   rw[sn,sn,hk] at this
   rw[← this]
   congr 2
   omega
 obtain⟨es,cc,h1,h2,h3,h4⟩:=build len (Nat.le_refl _)
 have hb:b<w.heap.size:=by
  obtain⟨c,y,k1,_,_⟩:=NT 0 sv
  have:=World.cells?_block k1 h0
  simpa[Addr.add] using this
 refine⟨.vec es,by rw[hc];rfl,.cons ?_ .nil,es,rfl,fun x hx=>(h2 x hx).2,by omega,by rw[h1];exact mV⟩
 subst h1
 exact .vec es b off cap (P.cellsOf e) cc zG hbound h0 (fun p hp=>(h2 p hp).1) hb h4 h3.1.symm (fun k v v' hv aX=>h3.2 k v v' hv aX)
theorem zsj {t e:TypeId}{Q:PV→Prop}(ht:P.underlying t=some (.slice e))(hc:P.cellsOf t=1)(h0:0<P.cellsOf e)(nC:0<P.bytesOf e)(he:Reads enc P w e Q) :
 Reads enc P w t fun p=>∃es,p=.vec es∧(∀x∈es,Q x)∧es.length<ar:=(zp4 ht hc h0 nC he).mono fun p ⟨es,h1,h2,h3,_⟩=>⟨es,h1,h2,h3⟩
def total (P:Program):List Field→Nat
 |[]=>0
 |f::r=>P.cellsOf f.type+total P r
def GQ (P:Program):Nat→List Field→Bool
 |_,[]=>true
 |off,f::r=>decide (f.offset=off)&&GQ P (off+P.cellsOf f.type) r
theorem Uz {n:Nat}{cs:List Value}:∀(fs:List Field) (off:Nat) (Qs:List (PV→Prop)) (xs:List (DataW H×List MemPlace)),fs.length=Qs.length→(∀(i:Nat) f Q,fs[i]?=some f→Qs[i]?=some Q→Reads enc P w f.type Q)→GQ P off fs=true→
  xs.length=fs.length→off+total P fs≤cs.length→
  (∀(i:Nat) (f:Field),fs[i]?=some f→DataW.trod enc P w 0 (fun _=>true) true n f.type ((cs.drop f.offset).take (P.cellsOf f.type))=xs[i]?)→
  (∀m∈DataW.weightsEach P (fs.map (·.type)) (xs.map (·.1)),m≤reachBytes)→
  ∃ps:List PV,ps.length=fs.length∧(ps.flatMap PV.cells).length=total P fs∧bc (CV w) (ps.flatMap PV.cells) ((cs.drop off).take (total P fs))∧∀(i:Nat) Q p,Qs[i]?=some Q→ps[i]?=some p→Q p
 |[],off,Qs,xs,hQ,_,_,_,_,_,_=>⟨[],rfl,rfl,by simp only[total,List.take_zero];exact .nil,fun i Q p _ hp=>by simp at hp⟩
 |f::fs,off,[],xs,hQ,_,_,_,_,_,_=>by simp at hQ
 |f::fs,off,Q::Qs,[],_,_,_,hx,_,_,_=>by simp at hx
 |f::fs,off,Q::Qs,x::xs,hQ,hr,Ei,hx,wR,UA,hm=>by
  simp only[GQ,bR,decide_eq_true_eq] at Ei
  obtain⟨ho,Ei⟩:=Ei
  simp only[total] at wR
  simp only[List.map_cons,DataW.weightsEach,List.mem_append] at hm
  have t0:=UA 0 f rfl
  simp only[List.getElem?_cons_zero] at t0
  obtain⟨p,p1,p2,p3⟩:=hr 0 f Q rfl rfl n _ x t0 (fun m h=>hm m (.inl h))
  obtain⟨ps,h1,h2,h3,h4⟩:=Uz (n:=n) (cs:=cs) fs (off+P.cellsOf f.type) Qs xs (by simpa using hQ) (fun i f Q hf hq=>hr (i+1) f Q (by simpa using hf) (by simpa using hq)) Ei (by simpa using hx) (by omega)
   (fun i f' hf=>by have:=UA (i+1) f' (by simpa using hf);simpa using this) (fun m h=>hm m (.inr h))
  refine⟨p::ps,by simp[h1],by simp[total,h2,p1],?_,fun i Q' p' hq hp=>?_⟩
  ·have e1:(cs.drop off).take (total P (f::fs))=(cs.drop f.offset).take (P.cellsOf f.type)++(cs.drop (off+P.cellsOf f.type)).take (total P fs):=by
    subst ho
    rw[total,List.take_add,List.drop_drop]
   rw[e1,List.flatMap_cons]
   exact p2.append h3
  cases i with
  |zero=>simp at hq hp;subst hq;subst hp;exact p3
  |succ i=>exact h4 i Q' p' (by simpa using hq) (by simpa using hp)
theorem zqq {t:TypeId}{fs:Array Field}(Qs:List (PV→Prop))(ht:P.underlying t=some (.struct fs))(hQ:fs.toList.length=Qs.length)(hr:∀(i:Nat) f Q,fs.toList[i]?=some f→Qs[i]?=some Q→Reads enc P w f.type Q)
  (Ei:GQ P 0 fs.toList=true) (wR:total P fs.toList=P.cellsOf t):Reads enc P w t fun p=>∃ps:List PV,p=.agg (ps.flatMap PV.cells)∧ps.length=Qs.length∧∀(i:Nat) Q p,Qs[i]?=some Q→ps[i]?=some p→Q p:=by
 intro n cs x hx hm
 obtain⟨xs,n',_,rfl,hl,hlen,hf⟩:=DataW.trod_struct ht hx
 simp only[DataW.weights,ht] at hm
 obtain⟨ps,h1,h2,h3,h4⟩:=Uz (n:=n') (cs:=cs) fs.toList 0 Qs xs hQ hr Ei (by simpa using hlen) (by rw[wR];omega) (fun i f pE=>hf i f (by simpa using pE)) hm
 refine⟨.agg (ps.flatMap PV.cells),by rw[← wR];exact h2,?_,ps,rfl,by rw[h1,hQ],h4⟩
 have e:(cs.drop 0).take (total P fs.toList)=cs:=by rw[wR,← hl];simp
 rw[e] at h3
 exact h3
end
open Go.ChangeShapes Go.WideShapes
section
variable {H:Type} {enc:TypeId×Value→H} {P:Program} {w w':World}
theorem xU.sameAt (u:xU w w'){p:MemPlace}(hp:p.block<w.heap.size):w.sameAt w' p:=by
 cases p with
 |cell b off=>exact AQ (u.2.2 b hp)
 |map b=>exact u.2.2 b hp
theorem xU.keptBut (u:xU w w')(may:MemPlace→Prop):w.keptBut w' may:=by
 refine⟨u.1.1,u.1.2,fun i hi=>?_⟩
 rw[u.2.2 i hi]
 cases w.heap[i]? with
 |none=>rfl
 |some o=>cases o<;>first|exact⟨rfl,rfl,rfl,fun _ _=>rfl⟩|exact .inr ⟨rfl,rfl⟩|rfl
theorem UB {base:Nat}{spare:Nat→Bool}{held:Bool}:∀ {ts:List TypeId} {vs:List Value} {ds:List (DataW H)} {ps:List MemPlace},DataW.TrodAll enc P w base spare held ts vs ds ps→(∀p∈ps,w.sameAt w' p)→
  DataW.TrodAll enc P w' base spare held ts vs ds ps
 |[],_,_,_,h,_=>by
  obtain⟨rfl,rfl,rfl⟩:=trodAll_nil h
  exact trodAll_mk0
 |_::_,_,_,_,h,hs=>by
  obtain⟨v,vs1,d,ds1,a,b,rfl,rfl,rfl,⟨n,h1⟩,h2⟩:=trodAll_cons h
  exact⟨a,b,⟨n,DataW.trod_carry n _ _ _ h1 (fun p hp=>hs p (List.mem_append_left _ hp))⟩,UB h2 (fun p hp=>hs p (List.mem_append_right _ hp)),rfl⟩
theorem zm0 {T:TypeId→Prop}(K:Kids P T)(hz:∀t e,T t→P.underlying t=some (.slice e)→0<P.cellsOf e){f:Func}(hT:∀t∈f.params.toList,T t){s:ChangeSpec}{apart fresh handsOn:Bool}{args:Array Value}{v:Value}
  {ds gs:List (DataW H)} {before:List MemPlace} (hW:DataW.Whole enc P f.params.toList s.vars apart w args.toList ds gs before) (py:s.vars=[])
  (yQ:∀(b:Nat) (sp:Nat→Bool) (hd:Bool),DataW.TrodAll enc P w' b sp hd f.resultTypes.toList (v.resultList f.resultTypes.size) (s.fn H (ds++gs)).results [])
  (fH:(s.fn H (ds++gs)).args=ds) (hv:(s.fn H (ds++gs)).vars=[]) (hu:xU w w'):s.post enc P f apart fresh handsOn false w args v w':=by
 have aU:=hW.lt
 refine⟨ds,gs,before,[],before,[],hW,yQ _ _ _,?_,by rw[py,hv];rfl,hu.keptBut _,fun h=>by cases h⟩
 obtain⟨p,q,h1,h2,rfl,_,_⟩:=hW
 rw[py] at h2
 obtain⟨_,rfl⟩:=trodVars_none h2
 rw[List.append_nil] at aU ⊢
 rw[fH]
 exact DataW.TrodAll.respare K hz hT (UB h1 (fun x hx=>hu.sameAt (aU x hx))) (fun x hx=>by simpa using aU x hx)
def GR (enc:TypeId×Value→H)(P:Program)(w:World)(base:Nat)(t:TypeId)(Q:PV→Prop):Prop:=
 ∀v d p,Value.okWide P w .any base t v→DataW.Trod enc P w 0 (fun _=>true) true t v d p→(∀m∈d.weights P t,m≤reachBytes)→∃pv:PV,CV w pv v∧Q pv
theorem zwf {base:Nat}{t:TypeId}{Q:PV→Prop}(hv:∀v,Value.okWide P w .any base t v→v.cells=#[v])(hq:∀p,Q p→p.cells=[p])(hr:Reads enc P w t Q):GR enc P w base t Q:=by
 intro v d p gg ⟨n,hn⟩ hm
 obtain⟨pv,_,h2,h3⟩:=hr n _ _ hn hm
 rw[hq pv h3,hv v gg] at h2
 exact⟨pv,h2.2 0 _ _ rfl rfl,h3⟩
theorem zrh {base:Nat}{t e:TypeId}{Q:PV→Prop}(ht:P.underlying t=some (.slice e))(hq:∀p,Q p→p.cells=[p])(hr:Reads enc P w t Q):GR enc P w base t Q:=
 zwf (fun v h=>by obtain⟨a,l,c,rfl⟩:=okWide_slice ht h;rfl) hq hr
theorem UC {base:Nat}:∀ {ts:List TypeId} (Qs:List (PV→Prop)) {vs:List Value} {ds:List (DataW H)} {ps:List MemPlace},ts.length=Qs.length→(∀(i:Nat) t Q,ts[i]?=some t→Qs[i]?=some Q→GR enc P w base t Q)→
  (∀(i:Nat) t v,ts[i]?=some t→vs[i]?=some v→Value.okWide P w .any base t v)→DataW.TrodAll enc P w 0 (fun _=>true) true ts vs ds ps→(∀m∈DataW.weightsEach P ts ds,m≤reachBytes)→
  ∃tt:List PV,tt.length=Qs.length∧bc (CV w) tt vs∧∀(i:Nat) Q p,Qs[i]?=some Q→tt[i]?=some p→Q p
 |[],[],_,_,_,_,_,_,h,_=>by
  obtain⟨rfl,rfl,rfl⟩:=trodAll_nil h
  exact⟨[],rfl,.nil,fun i Q p _ hp=>by simp at hp⟩
 |[],_::_,_,_,_,hl,_,_,_,_=>by simp at hl
 |_::_,[],_,_,_,hl,_,_,_,_=>by simp at hl
 |t::ts,Q::Qs,_,_,_,hl,ha,gg,h,hm=>by
  obtain⟨v,vs1,d,ds1,a,b,rfl,rfl,rfl,h1,h2⟩:=trodAll_cons h
  simp only[DataW.weightsEach,List.mem_append] at hm
  obtain⟨p,k1,k2⟩:=ha 0 t Q rfl rfl v d a (gg 0 t v rfl rfl) h1 (fun m hx=>hm m (.inl hx))
  obtain⟨tt,k3,k4,k5⟩:=UC (base:=base) Qs (by simpa using hl) (fun i t Q ht hq=>ha (i+1) t Q (by simpa using ht) (by simpa using hq)) (fun i t v ht hv=>gg (i+1) t v (by simpa using ht) (by simpa using hv)) h2 (fun m hx=>hm m (.inr hx))
  refine⟨p::tt,by simp[k3],k4.cons k1,fun i Q' p' hq hp=>?_⟩
  cases i with
  |zero=>simp at hq hp;subst hq;subst hp;exact k2
  |succ i=>exact k5 i Q' p' (by simpa using hq) (by simpa using hp)
theorem zqw {T:TypeId→Prop}(K:Kids P T)(hz:∀t e,T t→P.underlying t=some (.slice e)→0<P.cellsOf e){UD:FuncId}{f:Func}(hT:∀t∈f.params.toList,T t){tb:TypeId}(hb:P.underlying tb=some .bool)(bq:f.resultTypes=#[tb])
  {s:ChangeSpec} (py:s.vars=[]) {base:Nat} {args:Array Value} {ds gs:List (DataW H)} {before:List MemPlace}
  (wK:∀(j:Nat) t v,f.params[j]?=some t→args[j]?=some v→Value.okWide P w .any base t v) (hW:DataW.Whole enc P f.params.toList s.vars false w args.toList ds gs before)
  (e8:(DataW.weightsEach P (f.params.toList++s.plain.varTypes P) (ds++gs)).all (·≤reachBytes)=true) (hvt:s.plain.varTypes P=[])
  (Hc:∀l:List (DataW H),l.length=f.params.toList.length→s.fn H l={ results:=[.lit (.bool true)],args:=l })
  (Qs:List (PV→Prop)) (hQ:f.params.toList.length=Qs.length) (ha:∀(i:Nat) t Q,f.params.toList[i]?=some t→Qs[i]?=some Q→GR enc P w base t Q)
  (qL:∀b,b<bE.K→w.heap[b]?=bE.obj b) (NS:bE.K≤w.heap.size)
  (walk:∀tt:List PV,tt.length=Qs.length→(∀(i:Nat) Q p,Qs[i]?=some Q→tt[i]?=some p→Q p)→aM P UD tt fun r=>r=.bool true) :
  Calls P UD args w fun e w'=>∃v,e=.returned v∧s.post enc P f false true false false w args v w':=by
 have hW':=hW
 obtain⟨p,q,h1,h2,rfl,_,_⟩:=hW
 rw[py] at h2
 obtain⟨rfl,rfl⟩:=trodVars_none h2
 rw[hvt,List.append_nil,List.append_nil] at e8
 have yd:ds.length=f.params.toList.length:=by
  have:∀ {ts:List TypeId} {vs:List Value} {ds:List (DataW H)} {ps:List MemPlace},DataW.TrodAll enc P w 0 (fun _=>true) true ts vs ds ps→ds.length=ts.length:=by
   intro ts
   induction ts with
   |nil=>intro vs ds ps h;obtain⟨_,rfl,_⟩:=trodAll_nil h;rfl
   |cons t ts ih=>intro vs ds ps h;obtain⟨_,_,_,_,_,_,_,rfl,_,_,h⟩:=trodAll_cons h;simp[ih h]
  exact this h1
 obtain⟨tt,k1,k2,k3⟩:=UC (base:=base) Qs hQ ha (fun i t v ht hv=>wK i t v (by simpa using ht) (by simpa using hv)) h1 (fun m hm=>by simpa using List.all_eq_true.1 e8 m hm)
 refine((walk tt k1 k3).enter (w:=w) qL NS (a6:=args) (by have:=k2.1;simpa using this) (fun i v v' hv aX=>k2.2 i v v' hv (by simpa using aX))).mono fun e w' ⟨he,hu⟩=>⟨_,he,?_⟩
 have hs:=Hc (ds++[]) (by simpa using yd)
 refine zm0 K hz hT hW' py (fun b sp hd=>?_) (by rw[hs];simp) (by rw[hs]) hu
 rw[hs,bq]
 exact trodAll_mk1 (v:=.bool true) (p:=[]) ⟨1,by simp[Value.cells,DataW.trod,hb]⟩
end
def ah.back (vh:ah)(i:Nat)(x:aI):ah:=⟨vh.next,(i,x)::vh.be⟩
theorem ah.uE (vh:ah)(i j:Nat)(x:aI):(vh.back i x).get j=if j=i then some x else vh.get j:=by
 simp only[ah.get,ah.back,bh,beq_eq]
 by_cases h:j=i<;>simp[h]
section
variable {P:Program} {N b:Nat} {Q:gV} {ab:aW} {vh:ah} {lo:Nat} {g:Fz} {σ:Sg} {h:ae}
theorem dA.back {N0:Nat}{ba:aC}{h':ae}{g':Fz}{aL:Sg}{aP:aW}{ak:ah}(s:VS lo g σ vh h){i:Nat}{x x':aI}{y:a7}(hx:vh.get i=some x)(hl:x.live=true)
  (a:dA N0 vh.next lo g σ (vh.drop i) (h.put (σ i).1 none) ba h' g' aL aP ak) (tD:rN g' aL ak.next (h'.put (σ i).1 (some y)) i x') :
  VS lo g' aL (ak.back i x') (h'.put (σ i).1 (some y))∧VF σ vh h aL (ak.back i x') (h'.put (σ i).1 (some y))∧dK g σ vh h g':=by
 have aU:=(s.obj i x hx).2.lt hl
 have hi:=(s.obj i x hx).1
 have cp:aL i=σ i:=a.agree i hi
 have sq:(σ i).1<h'.next:=Nat.lt_of_lt_of_le aU a.f.next
 have fU:∀j z,ak.get j=some z→z.live=true→(aL j).1≠(σ i).1:=fun j z hz bT he=>by
  obtain⟨k,u,k1,k2,k3⟩:=a.f.own j z hz bT (by rw[he];exact aU)
  obtain⟨k4,k5⟩:=gH k1
  exact k4 (s.inj k i u x k5 hx k2 hl (k3.trans he))
 have xD:g' (σ i).1=none:=by
  cases hg:g' (σ i).1 with
  |none=>rfl
  |some z=>
   rcases a.own _ z hg aU with h1|⟨k,u,k1,k2,k3⟩
   ·rw[s.iG i x hx hl] at h1;cases h1
   obtain⟨k4,k5⟩:=gH k1
   exact absurd (s.inj k i u x k5 hx k2 hl k3) k4
 have lL:∀p,(h'.put (σ i).1 (some y)).get p=if p=(σ i).1 then some y else h'.get p:=fun p=>ae.dB _ _ _ _ sq
 refine⟨⟨fun j z hz=>?_,fun j k z u hz hu bT rq he=>?_,fun j z hz bT=>?_,fun p z hz=>?_,fun j z hz bT=>?_,a.s.bA⟩,⟨a.f.next,fun p hp hn=>?_,fun j z hz bT mI=>?_⟩,fun p z hz hp=>?_⟩
 ·rw[ah.uE] at hz
  by_cases hj:j=i
  ·subst hj;simp at hz;subst hz;exact⟨Nat.lt_of_lt_of_le hi a.base,tD⟩
  simp[hj] at hz
  obtain⟨k1,k2⟩:=a.s.obj j z hz
  exact⟨k1,k2.mono (Fz.le_refl g') (Nat.le_refl _) (fun _ _=>rfl) k1 fun bT=>by rw[lL,if_neg (fU j z hz bT)]⟩
 ·rw[ah.uE] at hz hu
  by_cases hj:j=i<;>by_cases hk:k=i
  ·rw[hj,hk]
  ·simp[hk] at hu;subst hj;rw[cp] at he;exact absurd he.symm (fU k u hu rq)
  ·simp[hj] at hz;subst hk;rw[cp] at he;exact absurd he (fU j z hz bT)
  simp[hj] at hz;simp[hk] at hu;exact a.s.inj j k z u hz hu bT rq he
 ·rw[ah.uE] at hz
  by_cases hj:j=i
  ·subst hj;rw[cp];exact s.low j x hx hl
  simp[hj] at hz;exact a.s.low j z hz bT
 ·rw[lL,if_neg (by rintro rfl;rw[xD] at hz;cases hz)];exact a.s.fz p z hz
 ·rw[ah.uE] at hz
  by_cases hj:j=i
  ·subst hj;rw[cp];exact xD
  simp[hj] at hz;exact a.s.iG j z hz bT
 ·have Ej:p≠(σ i).1:=fun he=>hn i x hx hl he.symm
  rw[lL,if_neg Ej,a.f.fe p hp fun j z hz bT=>hn j z (gH hz).2 bT,ae.dB _ _ _ _ aU,if_neg Ej]
 ·rw[ah.uE] at hz
  by_cases hj:j=i
  ·subst hj;exact⟨j,x,hx,hl,by rw[cp]⟩
  simp[hj] at hz
  obtain⟨k,u,k1,k2,k3⟩:=a.f.own j z hz bT mI
  exact⟨k,u,(gH k1).2,k2,k3⟩
 rcases a.own p z hz hp with h1|⟨k,u,k1,k2,k3⟩
 ·exact .inl h1
 exact .inr ⟨k,u,(gH k1).2,k2,k3⟩
def nD (ab:aW):List (Tmp×PV)→aW
 |[]=>ab
 |(t,v)::r=>nD ((t,v)::ab) r
theorem NB {n:Nat}:∀ {ps:List Tmp} {l:List PV} {l':List Value} {ab:aW} {ts:aC},VT g σ n ab ts→bc (VR g σ n) l l'→(∀t∈ps,t<ts.length)→
  VT g σ n (nD ab (ps.zip l)) (rM ts (ps.zip l'))∧(rM ts (ps.zip l')).length=ts.length
 |[],_,_,_,_,ht,_,_=>by exact⟨by simpa[nD,rM] using ht,by simp[rM]⟩
 |p::ps,[],l',ab,ts,ht,hl,_=>by
  have:=hl.iP;subst this
  exact⟨by simpa[nD,rM] using ht,by simp[rM]⟩
 |p::ps,v::l,l',ab,ts,ht,hl,hp=>by
  obtain⟨v',r',rfl,h1,h2⟩:=hl.dt
  simp only[List.zip_cons_cons,nD,rM]
  have aU:=hp p List.mem_cons_self
  obtain⟨k1,k2⟩:=NB (ps:=ps) (l:=l) (l':=r') (ab:=(p,v)::ab) (ts:=ts.set p v') (fun t u hu=>by
   simp only[bS,beq_eq] at hu
   by_cases NU:t=p
   ·subst NU;simp at hu;subst hu
    rw[List.getD_eq_getElem?_getD,List.getElem?_set_self aU];exact h1
   simp[NU] at hu
   rw[List.getD_eq_getElem?_getD,List.getElem?_set_ne (fun h=>NU h.symm),← List.getD_eq_getElem?_getD];exact ht t u hu) h2 (fun t hm=>by simp;exact hp t (List.mem_cons_of_mem _ hm))
  exact⟨k1,by simpa using k2⟩
def z5j (N0:Nat)(ps:Array Tmp)(assign body:Code)(cX:aW)(i:Nat)(K:Bool→ah→Prop):gV
 |.normal,_,ak=>K true (ak.back i (.loop N0 ps assign body cX none))
 |.ret,_,ak=>K false (ak.back i (.loop N0 ps assign body cX (some .ret)))
 |.exit id,_,ak=>K false (ak.back i (.loop N0 ps assign body cX (some (.exit id))))
 |_,_,_=>False
theorem kx.yield {o:Oper}{fo:Operand}{args:Array Operand}{aT:Array TypeId}{i N0:Nat}{ps:Array Tmp}{assign body:Code}{cX:aW}{l:List PV}{next:aW→ah→Prop}(ho:o.op=.call ⟨.value fo,args,aT⟩)
  (hf:cF ab fo=some (.bN i)) (hl:iX ab args.toList=some l) (hg:vh.get i=some (.loop N0 ps assign body cX none)) (hlen:l.length=ps.size) (fE:ps.toList.all (Nat.blt · N0)=true) (hd:gr N o.dst=true)
  (hc:VW P N0 vh.next assign (zt (VW P N0 vh.next body (z5j N0 ps assign body cX i fun bb ak=>next (bU ab o.dst (.bool bb)) ak)) (fun _ _ _=>False)) (nD cX (ps.toList.zip l)) (vh.drop i)) :
  kx P N b o next ab vh:=fun lo g σ h ts ht hn s hb=>by
 obtain⟨f',k1,k2⟩:=eh ht hf
 obtain⟨l',k3,k4⟩:=yA ht hl
 obtain⟨hi,L,q1,q2,q3,q4,q5,q6⟩:=s.obj i _ hg
 have GW:f'=.func (.yield (σ i).1) #[] #[]:=by
  cases k2 with
  |fr _ _ h=>cases h
  |bN _ o a k dD hs=>rw[hs]
 subst GW
 subst q2;subst q3;subst q4
 have fa:aI.live (.loop N0 L.params L.assign L.body cX none)=true:=rfl
 obtain⟨sk,_⟩:=s.kill hg fa
 have gZ:∀t∈L.params.toList,t<L.ts.length:=fun t E0=>by
  rw[List.all_eq_true] at fE
  rw[q5];simpa using fE t E0
 obtain⟨e1,e2⟩:=NB (g:=g) (σ:=σ) (n:=vh.next) (ps:=L.params.toList) q6 k4 gZ
 refine .yield ho k1 k3 q1 (s.low i _ hg fa) (by rw[← hlen,k4.1]) ?_
 have run:=hc lo g σ (h.put (σ i).1 none) _ e1 (e2.trans q5) sk (Nat.le_refl _)
 have fin:∀(jump:Option Code) (lR:aC) (h2:ae) (g2:Fz) (dp:Sg) (ay:aW) (aQ:ah),dA N0 vh.next lo g σ (vh.drop i) (h.put (σ i).1 none) lR h2 g2 dp ay aQ→
   next (bU ab o.dst (.bool jump.isNone)) (aQ.back i (.loop N0 L.params L.assign L.body cX jump))→nS N b lo g σ vh h next (bw ts o.dst (.bool jump.isNone)) (h2.put (σ i).1 (some (.loop L jump))):=by
  intro jump lR h2 g2 dp ay aQ a hk
  have cp:dp i=σ i:=a.agree i hi
  have mI:(σ i).1<h2.next:=Nat.lt_of_lt_of_le ((s.obj i _ hg).2.lt fa) a.f.next
  obtain⟨r1,r2,r3⟩:=dA.back (x':=.loop N0 L.params L.assign L.body cX jump) (y:=.loop L jump) s hg fa a ⟨L,by rw[cp,ae.dB _ _ _ _ mI];simp,rfl,rfl,rfl,q5,q6.mono a.le a.base a.agree⟩
  obtain⟨t1,t2⟩:=ru a.le a.base a.agree ht o.dst (hn▸hd) (.fr _ _ (.bool jump.isNone):VR g2 dp aQ.next (.bool jump.isNone) (.bool jump.isNone))
  exact⟨g2,dp,_,aQ.back i (.loop N0 L.params L.assign L.body cX jump),⟨t1,t2.trans hn,r1,a.le,fun j hj=>a.agree j (by omega),r2,Nat.le_trans hb a.base,r3⟩,hk⟩
 refine run.mono fun e jv h1 hs=>?_
 cases e with
 |normal=>
  obtain⟨g1,oT,gO,b6,a1,hW⟩:=hs
  refine(hW lo g1 oT h1 jv a1.t a1.len a1.s a1.base).mono fun e lR h2 ft=>?_
  cases e with
  |normal=>obtain⟨g2,dp,ay,aQ,a2,hk⟩:=ft;exact fin none _ _ _ _ _ _ (a1.trans a2) hk
  |ret=>obtain⟨g2,dp,ay,aQ,a2,hk⟩:=ft;exact fin (some .ret) _ _ _ _ _ _ (a1.trans a2) hk
  |exit id=>obtain⟨g2,dp,ay,aQ,a2,hk⟩:=ft;exact fin (some (.exit id)) _ _ _ _ _ _ (a1.trans a2) hk
  |goto l=>obtain⟨_,_,_,_,_,hk⟩:=ft;exact hk.elim
  |panic ch=>obtain⟨_,_,_,_,_,hk⟩:=ft;exact hk.elim
  |outgrown=>obtain⟨_,_,_,_,_,hk⟩:=ft;exact hk.elim
 |exit id=>obtain⟨_,_,_,_,_,hk⟩:=hs;exact hk.elim
 |goto l=>obtain⟨_,_,_,_,_,hk⟩:=hs;exact hk.elim
 |ret=>obtain⟨_,_,_,_,_,hk⟩:=hs;exact hk.elim
 |panic ch=>obtain⟨_,_,_,_,_,hk⟩:=hs;exact hk.elim
 |outgrown=>obtain⟨_,_,_,_,_,hk⟩:=hs;exact hk.elim
@[irreducible] def kU (i:Nat)(ab:aW)(Q:gV)(ak:ah):Prop:=match ak.get i with
 |some (.loop _ _ _ _ _ none)=>Q .normal ab (ak.drop i)
 |some (.loop _ _ _ _ _ (some .ret))=>Q .ret ab (ak.drop i)
 |some (.loop _ _ _ _ _ (some (.exit id)))=>Q (.exit id) ab (ak.drop i)
 |_=>False
def Ua (i:Nat)(ab:aW)(Q:gV):gV
 |.normal,_,ak=>kU i ab Q ak
 |.ret,_,ak=>kU i ab Q ak
 |_,_,_=>False
theorem B1 {i:Nat}{ab ay:aW}{Q:gV}{ak:ah}{N2:Nat}{rB:Array Tmp}{a2 b2:Code}(h:ak.get i=some (.loop N2 rB a2 b2 ay none))(k:Q .normal ab (ak.drop i)):kU i ab Q ak:=by
 unfold kU;rw[h];exact k
theorem Aj {i:Nat}{ab ay:aW}{Q:gV}{ak:ah}{N2:Nat}{rB:Array Tmp}{a2 b2:Code}(h:ak.get i=some (.loop N2 rB a2 b2 ay (some .ret)))(k:Q .ret ab (ak.drop i)):kU i ab Q ak:=by
 unfold kU;rw[h];exact k
theorem z3a {i id:Nat}{ab ay:aW}{Q:gV}{ak:ah}{N2:Nat}{rB:Array Tmp}{a2 b2:Code}(h:ak.get i=some (.loop N2 rB a2 b2 ay (some (.exit id))))(k:Q (.exit id) ab (ak.drop i)):kU i ab Q ak:=by
 unfold kU;rw[h];exact k
theorem z5z {n m:Nat}{args:List PV}{au:List Value}(ha:bc (VR g σ n) args au):VT g σ n (l9 0 args) (au++List.replicate m Go.undef):=fun t v hv=>by
 rw[NM] at hv
 simp at hv
 obtain⟨v',h1,h2⟩:=ha.get hv
 have aU:t<au.length:=by
  rcases Nat.lt_or_ge t au.length with h|h
  ·exact h
  rw[List.getElem?_eq_none h] at h1;cases h1
 have:(au++List.replicate m Go.undef).getD t Go.undef=v':=by
  rw[List.getD,List.getElem?_append_left aU,h1];rfl
 rw[this];exact h2
theorem VW.rangeFunc {g0:Operand}{ps:Array Tmp}{assign body:Code}{f:FuncId}{fn:Func}{c:Code}{xs ys:List PV}(hg:cF ab g0=some (.func f xs ys))(dM:∀cs w,(callFunc f cs).run P w=.ok (.enter f cs) w)
  (hf:P.funcs[f]?=some fn) (hb:fn.body=some c) (hr:fn.results=#[]) (hn:Nat.ble (xs.length+1+ys.length) fn.ntmps=true)
  (hc:VW P fn.ntmps (vh.next+1) c (Ua vh.next ab Q) (l9 0 (xs++[.bN vh.next]++ys)) (vh.alloc (.loop N ps assign body ab none))):VW P N b (.rangeFunc g0 ps assign body) Q ab vh:=fun lo g σ h ts ht hN s uv=>by
 obtain⟨f',k1,k2⟩:=eh ht hg
 obtain⟨bk,dq,rfl,hx,hy⟩:=Ji k2
 have zy:∀i,i<vh.next→(σ.put vh.next (h.next,0,0)) i=σ i:=fun i hi=>Sg.xg _ _ (by omega)
 obtain⟨s1,f1⟩:=s.alloc (x:=.loop N ps assign body ab none) (.loop ⟨ps,assign,body,ts,0⟩ none) 0 ⟨⟨ps,assign,body,ts,0⟩,by rw[Sg.ct,ae.gX];simp,rfl,rfl,rfl,hN,ht.mono (Fz.le_refl g) (Nat.le_succ _) zy⟩
 have ha:bc (VR g (σ.put vh.next (h.next,0,0)) (vh.next+1)) (xs++[.bN vh.next]++ys) (bk.toList++[Value.func (.yield h.next) #[] #[]]++dq.toList):=
  ((hx.BG (Fz.le_refl g) (Nat.le_succ _) zy).append (.cons (.bN vh.next h.next 0 0 (Nat.lt_succ_self _) (Sg.ct _ _ _)) .nil)).append (hy.BG (Fz.le_refl g) (Nat.le_succ _) zy)
 refine .rangeFunc 0 k1 dM (.bV hf hb ?_)
 have hlen:((bk.toList++[Value.func (.yield h.next) #[] #[]]++dq.toList)++List.replicate (fn.ntmps - (bk.toList++[Value.func (.yield h.next) #[] #[]]++dq.toList).length) Go.undef).length=fn.ntmps:=by
  have h1:=ha.1
  have h2:xs.length+1+ys.length≤fn.ntmps:=by simpa using hn
  simp at h1 ⊢;omega
 refine(hc lo g _ _ _ (z5z ha) hlen s1 (Nat.le_refl _)).mono fun e ba h' ⟨g',aL,aP,ak,a,k⟩=>?_
 have fin:kU vh.next ab Q ak→∃l,sC P ba h' fn.results.toList=some l∧∃L jump,h'.get h.next=some (.loop L jump)∧match jump with
    |none=>nS N b lo g σ vh h (Q .normal) ts (h'.put h.next none)
    |some c=>AW P lo c (fun e=>nS N b lo g σ vh h (Q e)) ts (h'.put h.next none):=fun tC=>by
  refine⟨[],by rw[hr];rfl,?_⟩
  have dQ:aL vh.next=(h.next,0,0):=(a.agree vh.next (Nat.lt_succ_self _)).trans (Sg.ct _ _ _)
  have Hd:∀i,i<vh.next→aL i=σ i:=fun i hi=>(a.agree i (by omega)).trans (zy i hi)
  have UE:vh.next≤ak.next:=Nat.le_trans (Nat.le_succ _) a.base
  have done:∀ {N2 rB a2 b2 ay jump},ak.get vh.next=some (.loop N2 rB a2 b2 ay jump)→∀ {K:aW→ah→Prop},K ab (ak.drop vh.next)→nS N b lo g σ vh h K ts (h'.put h.next none):=fun pN K hK=>by
   have:=a.s.kill pN rfl
   rw[dQ] at this
   exact⟨g',aL,ab,ak.drop vh.next,⟨ht.mono a.le UE Hd,hN,this.1,a.le,fun i hi=>Hd i (by omega),(f1.trans a.f).trans this.2,Nat.le_trans uv UE,(dK.refl g σ vh h).trans f1 a.own⟩,hK⟩
  have obj:∀ {N2 rB a2 b2 ay jump},ak.get vh.next=some (.loop N2 rB a2 b2 ay jump)→∃L,h'.get h.next=some (.loop L jump):=fun pN=>by
   obtain⟨_,L,q1,_⟩:=a.s.obj _ _ pN
   rw[dQ] at q1
   exact⟨L,q1⟩
  unfold kU at tC
  split at tC
  ·rename_i pN;obtain⟨L,hL⟩:=obj pN;exact⟨L,none,hL,done pN tC⟩
  ·rename_i pN;obtain⟨L,hL⟩:=obj pN;exact⟨L,some .ret,hL,.ret (done pN tC)⟩
  ·rename_i id pN;obtain⟨L,hL⟩:=obj pN;exact⟨L,some (.exit id),hL,.exit (done pN tC)⟩
  exact tC.elim
 cases e with
 |normal=>exact fin k
 |ret=>exact fin k
 |exit id=>exact k.elim
 |goto l=>exact k.elim
 |panic ch=>exact k.elim
 |outgrown=>exact k.elim
end
section
variable {P:Program} {N b lo:Nat} {Q:gV} {ab:aW} {vh ak:ah} {g g':Fz} {σ aL:Sg} {h h':ae}
theorem VS.NV (s:VS lo g σ vh h){T:ae}{V:ah}{ids:List Nat}(hn:T.next=h.next)(hv:V.next=vh.next)(hV:∀j x,V.get j=some x→vh.get j=some x∧j∉ids)
  (hT:∀o,T.get o=h.get o∨∃i x,i∈ids∧vh.get i=some x∧x.live=true∧(σ i).1=o):VS lo g σ V T:=by
 refine⟨fun j x hx=>?_,fun i j x y hx hy=>s.inj i j x y (hV i x hx).1 (hV j y hy).1,fun j x hx=>s.low j x (hV j x hx).1,fun o x hx=>?_,fun j x hx=>s.iG j x (hV j x hx).1,hn▸s.bA⟩
 ·obtain⟨h1,h2⟩:=hV j x hx
  obtain⟨k1,k2⟩:=s.obj j x h1
  rw[hv]
  refine⟨k1,k2.mono (Fz.le_refl g) (Nat.le_refl _) (fun _ _=>rfl) k1 fun hl=>?_⟩
  rcases hT (σ j).1 with h|⟨i,y,hi,hy,fg,he⟩
  ·exact h
  have:=s.inj i j y x hy h1 fg hl he
  subst this;exact absurd hi h2
 rcases hT o with h|⟨i,y,hi,hy,fg,he⟩
 ·rw[h];exact s.fz o x hx
 have:=s.iG i y hy fg
 rw[he,hx] at this;cases this
theorem dA.xcd {σs:Sg}{gs:Fz}{UF:ah}{hs:ae}{bY ba:aC}{cX aP:aW}{V V2:ah}{T H2:ae}{ids:List Nat}(a0:dA N b lo gs σs UF hs bY h g σ cX vh)
  (hn:T.next=h.next) (hv:V.next=vh.next) (hV:∀j x,V.get j=some x→vh.get j=some x∧j∉ids)
  (hid:∀i∈ids,∃x,vh.get i=some x∧x.live=true)
  (hT:∀o,T.get o=h.get o∨∃i,i∈ids∧(σ i).1=o)
  (a:dA N vh.next lo g σ V T ba h' g' aL aP ak)
  (UG:H2.next=h'.next) (h2:∀o,(∃i,i∈ids∧(σ i).1=o∧H2.get o=h.get o)∨((∀i∈ids,(σ i).1≠o)∧H2.get o=h'.get o))
  (NW:V2.next=ak.next) (Ek:∀j x,V2.get j=some x→(j∈ids∧vh.get j=some x)∨(j∉ids∧ak.get j=some x)) :
  dA N b lo gs σs UF hs ba H2 g' aL aP V2:=by
 have s:=a0.s
 have lt:∀i x,vh.get i=some x→i<vh.next:=fun i x hx=>(s.obj i x hx).1
 have dQ:∀i,i<vh.next→aL i=σ i:=a.agree
 have sG:∀j z,ak.get j=some z→z.live=true→∀i∈ids,(aL j).1≠(σ i).1:=fun j z hz bT i hi he=>by
  obtain⟨x,hx,hl⟩:=hid i hi
  obtain⟨k,u,k1,k2,k3⟩:=a.f.own j z hz bT (by rw[he,hn];exact(s.obj i x hx).2.lt hl)
  obtain⟨k4,k5⟩:=hV k u k1
  have:=s.inj k i u x k4 hx k2 hl (k3.trans he)
  subst this;exact k5 hi
 have xD:∀i∈ids,g' (σ i).1=none:=fun i hi=>by
  obtain⟨x,hx,hl⟩:=hid i hi
  cases hg:g' (σ i).1 with
  |none=>rfl
  |some z=>
   rcases a.own _ z hg (by rw[hn];exact(s.obj i x hx).2.lt hl) with h1|⟨k,u,k1,k2,k3⟩
   ·rw[s.iG i x hx hl] at h1;cases h1
   obtain⟨k4,k5⟩:=hV k u k1
   have:=s.inj k i u x k4 hx k2 hl k3
   subst this;exact absurd hi k5
 have ea:∀j x,j∈ids→vh.get j=some x→x.live=true→H2.get (σ j).1=h.get (σ j).1:=fun j x hj hx hl=>by
  rcases h2 (σ j).1 with⟨i,hi,he,h3⟩|⟨h3,_⟩
  ·exact h3
  exact absurd rfl (h3 j hj)
 refine⟨?_,a.len,⟨fun j x hx=>?_,fun j k x y hx hy wS fg he=>?_,fun j x hx hl=>?_,fun o x hx=>?_,fun j x hx hl=>?_,UG▸a.s.bA⟩,Fz.le_trans a0.le a.le,fun i hi=>(dQ i (Nat.lt_of_lt_of_le hi a0.base)).trans (a0.agree i hi),
  ⟨UG▸(Nat.le_trans a0.f.next (hn▸a.f.next)),fun o ho fU=>?_,fun j x hx hl aU=>?_⟩,NW▸(Nat.le_trans a0.base a.base),fun o x hx ho=>?_⟩
 ·rw[NW];exact a.t
 ·rw[NW]
  rcases Ek j x hx with⟨hj,hx⟩|⟨hj,hx⟩
  ·obtain⟨k1,k2⟩:=s.obj j x hx
   exact⟨Nat.lt_of_lt_of_le k1 a.base,k2.mono a.le a.base dQ k1 fun hl=>ea j x hj hx hl⟩
  obtain⟨k1,k2⟩:=a.s.obj j x hx
  refine⟨k1,k2.mono (Fz.le_refl g') (Nat.le_refl _) (fun _ _=>rfl) k1 fun hl=>?_⟩
  rcases h2 (aL j).1 with⟨i,hi,he,h3⟩|⟨_,h3⟩
  ·exact absurd he.symm (sG j x hx hl i hi)
  exact h3
 ·rcases Ek j x hx with⟨hj,hx⟩|⟨hj,hx⟩<;>rcases Ek k y hy with⟨hk,hy⟩|⟨hk,hy⟩
  ·rw[dQ j (lt j x hx),dQ k (lt k y hy)] at he;exact s.inj j k x y hx hy wS fg he
  ·rw[dQ j (lt j x hx)] at he;exact absurd he.symm (sG k y hy fg j hj)
  ·rw[dQ k (lt k y hy)] at he;exact absurd he (sG j x hx wS k hk)
  exact a.s.inj j k x y hx hy wS fg he
 ·rcases Ek j x hx with⟨hj,hx⟩|⟨hj,hx⟩
  ·rw[dQ j (lt j x hx)];exact s.low j x hx hl
  exact a.s.low j x hx hl
 ·rcases h2 o with⟨i,hi,he,h3⟩|⟨_,h3⟩
  ·subst he;rw[xD i hi] at hx;cases hx
  rw[h3];exact a.s.fz o x hx
 ·rcases Ek j x hx with⟨hj,hx⟩|⟨hj,hx⟩
  ·rw[dQ j (lt j x hx)];exact xD j hj
  exact a.s.iG j x hx hl
 ·have h3:=a0.f.fe o ho fU
  have aU:o<h.next:=Nat.lt_of_lt_of_le ho a0.f.next
  rcases h2 o with⟨i,hi,he,h4⟩|⟨h4,h5⟩
  ·rw[h4,h3]
  rw[h5,a.f.fe o (by rw[hn];exact aU) fun j x hx hl he=>?_]
  ·rcases hT o with h6|⟨i,hi,he⟩
   ·rw[h6,h3]
   exact absurd he (h4 i hi)
  obtain⟨k,u,k1,k2,k3⟩:=a0.f.own j x (hV j x hx).1 hl (by rw[he];exact ho)
  exact fU k u k1 k2 (k3.trans he)
 ·rcases Ek j x hx with⟨hj,hx⟩|⟨hj,hx⟩
  ·rw[dQ j (lt j x hx)] at aU ⊢;exact a0.f.own j x hx hl aU
  obtain⟨k,u,k1,k2,k3⟩:=a.f.own j x hx hl (by rw[hn];exact Nat.lt_of_lt_of_le aU a0.f.next)
  obtain⟨q,w,q1,q2,q3⟩:=a0.f.own k u (hV k u k1).1 k2 (by rw[k3];exact aU)
  exact⟨q,w,q1,q2,q3.trans k3⟩
 rcases a.own o x hx (by rw[hn];exact Nat.lt_of_lt_of_le ho a0.f.next) with h3|⟨k,u,k1,k2,k3⟩
 ·exact a0.own o x h3 ho
 obtain⟨q,w,q1,q2,q3⟩:=a0.f.own k u (hV k u k1).1 k2 (by rw[k3];exact ho)
 exact .inr ⟨q,w,q1,q2,q3.trans k3⟩
def ig (P:Program)(ab:aW)(vh:ah):Op→Option (PV×aI)
 |.alloc t=>(eB P t).map fun z=>(.ptr vh.next 0,.box z)
 |.box _ x=>(cF ab x).map fun v=>(.ptr vh.next 0,.box v.cells)
 |.buildSlice t n parts=>match ny ab parts.toList with
  |some l=>match oV P ⟨vh.next,[]⟩ t n l with
   |some (v,aQ)=>match aQ.get vh.next with
    |some x=>some (v,x)
    |none=>none
   |none=>none
  |none=>none
 |.makeSlice t l c=>match cF ab l,cF ab c with
  |some a,some b=>match oX P ⟨vh.next,[]⟩ t a b with
   |some (v,aQ)=>match aQ.get vh.next with
    |some x=>some (v,x)
    |none=>none
   |none=>none
  |_,_=>none
 |_=>none
theorem z3w {ts:aC}(ht:VT g σ vh.next ab ts){op:Op}{v:PV}{x:aI}(hv:ig P ab vh op=some (v,x))(id:Nat):∃v' y,ic P ts id op=some (v',y)∧x.live=true∧
  ∀(dp:Sg) (h2:ae),dp vh.next=(id,0,0)→(∀i,i<vh.next→dp i=σ i)→h2.get id=some y→VR g dp (vh.next+1) v v'∧rN g dp (vh.next+1) h2 vh.next x:=by
 cases op<;>simp only[ig] at hv<;>try (cases hv;done)
 case alloc t=>
  obtain⟨z,h1,h2⟩:=cZ hv
  simp only[bI] at h2
  obtain⟨rfl,rfl⟩:=h2
  obtain⟨z',k1,k2⟩:=xh (g:=g) h1
  refine⟨_,_,by simp only[ic,k1];rfl,rfl,fun dp h2 e1 e2 e3=>⟨?_,0,z',by rw[e1];exact e3,by rw[e1],k2.vr⟩⟩
  have:=VR.ptr (g:=g) (σ:=dp) (n:=vh.next+1) vh.next 0 id 0 0 (by omega) e1
  simpa using this
 case box t y=>
  obtain⟨u,h1,h2⟩:=cZ hv
  simp only[bI] at h2
  obtain⟨rfl,rfl⟩:=h2
  obtain⟨u',k1,k2⟩:=eh ht h1
  refine⟨_,_,by simp only[ic,k1];rfl,rfl,fun dp h2 e1 e2 e3=>⟨?_,0,u'.cells.toList,by rw[e1];exact e3,by rw[e1],k2.cells.BG (Fz.le_refl g) (Nat.le_succ _) e2⟩⟩
  have:=VR.ptr (g:=g) (σ:=dp) (n:=vh.next+1) vh.next 0 id 0 0 (by omega) e1
  simpa using this
 case buildSlice t len parts=>
  split at hv
  ·rename_i l hl
   obtain⟨l',k1,k2⟩:=HZ ht hl
   split at hv
   ·rename_i v0 aQ hb
    unfold oV at hb
    split at hb
    ·rename_i e n2 jq
     split at hb
     ·rename_i z ag hz dQ
      obtain⟨z',h1,h2⟩:=xh (g:=g) hz
      cases wT:(Nat.beq z.length n2&&Nat.ble (len*n2) 16777216&&Nat.blt 0 n2) with
      |false=>rw[wT] at hb;cases hb
      |true=>
       rw[wT] at hb
       simp only[aJ] at hb
       split at hb
       ·rename_i cs hf
        cases ha:PV.aG cs with
        |false=>rw[ha] at hb;cases hb
        |true=>
         rw[ha] at hb
         simp only[aJ,ax,bI] at hb
         obtain⟨rfl,rfl⟩:=hb
         have vM:(ah.alloc ⟨vh.next,[]⟩ (.arr ag n2 cs)).get vh.next=some (.arr ag n2 cs):=by rw[ah.gX];simp
         rw[vM] at hv
         simp only[ax,bI] at hv
         obtain⟨rfl,rfl⟩:=hv
         obtain⟨ao,h4,h5⟩:=E6 k2 (Dn h2.vr len) hf
         have oB:(Nat.beq z'.length n2&&Nat.ble (len*n2) 16777216&&Nat.blt 0 n2)=true:=by rw[← h2.1];exact wT
         simp only[bR,Nat.blt_eq,Nat.ble_eq] at wT
         have hlen:len≤len*n2:=Nat.le_mul_of_pos_right _ wT.2
         have di:(16777216:Nat)<ar:=by decide
         refine⟨_,_,by simp only[ic,k1,jq,h1,oB,aJ,h4];rfl,rfl,fun dp h3 e1 e2 e3=>⟨?_,wT.2,0,ao,by rw[e1];exact e3,by rw[e1],h5.aB ha⟩⟩
         have:=VR.own (g:=g) (σ:=dp) (n:=vh.next+1) vh.next 0 len len id 0 0 (by omega) e1 (Nat.le_refl _) (by omega)
         simpa using this
       cases hb
     cases hb
    cases hb
   cases hv
  cases hv
 case makeSlice t lx cx=>
  split at hv
  ·rename_i la ca hla NX
   obtain⟨l',q1,q2⟩:=eh ht hla
   obtain⟨c',q3,q4⟩:=eh ht NX
   split at hv
   ·rename_i v0 aQ hb
    unfold oX at hb
    split at hb
    ·rename_i l c e n jq
     have:=q2.aB rfl;cases this
     have:=q4.aB rfl;cases this
     split at hb
     ·rename_i z bytes ag hz nC dQ
      obtain⟨z',h1,h2⟩:=xh (g:=g) hz
      cases wT:(decide (0≤l∧l≤c∧c≤4294967296)&&Nat.beq z.length n&&Nat.ble bytes 4096&&Nat.blt 0 n) with
      |false=>rw[wT] at hb;cases hb
      |true=>
       rw[wT] at hb
       simp only[aJ,ax,bI] at hb
       obtain⟨rfl,rfl⟩:=hb
       have vM:(ah.alloc ⟨vh.next,[]⟩ (.arr ag n (cB z c.toNat))).get vh.next=some (.arr ag n (cB z c.toNat)):=by rw[ah.gX];simp
       rw[vM] at hv
       simp only[ax,bI] at hv
       obtain⟨rfl,rfl⟩:=hv
       simp only[bR,decide_eq_true_eq,Nat.blt_eq,Nat.ble_eq] at wT
       obtain⟨⟨⟨⟨gG,cK,oa⟩,BJ⟩,KG⟩,E7⟩:=wT
       have C9:z'.length=n:=by rw[← h2.1];simpa using BJ
       cases l with
       |negSucc l=>omega
       |ofNat l=>
        cases c with
        |negSucc c=>omega
        |ofNat c=>
         have e1:l≤c:=by have:(l:Int)≤(c:Int):=cK;omega
         have e2:c≤4294967296:=by have:(c:Int)≤4294967296:=oa;omega
         have e3:bytes*c≤4096*4294967296:=Nat.mul_le_mul KG e2
         have cN:(Nat.beq z'.length n&&Nat.ble l c&&Nat.ble (bytes*c) 281474976710656&&Nat.blt 0 n&&Nat.ble c 281474976710656)=true:=by
          simp only[bR,Nat.ble_eq,Nat.blt_eq]
          exact⟨⟨⟨⟨by rw[C9];exact Nat.beq_refl n,e1⟩,by omega⟩,E7⟩,by omega⟩
         have di:(4294967296:Nat)<ar:=by decide
         refine⟨_,_,by simp only[ic,q1,q3,jq,h1,nC,cN,aJ];rfl,rfl,fun dp h3 k1 k2 k3=>⟨?_,E7,0,cJ z' c,by rw[k1];exact k3,by rw[k1],Dn h2 c⟩⟩
         have:=VR.own (g:=g) (σ:=dp) (n:=vh.next+1) vh.next 0 l c id 0 0 (by omega) k1 e1 (by omega)
         simpa using this
     cases hb
    cases hb
   cases hv
  cases hv
end
theorem rC {base:Nat}{M:Nat→Bool}{h:ae}:∀fl:List (Nat×a7),(gF base M fl h).next=h.next
 |[]=>rfl
 |(i,x)::r=>by
  simp only[gF]
  cases M i<;>simp[rC r]
theorem zz {base:Nat}{M:Nat→Bool}{h:ae}{o:Nat}:∀ {fl:List (Nat×a7)},(∀q∈fl,base+q.1<h.next)→(∀q∈fl,M q.1=true→base+q.1≠o)→(gF base M fl h).get o=h.get o
 |[],_,_=>rfl
 |(i,x)::r,hl,hq=>by
  have ih:=zz (base:=base) (M:=M) (h:=h) (o:=o) (fl:=r) (fun q hm=>hl q (List.mem_cons_of_mem _ hm)) fun q hm=>hq q (List.mem_cons_of_mem _ hm)
  simp only[gF]
  cases hM:M i with
  |false=>simpa using ih
  |true=>
   have h1:=hl (i,x) List.mem_cons_self
   rw[aJ,ae.dB _ _ _ _ (by rw[rC];exact h1),if_neg fun he=>hq (i,x) List.mem_cons_self hM he.symm,ih]
theorem He {base:Nat}{M:Nat→Bool}{h:ae}:∀ {fl:List (Nat×a7)},(∀q∈fl,base+q.1<h.next)→(fl.map (·.1)).Nodup→∀q∈fl,M q.1=true→(gF base M fl h).get (base+q.1)=some q.2
 |[],_,_,q,hq,_=>by cases hq
 |(i,x)::r,hl,hn,q,hq,hM=>by
  rw[List.map_cons,List.nodup_cons] at hn
  have hr:∀q∈r,base+q.1<h.next:=fun q hm=>hl q (List.mem_cons_of_mem _ hm)
  have h1:=hl (i,x) List.mem_cons_self
  simp only[gF]
  rcases List.mem_cons.1 hq with rfl|hq
  ·rw[hM,aJ,ae.dB _ _ _ _ (by rw[rC];exact h1),if_pos rfl]
  have ih:=He (base:=base) (M:=M) hr hn.2 q hq hM
  cases Ki:M i with
  |false=>simpa using ih
  |true=>
   have cC:base+q.1≠base+i:=fun he=>hn.1 (by
    have:q.1=i:=by omega
    exact List.mem_map.2 ⟨q,hq,this⟩)
   rw[aJ,ae.dB _ _ _ _ (by rw[rC];exact h1),if_neg cC,ih]
def gJ (ms:List Nat)(k:Nat)(cG:List (Nat×Nat)):List (Nat×Nat):=cG.filter fun p=>!bm ms p.1 k
def de (ms:List Nat)(k:Nat)(cG:List (Nat×Nat)):List Nat:=(gJ ms k cG).map (·.2)
def l8 (uF:ah):List Nat→ah→ah
 |[],vh=>vh
 |i::r,vh=>match uF.get i with
  |some x=>(l8 uF r vh).back i x
  |none=>l8 uF r vh
theorem NY (uF:ah):∀(l:List Nat) (vh:ah),(l8 uF l vh).next=vh.next
 |[],_=>rfl
 |i::r,vh=>by
  simp only[l8]
  split
  ·exact NY uF r vh
  exact NY uF r vh
theorem UH (uF:ah):∀(l:List Nat) (vh:ah),(∀i∈l,∃x,uF.get i=some x)→∀j x,(l8 uF l vh).get j=some x→(j∈l∧uF.get j=some x)∨(j∉l∧vh.get j=some x)
 |[],vh,_,j,x,h=>.inr ⟨by simp,h⟩
 |i::r,vh,hl,j,x,h=>by
  obtain⟨y,hy⟩:=hl i List.mem_cons_self
  simp only[l8,hy,ah.uE] at h
  by_cases hj:j=i
  ·subst hj;simp at h;subst h;exact .inl ⟨List.mem_cons_self,hy⟩
  simp[hj] at h
  rcases UH uF r vh (fun k hk=>hl k (List.mem_cons_of_mem _ hk)) j x h with⟨h1,h2⟩|⟨h1,h2⟩
  ·exact .inl ⟨List.mem_cons_of_mem _ h1,h2⟩
  exact .inr ⟨by simp[hj,h1],h2⟩
structure UI (base:Nat) (aL:Sg) (ak:ah) (h':ae) (cG:List (Nat×Nat)) (fl:List (Nat×a7)):Prop where
  ms:cG.map (·.1)=fl.map (·.1)
  nd:(fl.map (·.1)).Nodup
  place:∀p∈cG,(aL p.2).1=base+p.1∧∃x,ak.get p.2=some x∧x.live=true
  free:∀q∈fl,h'.get (base+q.1)=none∧base+q.1<h'.next
def jz (P:Program)(N b:Nat)(ops:Array Oper)(ms W As:List Nat)(K:aW→ah→Prop):List gT→List Nat→List (Nat×Nat)→List Nat→aW→ah→Prop
 |[],_,_,_,ab,vh=>K ab vh
 |.op m::r,todo,cG,Ar,ab,vh=>
  match ops[m]? with
  |none=>False
  |some o=>match ie ops o ab with
   |none=>False
   |some false=>gr N o.dst=true∧jz P N b ops ms W As K r (iB ops todo o.dst) cG Ar (bU ab o.dst (.bp [])) vh
   |some true=>bif W.contains m then p9 P N vh.next ops o todo (fun dV ay aQ=>jz P N b ops ms W As K r dV (gJ ms m cG) Ar ay (l8 vh (de ms m cG) aQ)) ab (gx (de ms m cG) vh)
    else bif Ar.contains m then As.contains m=true∧gr N o.dst=true∧∃v x,ig P ab vh o.op=some (v,x)∧jz P N b ops ms W As K r (iB ops todo o.dst) ((m,vh.next)::cG) (Ar.filter fun k=>!Nat.beq k m) (bU ab o.dst v) (vh.alloc x)
    else As.contains m=false∧tR o.op=true∧gr N o.dst=true∧∃v,dS P ab (gx (de ms m cG) vh) o.op=some (v,gx (de ms m cG) vh)∧
     jz P N b ops ms W As K r (bif xP o&&cG.isEmpty then m::iB ops todo o.dst else iB ops todo o.dst) cG Ar (bU ab o.dst v) vh
 |.ck m::r,todo,cG,Ar,ab,vh=>
  match ops[m]? with
  |none=>False
  |some o=>(todo.contains m=true∨o.dst.isSome=true∧ie ops o ab=some false)∧jz P N b ops ms W As K r todo cG Ar ab vh
section
variable {P:Program} {N b lo:Nat} {ops:Array Oper} {g g':Fz} {σ aL:Sg} {vh ak:ah} {hs h':ae} {base:Nat} {ms W As:List Nat}
theorem UJ {k:Nat}{cG:List (Nat×Nat)}{i:Nat}(h:i∈de ms k cG):∃p∈cG,p.2=i∧bm ms p.1 k=false:=by
 unfold de gJ at h
 obtain⟨p,h1,h2⟩:=List.mem_map.1 h
 obtain⟨h3,h4⟩:=List.mem_filter.1 h1
 exact⟨p,h3,h2,by simpa using h4⟩
theorem UK {k:Nat}{cG:List (Nat×Nat)}{p:Nat×Nat}(h:p∈cG)(hb:bm ms p.1 k=false):p.2∈de ms k cG:=
 List.mem_map.2 ⟨p,List.mem_filter.2 ⟨h,by simp[hb]⟩,rfl⟩
theorem UL {cG:List (Nat×Nat)}{fl:List (Nat×a7)}(hm:cG.map (·.1)=fl.map (·.1)){q:Nat×a7}(hq:q∈fl):∃p∈cG,p.1=q.1:=by
 have:q.1∈cG.map (·.1):=by rw[hm];exact List.mem_map_of_mem hq
 obtain⟨p,h1,h2⟩:=List.mem_map.1 this
 exact⟨p,h1,h2⟩
theorem z7z {cG:List (Nat×Nat)}{fl:List (Nat×a7)}(hm:cG.map (·.1)=fl.map (·.1)){p:Nat×Nat}(hp:p∈cG):∃q∈fl,q.1=p.1:=by
 have:p.1∈fl.map (·.1):=by rw[← hm];exact List.mem_map_of_mem hp
 obtain⟨q,h1,h2⟩:=List.mem_map.1 this
 exact⟨q,h1,h2⟩
theorem UM {cG:List (Nat×Nat)}{fl:List (Nat×a7)}(f:UI base aL ak h' cG fl)(k:Nat)(o:Nat) :
  (gF base (fun i=>bm ms i k) fl h').get o=(gF base (fun _=>true) fl h').get o∨∃i,i∈de ms k cG∧(aL i).1=o:=by
 have hl:∀q∈fl,base+q.1<h'.next:=fun q hq=>(f.free q hq).2
 by_cases hq:∃q∈fl,base+q.1=o
 ·obtain⟨q,hq,rfl⟩:=hq
  obtain⟨p,hp,yr⟩:=UL f.ms hq
  cases hb:bm ms q.1 k with
  |true=>exact .inl (by rw[He (M:=fun i=>bm ms i k) hl f.nd q hq hb,He (M:=fun _=>true) hl f.nd q hq rfl])
  |false=>exact .inr ⟨p.2,UK hp (yr▸hb),by rw[(f.place p hp).1,yr]⟩
 refine .inl ?_
 have h1:∀q∈fl,base+q.1≠o:=fun q hm he=>hq ⟨q,hm,he⟩
 rw[zz hl fun q hm _=>h1 q hm,zz hl fun q hm _=>h1 q hm]
theorem El (hd:∀d∈(ops.toList.filterMap (·.dst)),d<N){K:aW→ah→Prop}(pz:hs.next≤base)(cw:lo≤hs.next):∀(items:List gT) (todo:List Nat) (cG:List (Nat×Nat)) (Ar:List Nat) (ba:aC) (fl:List (Nat×a7)) (h':ae) (g':Fz) (aL:Sg) (aP:aW) (ak:ah),
  dA N b lo g σ vh hs ba (gF base (fun _=>true) fl h') g' aL aP ak→UI base aL ak h' cG fl→(∀j∈Ar,h'.get (base+j)=none∧base+j<h'.next∧j∉fl.map (·.1))→
  (∀m∈todo,sd P lo ops ba h' m)→jz P N b ops ms W As K items todo cG Ar aP ak→xc P lo ops base ms W As (nS N b lo g σ vh hs K) items ba fl h'
 |[],todo,cG,Ar,ba,fl,h',g',aL,aP,ak,a,f,AM,gf,k=>⟨g',aL,aP,ak,a,k⟩
 |.op m::r,todo,cG,Ar,ba,fl,h',g',aL,aP,ak,a,f,AM,gf,k=>by
  simp only[jz] at k
  have hl:∀q∈fl,base+q.1<h'.next:=fun q hq=>(f.free q hq).2
  have wU:h'.sub (gF base (fun i=>bm ms i m) fl h'):=fun o x hx=>by
   rw[zz hl fun q hq _ he=>by have:=(f.free q hq).1;rw[he,hx] at this;cases this];exact hx
  cases ho:ops[m]? with
  |none=>rw[ho] at k;exact k.elim
  |some o=>
   rw[ho] at k
   simp only at k
   refine⟨o,ho,?_⟩
   split at k
   ·exact k.elim
   ·rename_i hw
    rw[AJ (a.len▸hd) a.t hw]
    simp only[bl]
    obtain⟨g1,g2⟩:=ru (Fz.le_refl g') (Nat.le_refl _) (fun _ _=>rfl) a.t o.dst (a.len▸k.1) (.fr _ _ sb)
    refine El hd pz cw r _ cG Ar _ fl h' g' aL _ ak ⟨g1,g2.trans a.len,a.s,a.le,a.agree,a.f,a.base,a.own⟩ f AM (fun m hm=>?_) k.2
    simp only[iB,List.mem_filter] at hm
    exact(gf m hm.1).put _ (fun _ _ hx=>hx) hm.2
   rename_i hw
   rw[AJ (a.len▸hd) a.t hw]
   simp only[aJ]
   have zA:∀i∈de ms m cG,∃x,ak.get i=some x∧x.live=true:=fun i hi=>by
    obtain⟨p,hp,rfl,_⟩:=UJ hi
    exact(f.place p hp).2
   have UN:(gF base (fun i=>bm ms i m) fl h').next=(gF base (fun _=>true) fl h').next:=by rw[rC,rC]
   have D8:∀j x,(gx (de ms m cG) ak).get j=some x→ak.get j=some x∧j∉de ms m cG:=fun j x hx=>let ⟨h1,h2⟩:=se _ _ j x hx;⟨h2,h1⟩
   have sT:VS lo g' aL (gx (de ms m cG) ak) (gF base (fun i=>bm ms i m) fl h'):=a.s.NV UN (xR _ _) D8 fun o=>by
    rcases UM (ms:=ms) f m o with h|⟨i,hi,he⟩
    ·exact .inl h
    obtain⟨x,hx,wS⟩:=zA i hi
    exact .inr ⟨i,x,hi,hx,wS,he⟩
   have tT:VT g' aL (gx (de ms m cG) ak).next aP ba:=by rw[xR];exact a.t
   cases hW:W.contains m with
   |true=>
    rw[hW] at k
    simp only[aJ] at k ⊢
    intro jv dQ
    refine(k lo g' aL _ ba tT a.len sT (by rw[xR];exact Nat.le_refl _) (fun q hq=>?_) jv dQ).mono fun lR h2 ⟨v',e,dV,CM,g2,dp,ay,aQ,c,k2⟩=>⟨v',e,?_⟩
    ·obtain⟨o2,d2,u,h1,c1,c2,c3,c4,c5⟩:=gf q hq
     obtain⟨_,e2⟩:=zS c3 c5
     exact⟨o2,d2,u,_,c1,c2,c3,c4,e2 _ wU⟩
    have CP:∀q∈fl.filter (fun p=>!bm ms p.1 m),q∈fl∧bm ms q.1 m=false:=fun q hq=>by
     obtain⟨h1,h2⟩:=List.mem_filter.1 hq
     exact⟨h1,by simpa using h2⟩
    have NZ:∀i,i<ak.next→dp i=aL i:=c.agree
    have AN:∀q∈fl,bm ms q.1 m=false→h2.get (base+q.1)=none∧base+q.1<h2.next:=fun q hq hb=>by
     have h1:=hl q hq
     have hT:(gF base (fun i=>bm ms i m) fl h').get (base+q.1)=none:=by
      rw[zz hl fun q' bZ hM he=>?_]
      ·exact(f.free q hq).1
      have:q'.1=q.1:=by omega
      rw[this,hb] at hM;cases hM
     refine⟨?_,Nat.lt_of_lt_of_le (by rw[rC];exact h1) c.f.next⟩
     rw[c.f.fe _ (by rw[rC];exact h1) fun i x hx wS he=>?_]
     ·exact hT
     obtain⟨h2,h3⟩:=(sT.obj i x hx)
     have:∃y,(gF base (fun i=>bm ms i m) fl h').get (aL i).1=some y:=by
      cases x with
      |box cs=>obtain⟨s0,ao,q1,_⟩:=h3;exact⟨_,q1⟩
      |arr ag sz cs=>obtain⟨_,s0,ao,q1,_⟩:=h3;exact⟨_,q1⟩
      |map es=>obtain⟨bf,q1,_⟩:=h3;exact⟨_,q1⟩
      |dz es=>obtain⟨bf,q1,_⟩:=h3;exact⟨_,q1⟩
      |bJ es=>obtain⟨_,_,_,s0,ao,q1,_⟩:=h3;exact⟨_,q1⟩
      |emap es=>obtain⟨bf,q1,_⟩:=h3;exact⟨_,q1⟩
      |loop=>obtain⟨L,q1,_⟩:=h3;exact⟨_,q1⟩
      |grow sz es=>
       obtain⟨_,_,_,kF⟩:=h3
       rcases kF with rfl|⟨s0,ao,q1,_⟩
       ·cases wS
       exact⟨_,q1⟩
     obtain⟨y,hy⟩:=this
     rw[he,hT] at hy;cases hy
    have rJ:∀q∈fl.filter (fun p=>!bm ms p.1 m),base+q.1<h2.next:=fun q hq=>(AN q (CP q hq).1 (CP q hq).2).2
    have UO:((fl.filter (fun p=>!bm ms p.1 m)).map (·.1)).Nodup:=f.nd.sublist (List.filter_sublist.map _)
    refine El hd pz cw r dV (gJ ms m cG) Ar _ _ h2 g2 dp ay _ (dA.xcd a UN (xR _ _) D8 zA (UM f m) c (rC _) (fun o=>?_) (NY _ _ _) (UH _ _ _ fun i hi=>let ⟨x,hx,_⟩:=zA i hi;⟨x,hx⟩)) ⟨?_,UO,fun p hp=>?_,fun q hq=>AN q (CP q hq).1 (CP q hq).2⟩ (fun j hj=>?_) CM k2
    ·by_cases hq:∃q∈fl,bm ms q.1 m=false∧base+q.1=o
     ·obtain⟨q,hq,hb,rfl⟩:=hq
      obtain⟨p,hp,yr⟩:=UL f.ms hq
      refine .inl ⟨p.2,UK hp (yr▸hb),by rw[(f.place p hp).1,yr],?_⟩
      rw[He (M:=fun _=>true) hl f.nd q hq rfl,He (M:=fun _=>true) rJ UO q (List.mem_filter.2 ⟨hq,by simp[hb]⟩) rfl]
     refine .inr ⟨fun i hi he=>?_,?_⟩
     ·obtain⟨p,hp,rfl,hb⟩:=UJ hi
      obtain⟨q,bZ,UP⟩:=z7z f.ms hp
      exact hq ⟨q,bZ,by rw[UP];exact hb,by rw[UP,← he,(f.place p hp).1]⟩
     exact zz rJ fun q UQ _ he=>hq ⟨q,(CP q UQ).1,(CP q UQ).2,he⟩
    ·have:∀(l:List (Nat×Nat)) (l2:List (Nat×a7)),l.map (·.1)=l2.map (·.1)→(l.filter fun p=>!bm ms p.1 m).map (·.1)=(l2.filter fun p=>!bm ms p.1 m).map (·.1):=by
      intro l
      induction l with
      |nil=>intro l2 h;cases l2 with|nil=>rfl|cons=>simp at h
      |cons p l ih=>
       intro l2 h
       cases l2 with
       |nil=>simp at h
       |cons q l2=>
        simp only[List.map_cons,List.cons.injEq] at h
        simp only[List.filter_cons,h.1]
        cases bm ms q.1 m<;>simp[ih l2 h.2,h.1]
     exact this cG fl f.ms
    ·obtain⟨h1,Ew⟩:=List.mem_filter.1 hp
     obtain⟨e1,x,e2,e3⟩:=f.place p h1
     have ll:p.2∈de ms m cG:=List.mem_map.2 ⟨p,hp,rfl⟩
     refine⟨by rw[NZ _ (a.s.obj p.2 x e2).1];exact e1,x,?_,e3⟩
     have:∀(l:List Nat),p.2∈l→(∀i∈l,∃x,ak.get i=some x)→(l8 ak l aQ).get p.2=some x:=by
      intro l
      induction l with
      |nil=>intro h;cases h
      |cons i l ih=>
       intro hm hex
       obtain⟨y,hy⟩:=hex i List.mem_cons_self
       simp only[l8,hy,ah.uE]
       by_cases Ej:p.2=i
       ·subst Ej;rw[e2] at hy;injection hy with hy;simp[hy]
       simp only[Ej,if_false]
       exact ih (by rcases List.mem_cons.1 hm with h|h;exact absurd h Ej;exact h) fun k hk=>hex k (List.mem_cons_of_mem _ hk)
     exact this _ ll fun i hi=>let ⟨x,hx,_⟩:=zA i hi;⟨x,hx⟩
    obtain⟨h1,h3,h4⟩:=AM j hj
    have hT:(gF base (fun i=>bm ms i m) fl h').get (base+j)=none:=by
     rw[zz hl fun q' bZ hM he=>?_]
     ·exact h1
     exact h4 (List.mem_map.2 ⟨q',bZ,by omega⟩)
    refine⟨?_,Nat.lt_of_lt_of_le (by rw[rC];exact h3) c.f.next,fun hm=>h4 ?_⟩
    ·rw[c.f.fe _ (by rw[rC];exact h3) fun i x hx wS he=>?_]
     ·exact hT
     obtain⟨h5,h6⟩:=(sT.obj i x hx)
     have:∃y,(gF base (fun i=>bm ms i m) fl h').get (aL i).1=some y:=by
      cases x with
      |box cs=>obtain⟨s0,ao,q1,_⟩:=h6;exact⟨_,q1⟩
      |arr ag sz cs=>obtain⟨_,s0,ao,q1,_⟩:=h6;exact⟨_,q1⟩
      |map es=>obtain⟨bf,q1,_⟩:=h6;exact⟨_,q1⟩
      |dz es=>obtain⟨bf,q1,_⟩:=h6;exact⟨_,q1⟩
      |bJ es=>obtain⟨_,_,_,s0,ao,q1,_⟩:=h6;exact⟨_,q1⟩
      |emap es=>obtain⟨bf,q1,_⟩:=h6;exact⟨_,q1⟩
      |loop=>obtain⟨L,q1,_⟩:=h6;exact⟨_,q1⟩
      |grow sz es=>
       obtain⟨_,_,_,kF⟩:=h6
       rcases kF with rfl|⟨s0,ao,q1,_⟩
       ·cases wS
       exact⟨_,q1⟩
     obtain⟨y,hy⟩:=this
     rw[he,hT] at hy;cases hy
    obtain⟨q,hq,rfl⟩:=List.mem_map.1 hm
    exact List.mem_map_of_mem (CP q hq).1
   |false=>
    rw[hW] at k
    simp only[bl] at k ⊢
    cases hA:Ar.contains m with
    |true=>
     rw[hA] at k
     simp only[aJ] at k
     obtain⟨kA,qU,v,x,hv,k2⟩:=k
     rw[kA]
     simp only[aJ]
     have hmA:m∈Ar:=by simpa using hA
     obtain⟨r1,r2,r3⟩:=AM m hmA
     obtain⟨v',y,e1,e2,e3⟩:=z3w a.t hv (base+m)
     refine⟨v',y,e1,?_⟩
     have cp:∀i,i<ak.next→(aL.put ak.next (base+m,0,0)) i=aL i:=fun i hi=>Sg.xg _ _ (by omega)
     have eU:∀o,(gF base (fun _=>true) ((m,y)::fl) h').get o=if o=base+m then some y else (gF base (fun _=>true) fl h').get o:=fun o=>by
      show ((gF base (fun _=>true) fl h').put (base+m) (some y)).get o=_
      rw[ae.dB _ _ _ _ (by rw[rC];exact r2)]
     have N1:(gF base (fun _=>true) fl h').get (base+m)=none:=by
      rw[zz hl fun q hq _ he=>r3 (List.mem_map.2 ⟨q,hq,by omega⟩)];exact r1
     obtain⟨e4,e5⟩:=e3 (aL.put ak.next (base+m,0,0)) (gF base (fun _=>true) ((m,y)::fl) h') (Sg.ct _ _ _) cp (by rw[eU];simp)
     have fU:∀i z,ak.get i=some z→z.live=true→(aL i).1≠base+m:=fun i z hz bT he=>by
      obtain⟨h5,h6⟩:=a.s.obj i z hz
      have:∃y,(gF base (fun _=>true) fl h').get (aL i).1=some y:=by
       cases z with
       |box cs=>obtain⟨s0,ao,q1,_⟩:=h6;exact⟨_,q1⟩
       |arr ag sz cs=>obtain⟨_,s0,ao,q1,_⟩:=h6;exact⟨_,q1⟩
       |map es=>obtain⟨bf,q1,_⟩:=h6;exact⟨_,q1⟩
       |dz es=>obtain⟨bf,q1,_⟩:=h6;exact⟨_,q1⟩
       |bJ es=>obtain⟨_,_,_,s0,ao,q1,_⟩:=h6;exact⟨_,q1⟩
       |emap es=>obtain⟨bf,q1,_⟩:=h6;exact⟨_,q1⟩
       |loop=>obtain⟨L,q1,_⟩:=h6;exact⟨_,q1⟩
       |grow sz es=>
        obtain⟨_,_,_,kF⟩:=h6
        rcases kF with rfl|⟨s0,ao,q1,_⟩
        ·cases bT
        exact⟨_,q1⟩
      obtain⟨u,hu⟩:=this
      rw[he,N1] at hu;cases hu
     have split:∀i z,(ak.alloc x).get i=some z→(i=ak.next∧z=x)∨(i<ak.next∧ak.get i=some z):=fun i z hz=>by
      rw[ah.gX] at hz
      by_cases hi:i=ak.next
      ·subst hi;simp at hz;exact .inl ⟨rfl,hz.symm⟩
      simp[hi] at hz;exact .inr ⟨(a.s.obj i z hz).1,hz⟩
     obtain⟨g1,g2⟩:=ru (Fz.le_refl g') (Nat.le_succ ak.next) cp a.t o.dst (a.len▸qU) e4
     refine El hd pz cw r _ _ _ _ ((m,y)::fl) h' g' _ _ (ak.alloc x) ⟨g1,g2.trans a.len,⟨fun i z hz=>?_,fun i j z u hz hu bT rq he=>?_,fun i z hz bT=>?_,fun o z hz=>?_,fun i z hz bT=>?_,?_⟩,a.le,fun i hi=>(cp i (Nat.lt_of_lt_of_le hi a.base)).trans (a.agree i hi),
      ⟨?_,fun o ho N3=>?_,fun i z hz bT aU=>?_⟩,Nat.le_trans a.base (Nat.le_succ _),a.own⟩ ⟨by simp[f.ms],by rw[List.map_cons,List.nodup_cons];exact⟨r3,f.nd⟩,fun p hp=>?_,fun q hq=>?_⟩ (fun j hj=>?_) (fun q hq=>?_) k2
     ·rcases split i z hz with⟨rfl,rfl⟩|⟨hi,hz⟩
      ·exact⟨Nat.lt_succ_self _,e5⟩
      refine⟨Nat.lt_succ_of_lt hi,(a.s.obj i z hz).2.mono (Fz.le_refl g') (Nat.le_succ _) cp hi fun bT=>?_⟩
      rw[eU,if_neg (fU i z hz bT)]
     ·rcases split i z hz with⟨hi,_⟩|⟨hi,hz⟩<;>rcases split j u hu with⟨hj,_⟩|⟨hj,hu⟩
      ·rw[hi,hj]
      ·rw[hi,Sg.ct,cp j hj] at he;exact absurd he.symm (fU j u hu rq)
      ·rw[hj,Sg.ct,cp i hi] at he;exact absurd he (fU i z hz bT)
      rw[cp i hi,cp j hj] at he;exact a.s.inj i j z u hz hu bT rq he
     ·rcases split i z hz with⟨rfl,rfl⟩|⟨hi,hz⟩
      ·rw[Sg.ct];show lo≤base+m;omega
      rw[cp i hi];exact a.s.low i z hz bT
     ·rw[eU,if_neg (by rintro rfl;have:=a.s.fz _ z hz;rw[N1] at this;cases this)];exact a.s.fz o z hz
     ·rcases split i z hz with⟨rfl,rfl⟩|⟨hi,hz⟩
      ·rw[Sg.ct]
       cases hg:g' (base+m) with
       |none=>rfl
       |some w=>have:=a.s.fz _ w hg;rw[N1] at this;cases this
      rw[cp i hi];exact a.s.iG i z hz bT
     ·have:=a.s.bA;rw[rC] at this ⊢;exact this
     ·have:=a.f.next;rw[rC] at this ⊢;exact this
     ·rw[eU,if_neg (by omega)];exact a.f.fe o ho N3
     ·rcases split i z hz with⟨rfl,rfl⟩|⟨hi,hz⟩
      ·rw[Sg.ct] at aU;simp only at aU;omega
      rw[cp i hi] at aU ⊢;exact a.f.own i z hz bT aU
     ·rcases List.mem_cons.1 hp with rfl|hp
      ·exact⟨by rw[Sg.ct],x,by rw[ah.gX];simp,e2⟩
      obtain⟨q1,z,q2,q3⟩:=f.place p hp
      have hi:=(a.s.obj p.2 z q2).1
      exact⟨by rw[cp _ hi];exact q1,z,by rw[ah.gX,if_neg (by omega)];exact q2,q3⟩
     ·rcases List.mem_cons.1 hq with rfl|hq
      ·exact⟨r1,r2⟩
      exact f.free q hq
     ·obtain⟨h1,h2⟩:=List.mem_filter.1 hj
      have HS:j≠m:=by simpa[beq_eq] using h2
      obtain⟨s1,s2,s3⟩:=AM j h1
      exact⟨s1,s2,by simp only[List.map_cons,List.mem_cons,not_or];exact⟨HS,s3⟩⟩
     simp only[iB,List.mem_filter] at hq
     exact(gf q hq.1).put _ (fun _ _ hx=>hx) hq.2
    |false=>
     rw[hA] at k
     simp only[bl] at k
     obtain⟨kA,hr,qU,v,hv,k2⟩:=k
     rw[kA]
     simp only[bl]
     obtain⟨v',h1,e1,dp,e2,e3,e4,e5,e6⟩:=CG (lo:=lo) sT tT hv
     obtain⟨e7,_⟩:=zS hr e1
     subst e7
     rw[xR] at e6 e2
     have e2':VR g' aL ak.next v v':=e2.mono (Fz.le_refl g') (Nat.le_refl _) fun i hi=>(e6 i hi).symm
     obtain⟨g1,g2⟩:=ru (Fz.le_refl g') (Nat.le_refl _) (fun _ _=>rfl) a.t o.dst (a.len▸qU) e2'
     refine⟨v',_,e1,El hd pz cw r _ cG Ar _ fl h' g' aL _ ak ⟨g1,g2.trans a.len,a.s,a.le,a.agree,a.f,a.base,a.own⟩ f AM (fun m' hm=>?_) k2⟩
     have fR:m'∈iB ops todo o.dst→sd P lo ops (bw ba o.dst v') h' m':=fun hm=>by
      simp only[iB,List.mem_filter] at hm
      exact(gf m' hm.1).put _ (fun _ _ hx=>hx) hm.2
     cases ox:(xP o&&cG.isEmpty) with
     |false=>rw[ox] at hm;exact fR hm
     |true=>
      rw[ox] at hm
      simp only[aJ,List.mem_cons] at hm
      rcases hm with rfl|hm
      ·rw[bR] at ox
       obtain⟨ox,hem⟩:=ox
       have SP:cG=[]:=by simpa using hem
       have jN:fl=[]:=by have:=f.ms;rw[SP] at this;simpa using this.symm
       subst jN
       unfold xP at ox
       cases pw:o.dst with
       |none=>rw[pw] at ox;cases ox
       |some d=>
        rw[pw] at ox
        have aU:d<ba.length:=by
         have:=a.len▸qU
         rw[pw] at this
         simpa[gr] using this
        have:=sd.new (P:=P) (lo:=lo) ho pw aU hr e1 ox
        rwa [pw] at this
      exact fR hm
 |.ck m::r,todo,cG,Ar,ba,fl,h',g',aL,aP,ak,a,f,AM,gf,k=>by
  simp only[jz] at k
  have hl:∀q∈fl,base+q.1<h'.next:=fun q hq=>(f.free q hq).2
  have wU:h'.sub (gF base (fun i=>bm ms i m) fl h'):=fun o x hx=>by
   rw[zz hl fun q hq _ he=>by have:=(f.free q hq).1;rw[he,hx] at this;cases this];exact hx
  cases ho:ops[m]? with
  |none=>rw[ho] at k;exact k.elim
  |some o=>
   rw[ho] at k
   simp only at k
   obtain⟨k1,k2⟩:=k
   have rest:=El hd pz cw r _ cG Ar ba fl h' g' aL aP ak a f AM gf k2
   rcases k1 with k1|⟨k1,hw⟩
   ·have hm:m∈todo:=by simpa using k1
    obtain⟨o',d,v,h1,c1,c2,c3,c4,c5⟩:=gf m hm
    rw[ho] at c1;injection c1 with c1;subst c1
    obtain⟨_,e2⟩:=zS c3 c5
    exact⟨o,d,ho,c2,fun _=>⟨v,_,c4,e2 _ wU⟩,rest⟩
   cases pw:o.dst with
   |none=>rw[pw] at k1;cases k1
   |some d=>exact⟨o,d,ho,pw,fun mV=>(by rw[AJ (a.len▸hd) a.t hw] at mV;cases mV),rest⟩
theorem VW.rX {id:Nat}{Q:gV}{ab:aW}{vh:ah}{ms W As:List Nat}{items:List gT}(hm:P.follows .mixedOrders=true)(dw:EU ops ms W As=true)(kE:zZ As=true)(hc:xd ops ms W As [] W [] items=true)(hd:xO N ops=true)
  (UR:As.all (Nat.blt · (lr As ops.size))=true)
  (hs:jz P N b ops ms W As (Q .normal) items [] [] As ab vh):VW P N b (.region id ops true) Q ab vh:=fun lo g σ h ts ht hn s hb=>by
 refine .sched hm dw kE hc ?_
 have hg:=ae.uX (lr As ops.size) h
 have mS:=ae.Bj (lr As ops.size) h
 have s2:VS lo g σ vh (ae.mR (lr As ops.size) h):=⟨fun i x hx=>let ⟨k1,k2⟩:=s.obj i x hx;⟨k1,k2.mono (Fz.le_refl g) (Nat.le_refl _) (fun _ _=>rfl) k1 fun _=>hg _⟩,s.inj,s.low,fun o x hx=>by rw[hg];exact s.fz o x hx,s.iG,by rw[mS];have:=s.bA;omega⟩
 refine El (base:=h.next) (NK hd) (Nat.le_refl _) s.bA items [] [] As ts [] _ g σ ab vh ⟨ht,hn,s2,Fz.le_refl g,fun _ _=>rfl,⟨by rw[rC,mS];omega,fun o _ _=>hg o,fun i x hx hl _=>⟨i,x,hx,hl,rfl⟩⟩,hb,dK.refl _ _ _ _⟩
  ⟨rfl,List.nodup_nil,fun p hp=>(by cases hp),fun q hq=>(by cases hq)⟩ (fun j hj=>?_) (fun m hm=>(by cases hm)) hs
 rw[List.all_eq_true] at UR
 have aU:j<lr As ops.size:=by simpa using UR j hj
 refine⟨?_,by rw[mS];omega,by simp⟩
 rw[hg]
 cases hq:h.get (h.next+j) with
 |none=>rfl
 |some x=>have:=ae.fC hq;omega
variable {ab:aW} {todo:List Nat} {cG:List (Nat×Nat)} {Ar:List Nat} {K:aW→ah→Prop} {m:Nat} {r:List gT} {o:Oper}
theorem jz.rd {v:PV}(ho:ops[m]?=some o)(hw:ie ops o ab=some true)(hW:W.contains m=false)(hA:Ar.contains m=false)(BZ:As.contains m=false)(hr:tR o.op=true)(hd:gr N o.dst=true)
  (hv:dS P ab (gx (de ms m cG) vh) o.op=some (v,gx (de ms m cG) vh)) (hk:jz P N b ops ms W As K r (bif xP o&&cG.isEmpty then m::iB ops todo o.dst else iB ops todo o.dst) cG Ar (bU ab o.dst v) vh) :
  jz P N b ops ms W As K (.op m::r) todo cG Ar ab vh:=by
 simp only[jz,ho,hw,hW,hA,bl]
 exact⟨BZ,hr,hd,v,hv,hk⟩
theorem jz.al {v:PV}{x:aI}(ho:ops[m]?=some o)(hw:ie ops o ab=some true)(hW:W.contains m=false)(hA:Ar.contains m=true)(BZ:As.contains m=true)(hd:gr N o.dst=true)
  (hv:ig P ab vh o.op=some (v,x)) (hk:jz P N b ops ms W As K r (iB ops todo o.dst) ((m,vh.next)::cG) (Ar.filter fun k=>!Nat.beq k m) (bU ab o.dst v) (vh.alloc x)) :
  jz P N b ops ms W As K (.op m::r) todo cG Ar ab vh:=by
 simp only[jz,ho,hw,hW,hA,bl,aJ]
 exact⟨BZ,hd,v,x,hv,hk⟩
theorem jz.wr (ho:ops[m]?=some o)(hw:ie ops o ab=some true)(hW:W.contains m=true)
  (hs:p9 P N vh.next ops o todo (fun dV ay aQ=>jz P N b ops ms W As K r dV (gJ ms m cG) Ar ay (l8 vh (de ms m cG) aQ)) ab (gx (de ms m cG) vh)) :
  jz P N b ops ms W As K (.op m::r) todo cG Ar ab vh:=by
 simp only[jz,ho,hw,hW,aJ]
 exact hs
theorem jz.ck (ho:ops[m]?=some o)(hc:todo.contains m=true)(hk:jz P N b ops ms W As K r todo cG Ar ab vh):jz P N b ops ms W As K (.ck m::r) todo cG Ar ab vh:=by
 simp only[jz,ho]
 exact⟨.inl hc,hk⟩
theorem jz.done (hk:K ab vh):jz P N b ops ms W As K [] todo cG Ar ab vh:=hk
end
theorem Alt.ofEq {vh:ah}{n2:Nat}{D:Nat→Bool}{ρ:Nat→Nat}{v v2:PV}(hf:v.aB=true)(h:v=v2):Alt vh n2 D ρ v v2:=h▸.same v hf
theorem Alt.xF {vh:ah}{n2:Nat}{D:Nat→Bool}{ρ:Nat→Nat}{v2:PV}(h:v2=.vec []):Alt vh n2 D ρ .aF v2:=h▸.dJ
theorem Alt.mD {vh:ah}{n2:Nat}{D:Nat→Bool}{ρ:Nat→Nat}(j n:Nat)(nl:Bool)(hn:n=0):Alt vh n2 D ρ .aF (.grow j n nl):=hn▸.aF j nl
section
variable {P:Program} {N b:Nat} {ab:aW} {vh:ah}
theorem kx.F5 {o:Oper}{t ek:TypeId}{x y:Operand}{next:aW→ah→Prop}(ho:∃pos,o.op=.binOp .eql t x y pos)(ht:P.underlying t=some (.slice ek))(hx:cF ab x=some (.vec []))(hy:cF ab y=some .aF)(hd:gr N o.dst=true)
  (hn:∀q:Bool,next (bU ab o.dst (.bool q)) vh):kx P N b o next ab vh:=fun lo g σ h ts nt hl s hb=>by
 obtain⟨pos,ho⟩:=ho
 obtain⟨x',k1,k2⟩:=eh nt hx
 obtain⟨y',k3,k4⟩:=eh nt hy
 have:=k4.aB rfl;cases this
 have hq:∃q:Bool,dx P t x' (.slice none 0 0)=some q:=by
  have:=k2.aB rfl
  cases this with
  |fc=>exact⟨true,by simp[dx,ht]⟩
  |da=>exact⟨false,by simp[dx,ht]⟩
  |vec _ o off k s0 sz ao=>exact⟨false,by simp[dx,ht]⟩
 obtain⟨q,hq⟩:=hq
 obtain⟨e1,_⟩:=KB (P:=P) hq (fun k x k' y hh=>by have:=hh.2;cases this) (fun x y hh=>by have:=hh.2;cases this)
 obtain⟨g1,g2⟩:=ru (Fz.le_refl g) (Nat.le_refl _) (fun _ _=>rfl) nt o.dst (hl▸hd) (.fr _ _ (.bool q):VR g σ vh.next (.bool q) (.bool q))
 refine .op (v:=.bool q) (h':=h) (by rw[ho];simp only[cn,k1,k3,e1,Option.map_some]) ?_
 exact⟨g,σ,_,vh,⟨g1,g2.trans hl,s,Fz.le_refl g,fun _ _=>rfl,VF.refl _ _ _,hb,dK.refl _ _ _ _⟩,hn q⟩
theorem cR.fresh {f:FuncId}{args es:List PV}{sz:Nat}(hp:cR P f args ah.empty fun v ak=>∃i nl,v=.grow i es.length nl∧ak.get i=some (.grow sz es))(hf:PV.aG args=true)(cC:0<es.length) :
  cR P f args vh fun v ak=>v=.grow vh.next es.length false∧ak=vh.alloc (.grow sz es):=fun lo g σ h au ha s=>by
 have uD:bc (VR g σ ah.empty.next) args au:=(ha.aB hf).vr
 refine(hp lo g σ h au uD (.none s.fz s.bA σ)).mono fun r h' ⟨g',aL,v,ak,h1,h2,h3,h4,h5,h6,h7,i,nl,h8,h9⟩=>?_
 subst h8
 have cA:∀o,o<h.next→h'.get o=h.get o:=fun o ho=>h5.fe o ho fun i x hx=>by cases hx
 have fm:aI.live (.grow sz es)=true:=by
  cases es with
  |nil=>simp at cC
  |cons=>rfl
 obtain⟨hi,oS⟩:=h2.obj i _ h9
 have US:h.next≤(aL i).1:=by
  rcases Nat.lt_or_ge (aL i).1 h.next with aU|US
  ·obtain⟨j,y,hj,_⟩:=h5.own i _ h9 fm aU
   cases hj
  exact US
 have hg:∀o x,g' o=some x→o<h.next→∃y,g o=some y:=fun o x hx ho=>by
  rcases h7 o x hx ho with h|⟨i,y,h,_⟩
  ·exact⟨_,h⟩
  cases h
 have cp:∀j,j<vh.next→(σ.put vh.next (aL i)) j=σ j:=fun j hj=>Sg.xg _ _ (by omega)
 have split:∀j z,(vh.alloc (.grow sz es)).get j=some z→(j=vh.next∧z=.grow sz es)∨(j<vh.next∧vh.get j=some z):=fun j z hz=>by
  rw[ah.gX] at hz
  by_cases hj:j=vh.next
  ·subst hj;simp at hz;exact .inl ⟨rfl,hz.symm⟩
  simp[hj] at hz;exact .inr ⟨(s.obj j z hz).1,hz⟩
 refine⟨g',σ.put vh.next (aL i),.grow vh.next es.length false,vh.alloc (.grow sz es),?_,⟨fun j z hz=>?_,fun j k z u hz hu bT rq he=>?_,fun j z hz bT=>?_,h2.fz,fun j z hz bT=>?_,h2.bA⟩,h3,cp,⟨h5.next,fun o ho _=>cA o ho,fun j z hz bT aU=>?_⟩,Nat.le_succ _,fun o x hx ho=>.inl (h7 o x hx ho |>.elim id fun⟨i,y,h,_⟩=>by cases h),rfl,rfl⟩
 ·generalize hm:es.length=m at h1 cC ⊢
  cases h1 with
  |fr _ _ h=>cases h
  |bW=>omega
  |bX=>omega
  |grow _ _ o a k _ dD hs hn=>exact .grow vh.next m o a k false (Nat.lt_succ_self _) (by rw[Sg.ct];exact hs) hn
 ·rcases split j z hz with⟨rfl,rfl⟩|⟨hj,hz⟩
  ·refine⟨Nat.lt_succ_self _,?_⟩
   obtain⟨q0,q1,q2,q3⟩:=oS
   refine⟨q0,q1,q2,q3.imp_right fun⟨s0,ao,k1,k2,k3,k4⟩=>⟨s0,ao,by rw[Sg.ct];exact k1,by rw[Sg.ct];exact k2,k3,by rw[Sg.ct];exact k4⟩⟩
  obtain⟨k1,k2⟩:=s.obj j z hz
  exact⟨Nat.lt_succ_of_lt hj,k2.mono h3 (Nat.le_succ _) cp hj fun bT=>cA _ (k2.lt bT)⟩
 ·rcases split j z hz with⟨hj,_⟩|⟨hj,hz⟩<;>rcases split k u hu with⟨hk,_⟩|⟨hk,hu⟩
  ·rw[hj,hk]
  ·rw[hj,Sg.ct,cp k hk] at he
   have:=(s.obj k u hu).2.lt rq;omega
  ·rw[hk,Sg.ct,cp j hj] at he
   have:=(s.obj j z hz).2.lt bT;omega
  rw[cp j hj,cp k hk] at he;exact s.inj j k z u hz hu bT rq he
 ·rcases split j z hz with⟨rfl,rfl⟩|⟨hj,hz⟩
  ·rw[Sg.ct];exact h2.low i _ h9 fm
  rw[cp j hj];exact s.low j z hz bT
 ·rcases split j z hz with⟨rfl,rfl⟩|⟨hj,hz⟩
  ·rw[Sg.ct];exact h2.iG i _ h9 fm
  rw[cp j hj]
  have hd:=s.iG j z hz bT
  have aU:=(s.obj j z hz).2.lt bT
  cases lZ:g' (σ j).1 with
  |none=>rfl
  |some y=>
   obtain⟨w,hw⟩:=hg _ y lZ aU
   rw[hd] at hw;cases hw
 rcases split j z hz with⟨rfl,rfl⟩|⟨hj,hz⟩
 ·rw[Sg.ct] at aU;omega
 rw[cp j hj] at aU ⊢;exact⟨j,z,hz,bT,rfl⟩
theorem cR.vN {f:FuncId}{args es:List PV}{sz n:Nat}(hn:es.length=n)(hp:cR P f args ah.empty fun v ak=>∃i nl,v=.grow i n nl∧ak.get i=some (.grow sz es))(hf:PV.aG args=true)(cC:0<n) :
  cR P f args vh fun v ak=>v=.grow vh.next n false∧ak=vh.alloc (.grow sz es):=by
 subst hn;exact cR.fresh hp hf cC
theorem cR.Ni {f:FuncId}{args AO:List PV}{R:PV→Prop}{i:Nat}{x x0:aI}(hi:vh.get i=some x)(hl:x.live=true)(hx:kf vh 1 (fun _=>false) (fun _=>i) x x0)
  (ha:aA vh 1 (fun _=>false) (fun _=>i) args AO) (hp:cR P f AO ⟨1,[(0,x0)]⟩ fun v _=>v.aB=true∧R v):cR P f args vh fun v ak=>ak=vh.drop i∧R v:=fun lo g σ h au fH s=>by
 have CQ:∀j y,ah.get ⟨1,[(0,x0)]⟩ j=some y→j=0∧y=x0:=fun j y hy=>by
  simp only[ah.get,bh,beq_eq] at hy
  by_cases hj:j=0
  ·subst hj;simp at hy;exact⟨rfl,hy.symm⟩
  simp[hj] at hy
 have a:tA 0 (fun _=>false) (fun _=>i) [] vh [] ⟨1,[(0,x0)]⟩:=⟨fun t v2 hv=>by simp[bS] at hv,fun j y hy=>by
  obtain⟨rfl,rfl⟩:=CQ j y hy
  exact⟨Nat.lt_succ_self 0,.inr ⟨rfl,x,hi,hx⟩⟩,fun j k y z hy hz _ _ _=>by rw[(CQ j y hy).1,(CQ k z hz).1],fun j hj=>absurd hj (Nat.not_lt_zero j),Nat.zero_le _⟩
 have sr:=a.Ja (N:=0) (ts:=[]) (lo:=lo) (g:=g) (σ:=σ) (h:=h) (fun t v hv=>by simp[bS] at hv) rfl s
 have wQ:g.more σ vh h (fun _=>false)=g:=funext fun o=>by
  unfold Fz.more
  rw[if_neg]
  rintro⟨_,_,h,_⟩;cases h
 have uD:=aA.ok s ha fH
 have s0:=sr.s
 rw[wQ] at uD s0
 refine(hp lo g (fun _=>σ i) h au uD s0).mono fun r h' ⟨g',aL,v,ak,h1,h2,h3,h4,h5,h6,h7,h8,h9⟩=>?_
 have cA:∀o,o<h.next→o≠(σ i).1→h'.get o=h.get o:=fun o ho cC=>h5.fe o ho fun j y hy _ he=>cC he.symm
 have cC:∀j y,(vh.drop i).get j=some y→y.live=true→(σ j).1≠(σ i).1:=fun j y hy fg he=>by
  obtain⟨k1,k2⟩:=gH hy
  exact k1 (s.inj j i y x k2 hi fg hl he)
 refine⟨g',σ,v,vh.drop i,.fr _ _ (h1.aB h8),⟨fun j y hy=>?_,fun j k y z hy hz=>s.inj j k y z (gH hy).2 (gH hz).2,fun j y hy=>s.low j y (gH hy).2,h2.fz,fun j y hy fg=>?_,h2.bA⟩,h3,fun _ _=>rfl,⟨h5.next,fun o ho hn=>cA o ho fun he=>hn i x hi hl he.symm,fun j y hy fg _=>⟨j,y,(gH hy).2,fg,rfl⟩⟩,Nat.le_refl _,fun o z hz ho=>?_,rfl,h9⟩
 ·obtain⟨k1,k2⟩:=s.obj j y (gH hy).2
  exact⟨k1,k2.mono h3 (Nat.le_refl _) (fun _ _=>rfl) k1 fun fg=>cA _ (k2.lt fg) (cC j y hy fg)⟩
 ·have AF:=(gH hy).2
  have hd:=s.iG j y AF fg
  have aU:=(s.obj j y AF).2.lt fg
  cases lZ:g' (σ j).1 with
  |none=>rfl
  |some z=>
   rcases h7 _ z lZ aU with qY|⟨k,u,_,_,k3⟩
   ·rw[hd] at qY;cases qY
   exact absurd k3.symm (cC j y hy fg)
 rcases h7 o z hz ho with qY|⟨k,u,_,_,k3⟩
 ·exact .inl qY
 exact .inr ⟨i,x,hi,hl,k3⟩
theorem cR.zza {f:FuncId}{fn:Func}{c:Code}{args:List PV}{R:PV→Prop}(hf:P.funcs[f]?=some fn)(hb:fn.body=some c)(hn:Nat.ble args.length fn.ntmps=true)
  (hc:VW P fn.ntmps vh.next c (jc P fn R) (l9 0 args) vh):cR P f args vh fun v _=>v.aB=true∧R v:=by
 have h1:cR P f args vh fun v ak=>∃v2,bz ak v=some v2∧R v2:=by
  refine .bV hf hb hn (hc.mono fun e ab vh hq=>?_)
  cases e with
  |normal=>obtain⟨l,v,h1,h2,h3⟩:=hq;exact⟨l,h1,v,h2,h3⟩
  |ret=>obtain⟨l,v,h1,h2,h3⟩:=hq;exact⟨l,h1,v,h2,h3⟩
  |exit id=>exact hq.elim
  |goto l=>exact hq.elim
  |panic ch=>exact hq.elim
  |outgrown=>exact hq.elim
 intro lo g σ h au ha s
 refine(h1 lo g σ h au ha s).mono fun r h' ⟨g',aL,v,ak,k1,k2,k3,k4,k5,k6,k7,v2,k8,k9⟩=>?_
 have NQ:=(NO ak v v2 k8).ok k2 r k1
 have hF:v2.aB=true:=NP ak v v2 k8
 exact⟨_,aL,v2,⟨ak.next,[]⟩,.fr _ _ (NQ.aB hF),⟨fun i x hx=>(by cases hx),fun i j x y hx=>(by cases hx),fun i x hx=>(by cases hx),Ef (D:=fun _=>true) k2,fun i x hx=>(by cases hx),k2.bA⟩,Fz.le_trans k3 (sc k2),k4,⟨k5.next,k5.fe,fun i x hx=>(by cases hx)⟩,k6,k7.trans k5 G3,hF,k9⟩
def Hf (P:Program)(ab:aW)(aQ:ah)(ops:Array Oper)(todo:List Nat):List Nat→Prop
 |[]=>True
 |m::r=>(todo.contains m=true∧∃om u,ops[m]?=some om∧dS P ab aQ om.op=some (u,aQ))∧Hf P ab aQ ops todo r
theorem Hf.mem {ab:aW}{aQ:ah}{ops:Array Oper}{todo:List Nat}:∀ {l:List Nat},Hf P ab aQ ops todo l→∀m∈l,m∈todo∧∃om u,ops[m]?=some om∧dS P ab aQ om.op=some (u,aQ)
 |[],_,m,hm=>by cases hm
 |k::r,h,m,hm=>by
  rcases List.mem_cons.1 hm with rfl|hm
  ·exact⟨by simpa using h.1.1,h.1.2⟩
  exact Hf.mem h.2 m hm
end
theorem VW.join {P:Program}{N b:Nat}{Q:gV}{ab:aW}{vh:ah}{x y:Code}{S:Type}(st:S→aW×ah)(I:S→Prop)
  (hx:VW P N b x (zt (fun aP ak=>∃s',I s'∧Rec b aP ak (st s').1 (st s').2) Q) ab vh) (hy:∀s,I s→VW P N b y Q (st s).1 (st s).2):VW P N b (.seq x y) Q ab vh:=
 .seq (hx.mono fun e ab vh hq=>by
  cases e with
  |normal=>obtain⟨s',k1,k2⟩:=hq;exact .rec k2 (hy s' k1)
  |exit id=>exact hq
  |goto l=>exact hq
  |ret=>exact hq
  |panic ch=>exact hq
  |outgrown=>exact hq)
theorem MG {sz:Nat}:∀ {es:List PV} {q:Nat} {e:PV},(∀e∈es,e.cells.length=sz)→es[q]?=some e→((es.flatMap PV.cells).drop (q*sz)).take sz=e.cells∧q*sz+sz≤(es.flatMap PV.cells).length
 |[],q,e,_,h=>by simp at h
 |a::r,0,e,hs,h=>by
  simp at h;subst h
  have:=hs a List.mem_cons_self
  rw[Nat.zero_mul,List.drop_zero,List.flatMap_cons,List.take_append_of_le_length (by omega),← this,List.take_length]
  exact⟨rfl,by rw[List.length_append];omega⟩
 |a::r,q+1,e,hs,h=>by
  have h1:=hs a List.mem_cons_self
  obtain⟨h2,h3⟩:=MG (es:=r) (q:=q) (fun x hx=>hs x (List.mem_cons_of_mem _ hx)) (by simpa using h)
  rw[List.flatMap_cons,Nat.succ_mul,show q*sz+sz=a.cells.length+q*sz by omega,List.drop_append,List.drop_eq_nil_of_le (by omega),List.nil_append,show a.cells.length+q*sz - a.cells.length=q*sz by omega]
  exact⟨h2,by rw[List.length_append];omega⟩
section
variable {P:Program} {N b:Nat} {ab:aW} {vh:ah}
end
open Go Go.Proofs
section
variable {P:Program} {N b:Nat} {ab:aW} {vh:ah}
end
open Go
section
variable {P:Program} {N b:Nat} {ab:aW} {vh:ah}
inductive Deep (vh:ah):PV→PV→Prop where
  |bz {v v2:PV} (h:bz vh v=some v2):Deep vh v v2
  |ptr {i off:Nat} {cs lQ:List PV} (hg:vh.get i=some (.box cs)) (hz:b9 vh cs=some lQ) (hle:Nat.ble off lQ.length=true):Deep vh (.ptr i off) (.vp (lQ.drop off))
end
section
variable {P:Program} {vh:ah}
end
section
variable {P:Program} {N b:Nat} {Q:gV} {ab:aW} {vh:ah} {pv:Value}
end
section
variable {P:Program} {N b:Nat} {ab:aW} {vh:ah}
end
section
variable {P:Program} {lo:Nat} {Q:kD} {ts:aC} {h:ae} {pv:Value}
end
section
variable {P:Program} {N b:Nat} {Q:gV} {ab:aW} {vh:ah} {pv:Value}
end
section
variable {P:Program} {vh:ah}
theorem VS.zB {lo:Nat}{g:Fz}{σ:Sg}{h:ae}(s:VS lo g σ vh h)(i:Nat):VS lo g σ (vh.drop i) h:=
 ⟨fun j y hy=>s.obj j y (gH hy).2,fun j k y z hy hz=>s.inj j k y z (gH hy).2 (gH hz).2,fun j y hy=>s.low j y (gH hy).2,s.fz,fun j y hy=>s.iG j y (gH hy).2,s.bA⟩
theorem VS.xcj {lo:Nat}{g g':Fz}{σ aL:Sg}{h h':ae}{b6:ah}(s:VS lo g σ vh h){i:Nat}{x:aI}(hi:vh.get i=some x)(hl:x.live=true)(h2:VS lo g' aL b6 h')(h3:g.le g')(h4:∀i,i<vh.next→aL i=σ i)
  (h5:VF σ (vh.drop i) h aL b6 h') (h6:vh.next≤b6.next) (h7:dK g σ (vh.drop i) h g'):VS lo g' aL (b6.back i x) h'∧VF σ vh h aL (b6.back i x) h'∧dK g σ vh h g':=by
 obtain⟨di,UT⟩:=s.obj i x hi
 have aU:=UT.lt hl
 have wV:=h4 i di
 have cC:∀j y,(vh.drop i).get j=some y→y.live=true→(σ j).1≠(σ i).1:=fun j y hy fg he=>by
  obtain⟨k1,k2⟩:=gH hy
  exact k1 (s.inj j i y x k2 hi fg hl he)
 have cA:h'.get (σ i).1=h.get (σ i).1:=h5.fe _ aU cC
 have fU:∀j z,b6.get j=some z→z.live=true→(aL j).1≠(σ i).1:=fun j z hz bT he=>by
  obtain⟨k,u,k1,k2,k3⟩:=h5.own j z hz bT (by rw[he];exact aU)
  exact cC k u k1 k2 (k3.trans he)
 refine⟨⟨fun j z hz=>?_,fun j k z u hz hu bT rq he=>?_,fun j z hz bT=>?_,h2.fz,fun j z hz bT=>?_,h2.bA⟩,⟨h5.next,fun o ho hn=>h5.fe o ho fun j y hy fg=>hn j y (gH hy).2 fg,fun j z hz bT mI=>?_⟩,fun o z hz ho=>?_⟩
 ·rw[ah.uE] at hz
  by_cases hj:j=i
  ·subst hj
   simp at hz;subst hz
   exact⟨Nat.lt_of_lt_of_le di h6,UT.mono h3 h6 h4 di fun _=>cA⟩
  simp only[hj,if_false] at hz
  exact h2.obj j z hz
 ·rw[ah.uE] at hz hu
  by_cases hj:j=i
  ·subst hj
   by_cases hk:k=j
   ·exact hk.symm
   simp only[hk,if_false] at hu
   exact absurd (he.symm.trans (by rw[wV])) (fU k u hu rq)
  simp only[hj,if_false] at hz
  by_cases hk:k=i
  ·subst hk
   exact absurd (he.trans (by rw[wV])) (fU j z hz bT)
  simp only[hk,if_false] at hu
  exact h2.inj j k z u hz hu bT rq he
 ·rw[ah.uE] at hz
  by_cases hj:j=i
  ·subst hj;rw[wV];exact s.low j x hi hl
  simp only[hj,if_false] at hz
  exact h2.low j z hz bT
 ·rw[ah.uE] at hz
  by_cases hj:j=i
  ·subst hj
   rw[wV]
   cases lZ:g' (σ j).1 with
   |none=>rfl
   |some q=>
    rcases h7 _ q lZ aU with qY|⟨k,u,k1,k2,k3⟩
    ·rw[s.iG j x hi hl] at qY;cases qY
    exact absurd k3 (cC k u k1 k2)
  simp only[hj,if_false] at hz
  exact h2.iG j z hz bT
 ·rw[ah.uE] at hz
  by_cases hj:j=i
  ·subst hj;exact⟨j,x,hi,hl,by rw[wV]⟩
  simp only[hj,if_false] at hz
  obtain⟨k,u,k1,k2,k3⟩:=h5.own j z hz bT mI
  exact⟨k,u,(gH k1).2,k2,k3⟩
 rcases h7 o z hz ho with qY|⟨k,u,k1,k2,k3⟩
 ·exact .inl qY
 exact .inr ⟨k,u,(gH k1).2,k2,k3⟩
theorem cR.frame {f:FuncId}{args:List PV}{R:PV→ah→Prop}{i:Nat}{x:aI}(hi:vh.get i=some x)(hl:x.live=true)(hc:cR P f args (vh.drop i) R):cR P f args vh fun v ak=>∃b6,R v b6∧ak=b6.back i x:=fun lo g σ h au ha s=>by
 refine(hc lo g σ h au ha (s.zB i)).mono fun r h' ⟨g',aL,v,b6,h1,h2,h3,h4,h5,h6,h7,h8⟩=>?_
 obtain⟨k1,k2,k3⟩:=s.xcj hi hl h2 h3 h4 h5 h6 h7
 exact⟨g',aL,v,b6.back i x,h1,k1,h3,h4,k2,h6,k3,b6,h8,rfl⟩
end
section
variable {P:Program} {N b:Nat} {ab:aW} {vh:ah}
end
section
variable {P:Program} {vh:ah}
end
section
variable {P:Program} {N b:Nat} {ab:aW} {vh:ah}
end
def ah.uG (vh:ah):List Nat→ah
 |[]=>vh
 |i::r=>(vh.uG r).drop i
def Hg (l:List Nat):List (Nat×aI)→List (Nat×aI)
 |[]=>[]
 |(j,y)::r=>bif l.contains j then (j,y)::Hg l r else Hg l r
def ah.only (vh:ah)(l:List Nat):ah:=⟨vh.next,Hg l vh.be⟩
theorem ah.UU {vh:ah}{l:List Nat}{j:Nat}{y:aI}(h:(vh.only l).get j=some y):vh.get j=some y∧j∈l:=by
 obtain⟨n,os⟩:=vh
 simp only[ah.get,ah.only] at h ⊢
 induction os with
 |nil=>simp[Hg,bh] at h
 |cons e r ih=>
  obtain⟨i,z⟩:=e
  simp only[Hg] at h
  cases hc:l.contains i with
  |true=>
   rw[hc] at h
   simp only[aJ,bh,beq_eq] at h ⊢
   by_cases gP:j=i
   ·subst gP;simp at h ⊢;exact⟨h,by simpa using hc⟩
   simp[gP] at h ⊢;exact ih h
  |false=>
   rw[hc] at h
   simp only[bl,bh,beq_eq] at h ⊢
   have:=ih h
   by_cases gP:j=i
   ·subst gP;rw[← List.contains_iff_mem] at this;rw[hc] at this;exact absurd this.2 (by simp)
   simp[gP];exact this
section
variable {P:Program} {N b lo:Nat} {ab:aW} {vh:ah} {g:Fz} {σ:Sg} {h:ae}
theorem VS.UW (s:VS lo g σ vh h):∀l:List Nat,(∀j y,(vh.uG l).get j=some y→vh.get j=some y)∧∃hK:ae,VS lo g σ (vh.uG l) hK∧∀p q,hK.get p=some q→h.get p=some q∧∀i∈l,∀y,vh.get i=some y→y.live=true→p≠(σ i).1
 |[]=>⟨fun _ _ h=>h,h,s,fun p q hq=>⟨hq,fun i hi=>by cases hi⟩⟩
 |i::r=>by
  obtain⟨k0,hK,k1,k2⟩:=VS.UW s r
  have k3:∀j y,(vh.uG (i::r)).get j=some y→vh.get j=some y:=fun j y hy=>k0 j y (gH hy).2
  refine⟨k3,?_⟩
  have soft:(∀y,(vh.uG r).get i=some y→y.live=true→False)→∃hK:ae,VS lo g σ (vh.uG (i::r)) hK∧∀p q,hK.get p=some q→h.get p=some q∧∀j∈i::r,∀y,vh.get j=some y→y.live=true→p≠(σ j).1:=fun fU=>by
   refine⟨hK,k1.zB i,fun p q hq=>⟨(k2 p q hq).1,fun j hj y hy fg=>?_⟩⟩
   rcases List.mem_cons.1 hj with rfl|hj
   ·by_cases UX:j∈r
    ·exact(k2 p q hq).2 j UX y hy fg
    have same:∀l:List Nat,j∉l→(vh.uG l).get j=vh.get j:=by
     intro l
     induction l with
     |nil=>intro _;rfl
     |cons a l ih=>
      intro hn
      simp only[List.mem_cons,not_or] at hn
      show ((vh.uG l).drop a).get j=_
      rw[ah.KA,if_neg hn.1];exact ih hn.2
    exact absurd fg (fun fg=>fU y (by rw[same r UX];exact hy) fg)
   exact(k2 p q hq).2 j hj y hy fg
  cases hg:(vh.uG r).get i with
  |none=>exact soft fun y hy=>by rw[hg] at hy;cases hy
  |some y=>
   cases hl:y.live with
   |false=>exact soft fun z hz bT=>by rw[hg] at hz;injection hz with hz;subst hz;rw[hl] at bT;cases bT
   |true=>
    obtain⟨q1,_⟩:=k1.kill hg hl
    have aU:=(k1.obj i y hg).2.lt hl
    refine⟨_,q1,fun p q hq=>?_⟩
    rw[ae.dB _ _ _ _ aU] at hq
    by_cases hp:p=(σ i).1
    ·simp[hp] at hq
    rw[if_neg hp] at hq
    refine⟨(k2 p q hq).1,fun j hj z hz bT=>?_⟩
    rcases List.mem_cons.1 hj with rfl|hj
    ·exact hp
    exact(k2 p q hq).2 j hj z hz bT
theorem p9.Co {ops:Array Oper}{o:Oper}{todo dV:List Nat}{next:List Nat→aW→ah→Prop}(l:List Nat){v v2:PV}{ak aQ:ah}(hv:Go.Am.dS P ab vh o.op=some (v,ak))(eI:Go.Am.dS P ab (vh.only l) o.op=some (v2,aQ))(hd:gr N o.dst=true)
  (ht:Hf P ab (vh.uG l) ops todo dV) (hf:dV.all (Jj ops o.dst)=true) (hn:next dV (bU ab o.dst v) ak):p9 P N b ops o todo next ab vh:=fun lo g σ h ts nG hl s hb gf jv dQ=>by
 obtain⟨v',h',k1,aL,k2,k3,k4,k5,k6⟩:=CG (lo:=lo) s nG hv
 obtain⟨g1,g2⟩:=ru (Fz.le_refl g) k5 k6 nG o.dst (hl▸hd) k2
 refine .op (v:=v') (h':=h') (by rw[Bi (fun x hx=>dQ.eval x hx)];exact k1) ⟨v',rfl,dV,fun m hm=>?_,g,aL,_,ak,⟨g1,g2.trans hl,k3,Fz.le_refl g,fun i hi=>k6 i (by omega),k4,by omega,dK.refl _ _ _ _⟩,hn⟩
 obtain⟨h1,om,u,h2,h3⟩:=ht.mem m hm
 obtain⟨o',d,w,h4,c1,c2,c3,c4,c5⟩:=gf m h1
 rw[h2] at c1;injection c1 with c1;subst c1
 obtain⟨_,hK,q1,q2⟩:=s.UW l
 have nx:∀l:List Nat,(vh.uG l).next=vh.next:=by
  intro l
  induction l with
  |nil=>rfl
  |cons a l ih=>exact ih
 have N4:VT g σ (vh.uG l).next ab ts:=by rw[nx];exact nG
 obtain⟨w',h5,e1,_⟩:=CG (lo:=lo) q1 N4 h3
 obtain⟨e2,e3⟩:=zS c3 e1
 subst e2
 have N5:h5.sub h:=fun p q hq=>(q2 p q hq).1
 have ew:w'=w:=by
  have:=e3 h N5
  rw[c5] at this
  simp only[ax,bI] at this
  exact this.1.symm
 subst ew
 obtain⟨sO,_⟩:=s.sub (aQ:=vh.only l) rfl fun j y hy=>(ah.UU hy).1
 obtain⟨v3,Hs,r1,_,_,_,r4,_⟩:=CG (lo:=lo) sO nG eI
 rw[k1] at r1
 simp only[ax,bI] at r1
 obtain⟨rfl,rfl⟩:=r1
 have zB:h5.sub h':=fun p q hq=>by
  obtain⟨t1,t2⟩:=q2 p q hq
  rw[r4.fe p (ae.fC t1) fun i x hx wS he=>?_]
  ·exact t1
  obtain⟨t3,t4⟩:=ah.UU hx
  exact t2 i t4 x t3 wS he.symm
 have hc:sd P lo ops ts h5 m:=⟨om,d,w',h5,h2,c2,c3,c4,e1⟩
 exact hc.put v' zB (List.all_eq_true.1 hf m hm)
end
open Go Go.Proofs Go.Shelf Go.Sort
theorem N6 {α β:Type}{enc:α→List β}{k:Nat}(hk:∀x,(enc x).length=k):∀(zs:List α) (t:Nat),(zs.flatMap enc)[t]?=(zs[t / k]?).bind fun x=>(enc x)[t % k]?
 |[],t=>by simp
 |a::r,t=>by
  rw[List.flatMap_cons,List.getElem?_append,hk]
  by_cases h:t<k
  ·rw[if_pos h,Nat.div_eq_of_lt h,Nat.mod_eq_of_lt h];rfl
  rw[if_neg h]
  rcases Nat.eq_zero_or_pos k with rfl|h0
  ·rw[N6 hk r (t - 0)]
   have e0:∀x:α,enc x=[]:=fun x=>List.eq_nil_of_length_eq_zero (hk x)
   simp only[e0]
   cases hx:r[(t - 0) / 0]?<;>cases hy:(a::r)[t / 0]?<;>rfl
  rw[N6 hk r (t - k)]
  have e1:t / k=(t - k) / k+1:=by rw[Nat.div_eq t k,if_pos ⟨h0,by omega⟩]
  have e2:t % k=(t - k) % k:=by rw[Nat.mod_eq t k,if_pos ⟨h0,by omega⟩]
  rw[e1,e2];rfl
theorem DL {α β:Type}{enc:α→List β}{k:Nat}(hk:∀x,(enc x).length=k):∀zs:List α,(zs.flatMap enc).length=zs.length*k
 |[]=>by simp
 |a::r=>by rw[List.flatMap_cons,List.length_append,hk,DL hk r,List.length_cons,Nat.succ_mul,Nat.add_comm]
theorem zvb {α:Type}[Inhabited α]{enc:α→List Value}{k:Nat}(hk:∀x,(enc x).length=k)(h0:0<k)(zs:List α):(flatK enc k zs.toArray).toList=zs.flatMap enc:=by
 refine List.ext_getElem? fun t=>?_
 rw[N6 hk]
 by_cases ht:t<zs.length*k
 ·have hq:t / k<zs.length:=by rw[Nat.div_lt_iff_lt_mul h0];exact ht
  have hr:t % k<(enc zs[t / k]).length:=by rw[hk];exact Nat.mod_lt _ h0
  rw[List.getElem?_eq_getElem hq]
  simp only[Option.bind_some]
  rw[List.getElem?_eq_getElem hr]
  have hs:t<(flatK enc k zs.toArray).toList.length:=by simp;exact ht
  rw[List.getElem?_eq_getElem hs]
  have:=get_flatK enc k zs.toArray t (by simpa using ht)
  rw[getElem!_pos _ t (by simpa using ht)] at this
  rw[Array.getElem_toList,this]
  simp[hq,hr]
 have hq:¬t / k<zs.length:=by rw[Nat.div_lt_iff_lt_mul h0];exact ht
 rw[List.getElem?_eq_none (l:=zs) (by omega)]
 rw[List.getElem?_eq_none (by simp;omega)]
 rfl
section
variable {P:Program} {lo:Nat} {h:ae}
theorem zqf {U:Mu}{w:World}(r:Rel U lo h w){o off s b a C:Nat}{cs:List Value}(d d0:List Value)(hd:∀x∈d,kB x=true)(N7:∀x∈d0,kB x=true)(hlen:d.length=d0.length)
  (hg:h.get o=some (.cells s cs)) (hl:lo≤o) (hm:U o=some (b,a,C)) (mz:∀i x,d0[i]?=some x→cs[off+i]?=some x) (vf:off≤cs.length) :
  Sort.Holds id w b (a+off) d0.toArray∧Rel U lo (h.put o (some (.cells s (e9 cs off d)))) (Sort.putRow id w b (a+off) d.toArray)∧
  Frame lo U h w U (h.put o (some (.cells s (e9 cs off d)))) (Sort.putRow id w b (a+off) d.toArray):=by
 have oS:=mM r hg hm
 have hH:Sort.Holds id w b (a+off) d0.toArray:=by
  intro j hj
  have mL:j<d0.length:=by simpa using hj
  obtain⟨v',h1,h2⟩:=oS.2.1 (off+j) _ (mz j d0[j] (by simp[mL]))
  have:=EI (N7 _ (List.getElem_mem mL)) h2
  subst this
  refine⟨?_,r.eo o _ b a C hl hg hm _⟩
  have e:d0.toArray[j]! = d0[j]:=by simp[mL]
  rw[e,Nat.add_assoc];exact h1
 refine⟨hH,?_⟩
 have hle:off+d.length≤cs.length:=by
  rw[hlen]
  rcases Nat.eq_zero_or_pos d0.length with h0|h0
  ·omega
  have:=mz (d0.length - 1) d0[d0.length - 1] (by simp)
  have:=(List.getElem?_eq_some_iff.1 this).1
  omega
 refine Jo r hg hl hm _ (by simp) (fun b' oB=>?_) ⟨by simp;exact oS.1,fun i v hv=>?_,fun hs=>⟨by rw[Jq _ _ _ hle];exact(oS.2.2 hs).1,fun i hi=>?_⟩⟩ (fun o'=>by rw[Sort.frozen?_putRow];exact r.eo o _ b a C hl hg hm o') ⟨rfl,rfl,rfl,fun _=>by first|exact Nat.le_refl _|exact Nat.le_add_right _ _|exact Nat.le_succ _⟩
 ·have:b≠b':=fun h=>oB h.symm
  simp only[Sort.putRow,Sort.mapBlock,Array.getElem?_modify,this,if_false]
 ·rw[Hi _ _ _ hle] at hv
  by_cases hi:off≤i∧i<off+d.length
  ·rw[if_pos hi] at hv
   have hid:i - off<d.length:=by omega
   rw[List.getElem?_eq_getElem hid] at hv
   simp only[ax] at hv
   subst hv
   refine⟨_,?_,.xX (hd _ (List.getElem_mem hid))⟩
   have:=Sort.cell?_putRow id w b (a+off) d0.toArray d.toArray hH (by simpa using hlen) (i - off) (by simpa using hid)
   have e:a+off+(i - off)=a+i:=by omega
   rw[e] at this
   rw[this]
   simp[hid]
  rw[if_neg hi] at hv
  obtain⟨v',h1,h2⟩:=oS.2.1 i v hv
  refine⟨v',?_,h2⟩
  rw[Sort.cell?_putRow_other]
  ·exact h1
  right;simp only[List.size_toArray];omega
 obtain⟨v',h1⟩:=(oS.2.2 hs).2 i hi
 by_cases hi2:off≤i∧i<off+d.length
 ·have:=Sort.cell?_putRow id w b (a+off) d0.toArray d.toArray hH (by simpa using hlen) (i - off) (by simp;omega)
  have e:a+off+(i - off)=a+i:=by omega
  rw[e] at this
  exact⟨_,this⟩
 refine⟨v',?_⟩
 rw[Sort.cell?_putRow_other]
 ·exact h1
 right;simp only[List.size_toArray];omega
def An {α:Type}(cf:α→α→Int)(x y:α):Bool:=!(ltOf cf) y x
theorem mr.z0q {ρ:Ren}(L:SlLaysF0.n6 P ρ){α:Type}[Inhabited α]{k:Nat}(h0:0<k)(aE:∀w,(isAgg (ρ.t 24)).run P w=.ok true w)(zE:∀w,(Go.sizeOf (ρ.t 24)).run P w=.ok k w)(enc:α→List Value)(hk:∀x,(enc x).length=k)(rK:∀x,∀v∈enc x,kB v=true∧v.oneCell'=true)
  (cf:α→α→Int) (hO:SWO (ltOf cf)) (hT:∀x y,ltOf cf x y=false→ltOf cf y x=false→x=y) (g:Nat) (eg:∀args w,(callFunc g args).run P w=.ok (.enter g args) w)
  (CR:∀x y w,Calls P g #[.agg (enc x).toArray,.agg (enc y).toArray] w fun e w'=>e=.returned (.int .i64 (cf x y))∧∃q qh,w'=Sort.grow (w.drewN q) qh)
  {o off s kk:Nat} {cs:List Value} {zs:List α} (hg:h.get o=some (.cells s cs)) (hl:lo≤o) (vf:off≤cs.length) (hz:∀t v,(zs.flatMap enc)[t]?=some v→cs[off+t]?=some v) (e8:zs.length<4611686018427387904) (lY:kk<dC) (sv:0<zs.length) :
  mr P lo (ρ.f 6) [.slice (some ⟨o,off,none⟩) zs.length kk,.func (.func g) #[] #[]] h fun r h'=>r=.tuple #[]∧h'=h.put o (some (.cells s (e9 cs off ((zs.mergeSort (An cf)).flatMap enc)))):=by
 refine .HW fun U w a6 ha r=>?_
 obtain⟨v',r',oA,hv,hr⟩:=ha.dt
 obtain⟨v2,r2,N8,eI,iU⟩:=hr.dt
 have:=iU.iP;subst this
 obtain⟨LL,hL⟩:∃LL,zs.length=LL:=⟨_,rfl⟩
 rw[hL] at hv
 have uz:v2=.func (.func g) #[] #[]:=by
  cases eI with
  |func _ _ _ bk dq hx hy _ _=>
   have h1:bk=#[]:=Array.eq_empty_of_size_eq_zero (by simpa using hx.symm)
   have h2:dq=#[]:=Array.eq_empty_of_size_eq_zero (by simpa using hy.symm)
   rw[h1,h2]
 subst uz
 subst N8
 have fH:a6=#[v',.func (.func g) #[] #[]]:=Array.ext' (by simpa using oA)
 subst fH
 cases hv with
 |slice _ _ _ _ b a C hm zG jr=>
  subst hL
  have oS:=mM r hg hm
  have self:∀(l:List α),∀x∈l.flatMap enc,kB x=true:=fun l x hx=>by
   obtain⟨y,_,hy⟩:=List.mem_flatMap.1 hx
   exact(rK y x hy).1
  obtain⟨hH,iU,uz⟩:=zqf r ((zs.mergeSort (An cf)).flatMap enc) (zs.flatMap enc) (self _) (self _) (by rw[DL hk,DL hk,List.length_mergeSort]) hg hl hm hz vf
  have eF:∀l:List α,(l.flatMap enc).toArray=flatK enc k l.toArray:=fun l=>Array.ext' (by rw[zvb hk h0])
  rw[eF] at hH iU uz
  have BE:zs.toArray.size<4611686018427387904:=by simpa using e8
  have hc:=AnyQ.slices_SortFunc_total L k aE zE enc hk (fun x v hv=>(rK x v hv).2) cf hO g #[] b (a+off) (gb C kk) zs.toArray w eg (fun m os dk _ x y=>CR x y _) hH oS.rD BE hT
  have N9:zs.toArray.size=zs.length:=by simp
  rw[N9] at hc
  refine hc.mono fun e w' ⟨h1,n,os,h2⟩=>?_
  subst h2
  obtain⟨Ch,hf3⟩:=WZ (lo:=lo) os n iU
  exact⟨.tuple #[],_,_,U,h1,.tuple #[] #[] rfl (fun i h=>by simp at h),Ch,uz.trans hf3,rfl,rfl⟩
 |bK=>exact absurd lY (Nat.lt_irrefl _)
 |b7=>omega
end
theorem LU {α:Type}(l:α→List Int)(zs:List α):(zs.map fun x=>PV.agg ((l x).map (PV.int .i64))).flatMap PV.cells=(zs.flatMap l).map (PV.int .i64):=by
 induction zs with
 |nil=>rfl
 |cons a r ih=>rw[List.map_cons,List.flatMap_cons,ih,List.flatMap_cons,List.map_append];rfl
section
variable {P:Program} {vh:ah}
theorem cR.Yz {ρ:Ren}(L:SlLaysF0.n6 P ρ){α:Type}[Inhabited α]{k:Nat}(h0:0<k)(aE:∀w,(isAgg (ρ.t 24)).run P w=.ok true w)(zE:∀w,(Go.sizeOf (ρ.t 24)).run P w=.ok k w)(l:α→List Int)(hk:∀x,(l x).length=k)
  (cf:α→α→Int) (hO:SWO (ltOf cf)) (hT:∀x y,ltOf cf x y=false→ltOf cf y x=false→x=y) (g:Nat) (eg:∀args w,(callFunc g args).run P w=.ok (.enter g args) w)
  (CR:∀x y w,Calls P g #[.agg ((l x).map (Value.int .i64)).toArray,.agg ((l y).map (Value.int .i64)).toArray] w fun e w'=>e=.returned (.int .i64 (cf x y))∧∃q qh,w'=Sort.grow (w.drewN q) qh)
  {i n:Nat} {nl:Bool} {zs:List α} (hg:vh.get i=some (.grow k (zs.map fun x=>PV.agg ((l x).map (PV.int .i64))))) (hn:zs.length=n) :
  cR P (ρ.f 6) [.grow i n nl,.func g [] []] vh fun r ak=>r=.bp []∧ak=vh.put i (.grow k ((zs.mergeSort (An cf)).map fun x=>PV.agg ((l x).map (PV.int .i64)))):=fun lo ga σ h au ha s=>by
 subst hn
 obtain⟨v',r',rfl,hv,hr⟩:=ha.dt
 obtain⟨v2,r2,rfl,eI,iU⟩:=hr.dt
 have:=iU.iP;subst this
 have uz:v2=.func (.func g) #[] #[]:=by
  have e0:∀(xs:Array Value),([]:List PV).length=xs.size→xs=#[]:=fun xs hx=>Array.eq_empty_of_size_eq_zero (by simpa using hx.symm)
  cases eI with
  |fr _ _ hf=>
   cases hf with
   |func _ _ _ bk dq hx hy _ _=>rw[e0 _ hx,e0 _ hy]
  |func _ _ _ bk dq hx hy _ _=>rw[e0 _ hx,e0 _ hy]
 subst uz
 obtain⟨hi,Rg,ep,di,kF⟩:=s.obj i _ hg
 have empty:∀ {p:Option Addr} {cap:Nat},v'=.slice p 0 cap→zs.length=0→mr P lo (ρ.f 6) [v',.func (.func g) #[] #[]] h fun r h'=>∃g' aL v ak,VR g' aL ak.next v r∧VS lo g' aL ak h'∧ga.le g'∧(∀i,i<vh.next→aL i=σ i)∧VF σ vh h aL ak h'∧vh.next≤ak.next∧dK ga σ vh h g'∧v=.bp []∧
   ak=vh.put i (.grow k ((zs.mergeSort (An cf)).map fun x=>PV.agg ((l x).map (PV.int .i64)))):=fun {p cap} aX hz=>by
  have hz:=List.eq_nil_of_length_eq_zero hz
  subst hz
  subst aX
  have hs:([]:List α).mergeSort (An cf)=[]:=by simp
  rw[hs]
  obtain⟨s1,f1⟩:=s.ct hg
  refine .HW fun U w a6 NX r=>?_
  obtain⟨v2,r2,oA,Ed,Kk⟩:=NX.dt
  obtain⟨v3,r3,Oa,yaE,Ob⟩:=Kk.dt
  have:=Ob.iP;subst this
  subst Oa
  have hsh:∃p' zC,v2=.slice p' 0 zC:=by cases Ed<;>exact⟨_,_,rfl⟩
  obtain⟨p',zC,rfl⟩:=hsh
  have fH:a6=#[.slice p' 0 zC,v3]:=Array.ext' (by simpa using oA)
  subst fH
  refine(AnyF.slices_SortFunc_none L p' zC v3 w).mono fun e w' ⟨h1,h2⟩=>?_
  subst h2
  exact⟨.tuple #[],_,h,U,h1,.tuple #[] #[] rfl (fun i h=>by simp at h),r,Frame.refl _ _ _ _,ga,σ,.bp [],_,.fr _ _ sb,s1,Fz.le_refl ga,fun _ _=>rfl,f1,Nat.le_refl _,dK.refl _ _ _ _,rfl,rfl⟩
 rcases kF with s9|⟨s0,ao,h1,h2,h3,h4⟩
 ·have hz:zs.length=0:=by have:=congrArg List.length s9;simpa using this
  have j9:zs=[]:=List.eq_nil_of_length_eq_zero hz
  subst j9
  cases hv with
  |fr _ _ h=>cases h
  |bW=>exact empty rfl rfl
  |bX=>exact empty rfl rfl
  |grow _ _ _ _ _ _ _ _ hn=>simp at hn
 rw[LU] at h3
 have oA:=bc.ints h3
 generalize hm:zs.length=m at hv
 cases hv with
 |fr _ _ h=>cases h
 |bW=>exact empty rfl hm
 |bX=>exact empty rfl hm
 |grow _ _ o a kk _ dD hs hn=>
  subst hm
  have fm:(aI.grow k (zs.map fun x=>PV.agg ((l x).map (PV.int .i64)))).live=true:=by
   cases zs with
   |nil=>simp at hn
   |cons=>rfl
  have bC:=s.low i _ hg fm
  rw[hs] at h1 h2 h4 bC;simp only at h1 h2 h4 bC;subst h2
  subst oA
  have y0:zs.length<4611686018427387904:=by
   have h6:(zs.map fun x=>PV.agg ((l x).map (PV.int .i64))).length<4611686018427387904:=di
   rw[List.length_map] at h6
   exact h6
  have dI:kk<dC:=by
   show kk<9223372036854775808
   rcases h4 with⟨rfl,_⟩|rfl
   ·decide
   rw[List.length_map];omega
  have rH:∀zs:List α,zs.flatMap (fun x=>(l x).map (Value.int .i64))=(zs.flatMap l).map (Value.int .i64):=fun zs=>by rw[List.map_flatMap]
  have hS:=mr.z0q (P:=P) (h:=h) (lo:=lo) L h0 aE zE (fun x=>(l x).map (Value.int .i64)) (fun x=>by simp[hk]) (fun x v hv=>by obtain⟨n,_,rfl⟩:=List.mem_map.1 hv;exact⟨rfl,rfl⟩) cf hO hT g eg CR (off:=0) (kk:=kk) (zs:=zs) h1 bC (Nat.zero_le _) (fun t x hx=>by rw[rH] at hx;simpa using hx) y0 dI hn
  refine hS.mono fun r h' ⟨e1,e2⟩=>?_
  obtain⟨ms,Gi⟩:∃ms,zs.mergeSort (An cf)=ms:=⟨_,rfl⟩
  have hlen:ms.length=zs.length:=by rw[← Gi];exact List.length_mergeSort zs
  rw[Gi] at e2 ⊢
  rw[rH] at e2
  have fa:((ms.flatMap l).map (Value.int .i64)).length=((zs.flatMap l).map (Value.int .i64)).length:=by rw[List.length_map,List.length_map,DL hk,DL hk,hlen]
  have Oc:e9 ((zs.flatMap l).map (Value.int .i64)) 0 ((ms.flatMap l).map (Value.int .i64))=(ms.flatMap l).map (Value.int .i64):=by
   unfold e9
   rw[fa];simp
  rw[Oc] at e2
  subst e1;subst e2
  have hw:=s.write hg fm (x':=.grow k (ms.map fun x=>PV.agg ((l x).map (PV.int .i64)))) (.cells s0 ((ms.flatMap l).map (Value.int .i64)))
   ⟨Rg,fun e he=>(by obtain⟨x,_,rfl⟩:=List.mem_map.1 he;show ((l x).map (PV.int .i64)).length=k;rw[List.length_map,hk]),by rw[List.length_map,hlen];exact y0,.inr ⟨s0,_,by rw[ae.dB _ _ _ _ (by rw[hs];exact ae.fC h1),if_pos rfl],by rw[hs],by rw[LU];exact bc.LV _,by
    rw[hs];simp only[List.length_map,hlen] at h4 ⊢;exact h4⟩⟩
  rw[hs] at hw
  exact⟨ga,σ,.bp [],_,.fr _ _ sb,hw.1,Fz.le_refl ga,fun _ _=>rfl,hw.2,Nat.le_refl _,dK.refl _ _ _ _,rfl,rfl⟩
end
theorem xU.grown {w w':World}(hd:bE.dr)(h:xU w w'):∃q qh,w'=Sort.grow (w.drewN q) qh:=by
 obtain⟨⟨c1,c2,c3,c4⟩,hs,hk⟩:=h
 have c4:=c4 hd
 refine⟨w'.drawn - w.drawn,w'.heap.extract w.heap.size w'.heap.size,?_⟩
 obtain⟨rE,tp',dr',qh,ou'⟩:=w'
 obtain⟨hp,tp,dr,os,ou⟩:=w
 simp only at c1 c2 c3 c4 hs hk
 subst c1;subst c2;subst c3
 unfold Sort.grow World.drewN
 simp only[World.mk.injEq,and_true,true_and]
 refine⟨Array.ext_getElem? fun i=>?_,by omega⟩
 rw[Array.getElem?_append]
 split
 ·rename_i hi;exact hk i hi
 rename_i hi
 rw[Array.getElem?_extract]
 split
 ·congr 1;omega
 rw[Array.getElem?_eq_none (by omega)]
omit [bE] in
theorem aM.z9n {P:Program}{f:FuncId}{args:List PV}{k:IntKind}{n:Int}(hp:@aM bE.no P f args fun r=>r=.int k n){w:World}{a6:Array Value}(hl:args.length=a6.size)
  (ha:∀(i:Nat) v v',args[i]?=some v→a6[i]?=some v'→CV w v v'):Calls P f a6 w fun e w'=>e=.returned (.int k n)∧@xU bE.no w w':=by
 letI:bE:=bE.no
 have e0:∀o x,ae.empty.get o=some x→False:=fun o x hx=>by rw[ae.Of] at hx;cases hx
 have r0:Rel (fun _=>none) ae.empty.next ae.empty w:=⟨fun o x hx=>(e0 o x hx).elim,fun o o' x x' b a C a' C' _ hx=>(e0 o x hx).elim,fun o x hx=>(by cases hx),fun o x b a C _ hx=>(e0 o x hx).elim,Nat.le_refl _,⟨fun b hb=>absurd hb (Nat.not_lt_zero _),Nat.zero_le _,fun o x b a C _ hx=>(e0 o x hx).elim⟩⟩
 obtain⟨U,h,us,m,r,f1,v1⟩:=Hb (l':=a6.toList) (by simpa using hl) (fun i v v' hv aX=>(ha i v v' hv (by simpa using aX)).Uy) _ _ r0
 have hc:mr P h.next f us h _:=hp h.next h.get (fun _=>(0,0,0)) h us ⟨f1.1,fun i v v' hv aX=>.fr _ _ (f1.2 i v v' hv aX)⟩ (VS.none (fun _ _ hx=>hx) (Nat.le_refl _) _)
 refine Calls.mono (callsIn_wide.1 (hc Fence.wide OO rfl 0 U w a6 v1 r)) fun e w' ⟨r',v,h',aN,k1,k2,k3,k4,g',aL,pv,ak,k5,_,_,_,_,_,_,k6,k7⟩=>?_
 subst k7
 cases k5 with
 |fr _ _ hf=>
  cases hf
  cases k2
  exact⟨k1,k4.calm,k4.size,fun b hb=>k4.kept b hb (by rintro⟨o,x,a,C,g1,g2,_⟩;have:=ae.fC g2;omega)⟩
omit [bE] in
theorem CV.ints {w:World}(l:List Int):CV w (.agg (l.map (PV.int .i64))) (.agg (l.map (Value.int .i64)).toArray):=
 .agg _ _ (by simp) fun i v v' hv aX=>by
  rw[List.getElem?_map] at hv
  simp only[List.getElem?_toArray,List.getElem?_map] at aX
  cases hi:l[i]? with
  |none=>rw[hi] at hv;cases hv
  |some x=>
   rw[hi] at hv aX
   simp only[Option.map_some,ax] at hv aX
   subst hv;subst aX
   exact .int _ _
omit [bE] in
theorem aM.cmp {P:Program}{f:FuncId}{a b:List Int}{n:Int}(hp:@aM bE.no P f [.agg (a.map (PV.int .i64)),.agg (b.map (PV.int .i64))] fun r=>r=.int .i64 n)(w:World) :
  Calls P f #[.agg (a.map (Value.int .i64)).toArray,.agg (b.map (Value.int .i64)).toArray] w fun e w'=>e=.returned (.int .i64 n)∧∃q qh,w'=Sort.grow (w.drewN q) qh:=
 (aM.z9n hp (w:=w) (a6:=#[.agg (a.map (Value.int .i64)).toArray,.agg (b.map (Value.int .i64)).toArray]) rfl fun i v v' hv aX=>by
  match i,hv,aX with
  |0,hv,aX=>simp at hv aX;subst hv;subst aX;simpa using CV.ints (w:=w) a
  |1,hv,aX=>simp at hv aX;subst hv;subst aX;simpa using CV.ints (w:=w) b
  |i+2,hv,_=>simp at hv).mono fun e w' ⟨h1,h2⟩=>letI:bE:=bE.no;⟨h1,xU.grown trivial h2⟩
def jK (sz:Nat)(es:List PV):Prop:=∀e∈es,∃cs,e=.agg cs∧cs.length=sz
theorem jK.map {α:Type}{sz:Nat}{f:α→PV}{g:α→List PV}(hf:∀x,f x=.agg (g x))(hg:∀x,(g x).length=sz)(l:List α):jK sz (l.map f):=fun e he=>by
 obtain⟨x,_,rfl⟩:=List.mem_map.1 he
 exact⟨g x,hf x,hg x⟩
theorem jK.len {sz:Nat}:∀ {es:List PV},jK sz es→(es.flatMap PV.cells).length=es.length*sz
 |[],_=>by simp
 |e::r,h=>by
  obtain⟨cs,rfl,hc⟩:=h _ List.mem_cons_self
  have:=jK.len (es:=r) fun x hx=>h x (List.mem_cons_of_mem _ hx)
  rw[List.flatMap_cons,List.length_append,this,List.length_cons,Nat.succ_mul]
  show cs.length+_=_
  omega
theorem Od {sz:Nat}:∀ {es:List PV},jK sz es→∀r:List PV,chunk true sz es.length (es.flatMap PV.cells++r)=es
 |[],_,r=>rfl
 |e::l,h,r=>by
  obtain⟨cs,rfl,hc⟩:=h _ List.mem_cons_self
  have ih:=Od (es:=l) (fun x hx=>h x (List.mem_cons_of_mem _ hx)) r
  simp only[chunk,aJ] at ih ⊢
  rw[List.length_cons,List.range_succ_eq_map,List.map_cons,List.map_map,List.flatMap_cons]
  have e0:(PV.agg cs).cells=cs:=rfl
  rw[e0,List.append_assoc]
  congr 1
  ·rw[Nat.zero_mul,List.drop_zero,List.take_left' hc]
  have:((fun i=>PV.agg (((cs++(l.flatMap PV.cells++r)).drop (i*sz)).take sz))∘Nat.succ)=fun i=>PV.agg (((l.flatMap PV.cells++r).drop (i*sz)).take sz):=by
   funext i
   simp only[Function.comp]
   rw[show i.succ*sz=cs.length+i*sz by rw[Nat.succ_mul,hc];omega,List.drop_append,List.drop_eq_nil_of_le (by omega),Nat.add_sub_cancel_left,List.nil_append]
  rw[this];exact ih
section
variable {vh:ah}
theorem Ub {i n k sz:Nat}{es r:List PV}(hg:vh.get i=some (.arr true sz (es.flatMap PV.cells++r)))(he:jK sz es)(hn:es.length=n):jw vh sz (.own i 0 n k)=some es:=by
 subst hn
 have hl:=he.len
 have h1:Nat.ble (0+es.length*sz) (es.flatMap PV.cells++r).length=true:=by rw[Nat.ble_eq,List.length_append,hl];omega
 simp only[jw,hg,List.drop_zero,h1,Bool.true_or,Bool.and_true,beq_eq,decide_true,aJ,Od he r]
theorem Gd {i n sz:Nat}{es r:List PV}(hg:vh.get i=some (.arr true sz (es.flatMap PV.cells++r)))(he:jK sz es)(hn:es.length=n):jw vh sz (.sub i 0 n)=some es:=by
 subst hn
 have hl:=he.len
 have h1:Nat.ble (0+es.length*sz) (es.flatMap PV.cells++r).length=true:=by rw[Nat.ble_eq,List.length_append,hl];omega
 simp only[jw,hg,List.drop_zero,h1,Bool.true_or,Bool.and_true,beq_eq,decide_true,aJ,Od he r]
theorem ZM {P:Program}{t e:TypeId}{i n k sz:Nat}{es:List PV}{z:List PV}(ht:fS P t=some (e,sz))(h0:0<sz)(he:jK sz es)(hs:kj sz es=true)(h1:kG es=true)(hz:z.length=sz)(hn:es.length=n)(hg:vh.get i=some (.arr true sz (cB z n))) :
  cW P vh t (.own i 0 n k) (.vec es)=some (.int .i64 n,vh.put i (.arr true sz (es.flatMap PV.cells))):=by
 subst hn
 have hl:=he.len
 have hp:∀m,(cB z m).length=m*sz:=fun m=>by
  induction m with
  |zero=>simp[cB]
  |succ m ih=>unfold cB at ih ⊢;rw[List.replicate_succ,List.flatten_cons,List.length_append,ih,hz,Nat.succ_mul];omega
 have hv:jw vh sz (.vec es)=some es:=by simp only[jw,hs,aJ]
 have h2:jP (cB z es.length) 0 (es.flatMap PV.cells)=es.flatMap PV.cells:=by
  unfold jP
  rw[List.take_zero,List.nil_append,List.drop_eq_nil_of_le (by rw[hp,hl];omega),List.append_nil]
 have h3:Nat.blt 0 sz=true:=by rw[Nat.blt_eq];exact h0
 have h4:Nat.ble (0+es.length*sz) (cB z es.length).length=true:=by rw[Nat.ble_eq,hp];omega
 simp only[cW,ht,hv,hg,List.take_length,h3,h4,h1,Bool.and_true,aJ,h2]
 congr 3
 simp
theorem zr9 {i n sz:Nat}{es r:List PV}(hg:vh.get i=some (.arr true sz (es.flatMap PV.cells++r)))(he:jK sz es)(hn:es.length=n):bz vh (.sub i 0 n)=some (.vec es):=by
 subst hn
 cases es with
 |nil=>rfl
 |cons a l=>
  have h1:Nat.beq (a::l).length 0=false:=by rw[beq_eq];simp
  have:=Gd hg he rfl
  simp only[bz,h1,bl,hg]
  rw[this];rfl
end
theorem zyi {U:Mu}{lo:Nat}{h:ae}{w w':World}(hd:¬bE.dr)(r:Rel U lo h w)(b:Go.RowKit.Below w.heap.size w w'):Rel U lo h w'∧Frame lo U h w U h w':=by
 have hk:=b.block
 refine Rel.Jm r (fun o x hx=>?_) r.inj r.ng (fun o x b' a C hl hx hm off=>?_) r.bA ⟨Mu.le_refl _,b.size,Nat.le_refl _,fun k jr _=>hk k jr,fun _ _ h=>h,fun _ _=>rfl,fun _ _=>rfl,fun _ _ h=>h,⟨b.os,b.output,b.tape,fun h=>absurd h hd⟩⟩
 ·obtain⟨b',a,C,h1,h2⟩:=r.be o x hx
  exact⟨b',a,C,h1,h2.kept (hk _ h2.rD)⟩
 rw[xW (hk _ (mM r hx hm).rD)]
 exact r.eo o x b' a C hl hx hm off
theorem aM.world {P:Program}{f:FuncId}{args:List PV}{v:PV}{u:Value}(hd:¬bE.dr)(hv:∀g,FR g v u)(hs:kB u=true)(hF:v.aB=true)
  (hc:∀lo g σ h au U w a6,bc (VR g σ 0) args au→VS lo g σ ah.empty h→bn U au a6.toList→Rel U lo h w→Calls P f a6 w fun e w'=>e=.returned u∧Go.RowKit.Below w.heap.size w w') :
  aM P f args fun r=>r=v:=fun lo g σ h au ha s=>mr.HW fun U w a6 hr r=>
 (hc lo g σ h au U w a6 ha s hr r).mono fun e w' ⟨he,hb⟩=>
  let ⟨r',f'⟩:=zyi hd r hb
  ⟨u,u,h,U,he,.xX hs,r',f',g,σ,v,ah.empty,.fr _ _ (hv _),s,Fz.le_refl g,fun _ _=>rfl,VF.refl _ _ _,Nat.le_refl _,dK.refl _ _ _ _,hF,rfl⟩
theorem FR.ints {g:Fz}{l:List Int}{v:Value}(h:FR g (.agg (l.map (.int .i64))) v):v=.agg (l.map (Value.int .i64)).toArray:=by
 cases h with
 |agg cs ao hs hr=>
  congr 1
  apply Array.ext
  ·simpa using hs.symm
  intro i h1 h2
  have h3:i<l.length:=by simpa using h2
  have h4:=hr i (.int .i64 l[i]) ao[i] (by simp[h3]) (by simp[h1])
  generalize hu:ao[i]=u at h4
  cases h4
  simp
theorem VR.ints {g:Fz}{σ:Sg}{n:Nat}{l:List Int}{v:Value}(h:VR g σ n (.agg (l.map (.int .i64))) v):v=.agg (l.map (Value.int .i64)).toArray:=by
 cases h with
 |fr _ _ h=>exact h.ints
 |agg cs ao hs hr=>
  congr 1
  apply Array.ext
  ·simpa using hs.symm
  intro i h1 h2
  have h3:i<l.length:=by simpa using h2
  have h4:=hr i (.int .i64 l[i]) ao[i] (by simp[h3]) (by simp[h1])
  generalize hu:ao[i]=u at h4
  cases h4 with
  |fr _ _ h=>cases h;simp
theorem Z5 (l:List Int):kB (.agg (l.map (Value.int .i64)).toArray)=true:=by
 unfold kB
 simp[tF]
end Go.Am
end
section
namespace Go.Am
open Go Go.Proofs
section
variable [bE]
theorem aM.xal {P:Program}{vh:ah}{f:FuncId}{args cu:List PV}{R:PV→Prop}(hp:aM P f cu R)(oR:b9 vh args=some cu):zx P f args vh fun v ak=>ak=gx (PV.cO args) vh∧R v:=fun lo g σ h au ha s=>by
 have hA:=CO vh (fun i=>(PV.cO args).contains i) args cu (fun i hi=>by simpa using hi) oR
 have uD:=aA.ok s hA ha
 have hF:PV.aG cu=true:=CK vh args cu oR
 have hle:=sc (D:=fun i=>(PV.cO args).contains i) s
 have hS:VS lo (g.more σ vh h fun i=>(PV.cO args).contains i) σ (gx (PV.cO args) vh) h:=by
  refine⟨fun j y hy=>?_,fun j k y z hy hz=>s.inj j k y z (se _ _ _ _ hy).2 (se _ _ _ _ hz).2,fun j y hy=>s.low j y (se _ _ _ _ hy).2,Ef s,fun j y hy hl=>?_,s.bA⟩
  ·obtain⟨k1,k2⟩:=s.obj j y (se _ _ _ _ hy).2
   rw[xR]
   exact⟨k1,k2.mono hle (Nat.le_refl _) (fun _ _=>rfl) k1 fun _=>rfl⟩
  obtain⟨h1,h2⟩:=se _ _ _ _ hy
  unfold Fz.more
  rw[if_neg]
  ·exact s.iG j y h2 hl
  rintro⟨i,z,k1,k2,k3,k4⟩
  have:=s.inj i j z y k2 h2 k3 hl k4
  subst this
  exact h1 (by simpa using k1)
 have Ha:VF σ vh h σ (gx (PV.cO args) vh) h:=⟨Nat.le_refl _,fun _ _ _=>rfl,fun j y hy hl _=>⟨j,y,(se _ _ _ _ hy).2,hl,rfl⟩⟩
 refine((hp.CL (vh:=gx (PV.cO args) vh) hF) lo _ σ h au (uD.aB hF).vr hS).mono fun r h' ⟨h0,g',aL,v,ak,h1,h2,h3,h4,h5,h6,h7,h8⟩=>?_
 rw[xR] at h4 h6
 exact⟨h0,g',aL,v,ak,h1,h2,Fz.le_trans hle h3,h4,Ha.trans h5,h6,G3.trans Ha h7,h8⟩
theorem p9.FJ {P:Program}{N b:Nat}{ab:aW}{vh:ah}{ops:Array Oper}{todo:List Nat}{o:Oper}{next:List Nat→aW→ah→Prop}{fo:Operand}{args:Array Operand}{aT:Array TypeId}{f:FuncId}{xs ys l cu:List PV}{R:PV→Prop}(ho:o.op=.call ⟨.value fo,args,aT⟩)
  (hf:cF ab fo=some (.func f xs ys)) (hl:iX ab args.toList=some l) (dM:∀cs w,(callFunc f cs).run P w=.ok (.enter f cs) w) (hd:gr N o.dst=true)
  (hz:b9 vh (xs++l++ys)=some cu) (hp:aM P f cu R) (hn:∀r,R r→next (iB ops todo o.dst) (bU ab o.dst r) (gx (PV.cO (xs++l++ys)) vh)):p9 P N b ops o todo next ab vh:=
 .CL ho hf hl dM hd ((hp.xal hz).mono fun r ak ⟨h1,h2⟩=>h1▸hn r h2)
end
end Go.Am
end
