/-
 What is used in the proof of a statement (part Vm2); no condition.
-/
import Derived.Shelf.SortM.SortNone
import Derived.SizedLaws
import Derived.ReadAgain
import Derived.ChangeArms
import Derived.ChangeSame
import Derived.Shelf.SlSortCmp.NoneTotal
import Derived.Below
import Derived.Test.YthnmgbgmlhackaaGreatDoorVm1
import Derived.Test.YthnmgbgmlhackaaGreatDoorAm3
import Derived.Test.YthnmgbgmlhackaaGreatDoorAm2
set_option linter.all false
set_option maxHeartbeats 40000000
set_option maxRecDepth 100000
section
namespace Go.Am
variable [bG]
theorem be.ints {g:Fz}:∀ {l:List Int} {l':List Value},be (FR g) (l.map (PV.int .i64)) l'→l'=l.map (Value.int .i64)
 |[],l',h=>h.iW
 |a::r,l',h=>by
  obtain⟨v',r',rfl,h1,h2⟩:=h.dw
  cases h1
  rw[be.ints h2];rfl
theorem be.L9 {g:Fz}:∀l:List Int,be (FR g) (l.map (PV.int .i64)) (l.map (Value.int .i64))
 |[]=>.nil
 |a::r=>.cons (.int _ _) (be.L9 r)
section
variable {P:Program} {vh:ai}
end
section
variable {P:Program} {N i j tI tN tB tE:Nat} {o1 o2 o3:Oper} {KE:Array Oper} {body:Code} {WZ W0:Nat}
end
inductive CV (w:World):PV→Value→Prop where
  |bool (b:Bool):CV w (.bool b) (.bool b)
  |int (k:IntKind) (n:Int):CV w (.int k n) (.int k n)
  |str (s:ByteArray):CV w (.str s) (.string s)
  |nilIface:CV w .nilIface .nilIface
  |fu:CV w (.vec []) (.slice none 0 0)
  |de (p:Addr) (k:Nat):CV w (.vec []) (.slice (some p) 0 k)
  |vec (es:List PV) (b off k sz:Nat) (cs:List Value) (hk:es.length≤k) (hl:es.length<ay) (h0:0<sz) (fp:∀e∈es,e.cells.length=sz) (hb:b<w.heap.size)
      (hc:∀(n:Nat) v',cs[n]?=some v'→w.cell? ⟨b,off+n,none⟩=some v') (hlen:cs.length=(es.flatMap PV.cells).length)
      (r:∀(n:Nat) v v',(es.flatMap PV.cells)[n]?=some v→cs[n]?=some v'→CV w v v'):CV w (.vec es) (.slice (some ⟨b,off,none⟩) es.length k)
  |agg (cs:List PV) (ar:Array Value) (hs:cs.length=ar.size) (r:∀(i:Nat) v v',cs[i]?=some v→ar[i]?=some v'→CV w v v'):CV w (.agg cs) (.agg ar)
structure mW (U:Mu) (h:ah) (aQ:Mu) (h':ah):Prop where
  le:U.le aQ
  sub:∀o x,h.get o=some x→h'.get o=some x
theorem mW.refl (U:Mu)(h:ah):mW U h U h:=⟨Mu.le_refl U,fun _ _ h=>h⟩
theorem mW.trans {U mX zM:Mu}{h h1 h2:ah}(a:mW U h mX h1)(b:mW mX h1 zM h2):mW U h zM h2:=⟨Mu.le_trans a.le b.le,fun o x hx=>b.sub o x (a.sub o x hx)⟩
def Uy (w:World)(v:PV)(v':Value):Prop:=
 ∀U h,Rel U h.next h w→∃aQ h' u,mW U h aQ h'∧Rel aQ h'.next h' w∧FR h'.get v u∧aj aQ u v'
theorem Hh {w:World}:∀ {l:List PV} {l':List Value},l.length=l'.length→(∀(i:Nat) v v',l[i]?=some v→l'[i]?=some v'→Uy w v v')→
  ∀U h,Rel U h.next h w→∃aQ h' us,mW U h aQ h'∧Rel aQ h'.next h' w∧be (FR h'.get) l us∧br aQ us l'
 |[],[],_,_,U,h,r=>⟨U,h,[],mW.refl U h,r,⟨rfl,fun i v v' hv=>by simp at hv⟩,.nil _⟩
 |[],_::_,hl,_,_,_,_=>by simp at hl
 |_::_,[],hl,_,_,_,_=>by simp at hl
 |x::l,x'::l',hl,hr,U,h,r=>by
  obtain⟨mX,h1,u,m1,r1,f1,v1⟩:=hr 0 x x' rfl rfl U h r
  obtain⟨zM,h2,us,m2,r2,f2,v2⟩:=Hh (l:=l) (l':=l') (by simpa using hl) (fun i v v' hv aW=>hr (i+1) v v' (by simpa using hv) (by simpa using aW)) mX h1 r1
  refine⟨zM,h2,u::us,m1.trans m2,r2,⟨by simp[f2.1],fun i v v' hv aW=>?_⟩,.cons (v1.mono m2.le) v2⟩
  cases i with
  |zero=>simp at hv aW;subst hv;subst aW;exact f1.mono m2.sub
  |succ i=>exact f2.2 i v v' (by simpa using hv) (by simpa using aW)
theorem zop {w:World}{U:Mu}{h:ah}(r:Rel U h.next h w){b off C:Nat}{us cs:List Value}(hb:b<w.heap.size)(hv:br U us cs)(hc:∀(n:Nat) v',cs[n]?=some v'→w.cell? ⟨b,off+n,none⟩=some v') :
  mW U h (U.put h.next (b,off,C)) (h.alloc (.cells 0 us))∧Rel (U.put h.next (b,off,C)) (h.alloc (.cells 0 us)).next (h.alloc (.cells 0 us)) w:=by
 have hle:=r.AX (b,off,C)
 refine⟨⟨hle,fun o x hx=>?_⟩,⟨fun o x hx=>?_,fun o o' x x' b1 a1 C1 a2 C2 hl hx=>?_,fun o x hx=>?_,fun o x b1 a1 C1 hl hx=>?_,Nat.le_refl _,⟨r.jE.gl,r.jE.ks,fun o x b1 a1 C1 hl hx=>absurd (ah.fJ hx) (by omega)⟩⟩⟩
 ·rw[ah.ij,if_neg (by have:=ah.fJ hx;omega)];exact hx
 ·rw[ah.ij] at hx
  by_cases ho:o=h.next
  ·simp[ho] at hx
   subst hx;subst ho
   refine⟨b,off,C,Mu.cz _ _ _,hb,fun i v hi=>?_,fun h=>absurd h (Nat.lt_irrefl _)⟩
   obtain⟨v',h1,h2⟩:=hv.2 i v hi
   exact⟨v',hc i v' h1,h2.mono hle⟩
  simp[ho] at hx
  obtain⟨b1,a1,C1,h1,h2⟩:=r.bg o x hx
  exact⟨b1,a1,C1,hle _ _ h1,h2.mono hle⟩
 ·have:=ah.fJ hx;omega
 ·by_cases ho:o=h.next
  ·subst ho;simp
  rw[Mu.iX _ ho] at hx
  have:=r.nE o x hx
  simp;omega
 have:=ah.fJ hx;omega
theorem CV.Uz {w:World}{v:PV}{v':Value}(hc:CV w v v'):Uy w v v':=by
 induction hc with
 |bool b=>exact fun U h r=>⟨U,h,_,.refl _ _,r,.bool b,.bool b⟩
 |int k n=>exact fun U h r=>⟨U,h,_,.refl _ _,r,.int k n,.int k n⟩
 |str s=>exact fun U h r=>⟨U,h,_,.refl _ _,r,.str s,.string s⟩
 |nilIface=>exact fun U h r=>⟨U,h,_,.refl _ _,r,.nilIface,.nilIface⟩
 |fu=>exact fun U h r=>⟨U,h,_,.refl _ _,r,.fu,.dK⟩
 |de p k=>exact fun U h r=>⟨U,h,_,.refl _ _,r,.de 0 0 dI,.bS _ _ _⟩
 |vec es b off k sz cs hk hl h0 fp hb kH hlen _ ih=>
  intro U h r
  obtain⟨mX,h1,us,m1,r1,f1,v1⟩:=Hh hlen.symm ih U h r
  have hx:∃C kk,gj C kk=k∧kk≤ay∧es.length≤kk:=by
   by_cases mH:k<ay
   ·exact⟨0,k,by simp[gj,mH],Nat.le_of_lt mH,hk⟩
   exact⟨k,ay,by simp[gj],Nat.le_refl _,Nat.le_of_lt hl⟩
  obtain⟨C,kk,e1,e2,e3⟩:=hx
  obtain⟨m2,r2⟩:=zop (C:=C) r1 hb v1 kH
  refine⟨_,_,.slice (some ⟨h1.next,0,none⟩) es.length kk,m1.trans m2,r2,?_,?_⟩
  ·refine .vec es h1.next 0 kk 0 sz us e3 ?_ (by rw[ah.ij];simp) h0 (fun i e he=>fp e (List.mem_of_getElem? he)) ?_ (fun i e j v v' he hv aW=>?_)
   ·simp only[ay] at hl e2;simp only[dI];omega
   ·have:=f1.1
    rw[Ao fp] at this
    omega
   exact(Fc (R:=FR h1.get) fp f1 i e j v v' he hv (by simpa using aW)).mono m2.sub
  have:=aj.slice (U:=mX.put h1.next (b,off,C)) h1.next 0 es.length kk b off C (Mu.cz _ _ _) (by rw[e1];exact hk) (by simp only[ay] at e2;simp only[dI];omega)
  rw[e1] at this
  exact this
 |agg cs ar hs _ ih=>
  intro U h r
  obtain⟨mX,h1,us,m1,r1,f1,v1⟩:=Hh (l':=ar.toList) (by simpa using hs) (fun i v v' hv aW=>ih i v v' hv (by simpa using aW)) U h r
  refine⟨mX,h1,.agg us.toArray,m1,r1,.agg cs us.toArray (by simpa using f1.1) (fun i v v' hv aW=>f1.2 i v v' hv (by simpa using aW)),?_⟩
  refine .agg us.toArray ar (by have:=v1.1;simpa using this) (fun i hi dJ=>?_)
  obtain⟨u',k1,k2⟩:=v1.2 i us[i] (by simp at hi ⊢)
  have:ar[i]=u':=by simpa[dJ] using k1
  rw[this];simpa using k2
def x7 (w w':World):Prop:=Calm w w'∧w.heap.size≤w'.heap.size∧∀b,b<w.heap.size→w'.heap[b]?=w.heap[b]?
theorem aN.enter {P:Program}{f:FuncId}{args:List PV}{t:Bool}(hp:aN P f args fun r=>r=.bool t){w:World}(pS:∀b,b<bG.K→w.heap[b]?=bG.obj b)(NM:bG.K≤w.heap.size){a6:Array Value}(hl:args.length=a6.size)
  (ha:∀(i:Nat) v v',args[i]?=some v→a6[i]?=some v'→CV w v v'):Calls P f a6 w fun e w'=>e=.returned (.bool t)∧x7 w w':=by
 have e0:∀o x,ah.empty.get o=some x→False:=fun o x hx=>by rw[ah.N9] at hx;cases hx
 have r0:Rel (fun _=>none) ah.empty.next ah.empty w:=⟨fun o x hx=>(e0 o x hx).elim,fun o o' x x' b a C a' C' _ hx=>(e0 o x hx).elim,fun o x hx=>(by cases hx),fun o x b a C _ hx=>(e0 o x hx).elim,Nat.le_refl _,⟨pS,NM,fun o x b a C _ hx=>(e0 o x hx).elim⟩⟩
 obtain⟨U,h,us,m,r,f1,v1⟩:=Hh (l':=a6.toList) (by simpa using hl) (fun i v v' hv aW=>(ha i v v' hv (by simpa using aW)).Uz) _ _ r0
 have hc:mG P h.next f us h _:=hp h.next h.get (fun _=>(0,0,0)) h us ⟨f1.1,fun i v v' hv aW=>.fr _ _ (f1.2 i v v' hv aW)⟩ (VS.none (fun _ _ hx=>hx) (Nat.le_refl _) _)
 refine Calls.mono (callsIn_wide.1 (hc Fence.wide OI rfl 0 U w a6 v1 r)) fun e w' ⟨r',v,h',aQ,k1,k2,k3,k4,g',aO,pv,ak,k5,_,_,_,_,_,_,k6,k7⟩=>?_
 subst k7
 cases k5 with
 |fr _ _ hf=>
  cases hf
  cases k2
  exact⟨k1,k4.calm,k4.size,fun b hb=>k4.kept b hb (by rintro⟨o,x,a,C,g1,g2,_⟩;have:=ah.fJ g2;omega)⟩
section
variable {H:Type} {bx:TypeId×Value→H} {P:Program} {w:World}
def Reads (bx:TypeId×Value→H)(P:Program)(w:World)(t:TypeId)(Q:PV→Prop):Prop:=
 ∀n cs x,DataW.trod bx P w 0 (fun _=>true) true n t cs=some x→(∀m∈x.1.weights P t,m≤reachBytes)→∃p:PV,p.cells.length=P.cellsOf t∧be (CV w) p.cells cs∧Q p
theorem Reads.mono {t:TypeId}{Q Q':PV→Prop}(h:Reads bx P w t Q)(hq:∀p,Q p→Q' p):Reads bx P w t Q':=fun n cs x hx hm=>let ⟨p,h1,h2,h3⟩:=h n cs x hx hm;⟨p,h1,h2,hq p h3⟩
theorem zyi {t:TypeId}{k:IntKind}(ht:P.underlying t=some (.int k))(hc:P.cellsOf t=1):Reads bx P w t fun p=>∃n,p=.int k n∧(Lit.int k n).wf=true:=by
 intro n cs x hx _
 cases n with
 |zero=>simp[DataW.trod] at hx
 |succ n=>
  unfold DataW.trod at hx
  rw[ht] at hx
  split at hx<;>simp_all
  obtain⟨⟨rfl,hw⟩,_⟩:=hx
  exact⟨_,rfl,.cons (.int _ _) .nil,_,rfl,hw⟩
theorem zry {e:TypeId}{l:List (DataW H)}{d:DataW H}(hd:d∈l):∀m∈d.weights P e,m∈DataW.weightsAll P e l:=by
 induction l with
 |nil=>cases hd
 |cons a r ih=>
  intro m hm
  simp only[DataW.weightsAll,List.mem_append]
  rcases List.mem_cons.1 hd with rfl|hd
  ·exact .inl hm
  exact .inr (ih hd m hm)
theorem zxg {a:Addr}{v:Value}(h:w.cell? a=some v):a.spot=none:=by
 cases hs:a.spot with
 |none=>rfl
 |some s=>
  simp only[World.cell?] at h
  split at h
  ·simp[hs] at h
  cases h
theorem zqn {t e:TypeId}{Q:PV→Prop}(ht:P.underlying t=some (.slice e))(hc:P.cellsOf t=1)(h0:0<P.cellsOf e)(nQ:0<P.bytesOf e)(he:Reads bx P w e Q) :
  Reads bx P w t fun p=>∃es,p=.vec es∧(∀x∈es,Q x)∧es.length<ay∧es.length*P.bytesOf e≤reachBytes:=by
 intro n cs x hx hm
 rcases DataW.trod_slice ht hx with⟨rfl,rfl⟩|⟨a,len,cap,elems,rest,n',_,rfl,rfl,_,zO,_,hlen,lf,_,_⟩
 ·exact⟨.vec [],by rw[hc];rfl,.cons .fu .nil,[],rfl,fun x h=>(by cases h),by decide,by simp⟩
 simp only[DataW.weights,ht] at hm
 have mn:len*P.bytesOf e≤reachBytes:=by
  have:=hm _ (List.mem_cons_self ..)
  simp only[List.length_map,hlen] at this
  exact Nat.le_trans (Nat.mul_le_mul_right _ (Nat.le_add_right _ _)) this
 have hbound:len<ay:=by
  have:=hm _ (List.mem_cons_self ..)
  simp only[List.length_map,hlen] at this
  have h2:len≤(len+rest.length)*P.bytesOf e:=Nat.le_trans (Nat.le_add_right _ _) (Nat.le_mul_of_pos_right _ nQ)
  have:=reachBytes_lt
  simp only[ay];omega
 rcases Nat.eq_zero_or_pos len with xJ|yj
 ·subst xJ
  exact⟨.vec [],by rw[hc];rfl,.cons (.de a cap) .nil,[],rfl,fun x h=>(by cases h),by decide,by simp⟩
 have NN:∀i,i<len→∃c y,w.cells? 0 (a.add (i*P.cellsOf e)) (P.cellsOf e)=some c∧DataW.trod bx P w 0 (fun _=>true) true n' e c=some y∧elems[i]?=some y:=fun i hi=>by
  have h1:=lf i hi
  rw[List.getElem?_eq_getElem (by omega)] at h1
  obtain⟨c,h2,h3⟩:=Option.bind_eq_some_iff.1 h1
  exact⟨c,_,h2,h3,by rw[List.getElem?_eq_getElem (by omega)]⟩
 have AR:a.spot=none:=by
  obtain⟨c,y,h1,_,_⟩:=NN 0 yj
  obtain⟨_,h2,h3⟩:=World.cells?_some h1
  have h4:=h3 0 h0
  rw[List.getElem?_eq_getElem (by omega)] at h4
  have:=zxg h4
  simpa[Addr.add] using this
 obtain⟨b,off,sp⟩:=a
 simp only at AR
 subst AR
 have build:∀m,m≤len→∃(es:List PV) (cc:List Value),es.length=m∧(∀p∈es,p.cells.length=P.cellsOf e∧Q p)∧be (CV w) (es.flatMap PV.cells) cc∧(∀(k:Nat) v',cc[k]?=some v'→w.cell? ⟨b,off+k,none⟩=some v'):=by
  intro m
  induction m with
  |zero=>exact fun _=>⟨[],[],rfl,fun p h=>(by cases h),.nil,fun k v' h=>by simp at h⟩
  |succ m ih=>
   intro cq
   obtain⟨es,cc,h1,h2,h3,h4⟩:=ih (by omega)
   obtain⟨c,y,k1,k2,k3⟩:=NN m (by omega)
   obtain⟨p,p1,p2,p3⟩:=he n' c y k2 (fun q hq=>hm q (List.mem_cons_of_mem _ (List.mem_append_left _ (zry (List.mem_map.2 ⟨y,List.mem_of_getElem? k3,rfl⟩) q hq))))
   obtain⟨_,g2,g3⟩:=World.cells?_some k1
   have uI:cc.length=m*P.cellsOf e:=by rw[← h3.1,Ao (fun x hx=>(h2 x hx).1),h1]
   refine⟨es++[p],cc++c,by simp[h1],fun x hx=>?_,by simpa using h3.append p2,fun k v' hk=>?_⟩
   ·rcases List.mem_append.1 hx with hx|hx
    ·exact h2 x hx
    simp at hx;subst hx;exact⟨p1,p3⟩
   by_cases hkc:k<cc.length
   ·rw[List.getElem?_append_left hkc] at hk;exact h4 k v' hk
   rw[List.getElem?_append_right (by omega)] at hk
   have aY:=(List.getElem?_eq_some_iff.1 hk).1
   have:=g3 (k - cc.length) (by omega)
   rw[rU,rU,hk] at this
   rw[← this]
   congr 2
   omega
 obtain⟨es,cc,h1,h2,h3,h4⟩:=build len (Nat.le_refl _)
 have hb:b<w.heap.size:=by
  obtain⟨c,y,k1,_,_⟩:=NN 0 yj
  have:=World.cells?_block k1 h0
  simpa[Addr.add] using this
 refine⟨.vec es,by rw[hc];rfl,.cons ?_ .nil,es,rfl,fun x hx=>(h2 x hx).2,by omega,by rw[h1];exact mn⟩
 subst h1
 exact .vec es b off cap (P.cellsOf e) cc zO hbound h0 (fun p hp=>(h2 p hp).1) hb h4 h3.1.symm (fun k v v' hv aW=>h3.2 k v v' hv aW)
theorem Jg {t e:TypeId}{Q:PV→Prop}(ht:P.underlying t=some (.slice e))(hc:P.cellsOf t=1)(h0:0<P.cellsOf e)(nQ:0<P.bytesOf e)(he:Reads bx P w e Q) :
 Reads bx P w t fun p=>∃es,p=.vec es∧(∀x∈es,Q x)∧es.length<ay:=(zqn ht hc h0 nQ he).mono fun p ⟨es,h1,h2,h3,_⟩=>⟨es,h1,h2,h3⟩
def total (P:Program):List Field→Nat
 |[]=>0
 |f::r=>P.cellsOf f.type+total P r
def zz (P:Program):Nat→List Field→Bool
 |_,[]=>true
 |off,f::r=>decide (f.offset=off)&&zz P (off+P.cellsOf f.type) r
theorem UA {n:Nat}{cs:List Value}:∀(fs:List Field) (off:Nat) (Qs:List (PV→Prop)) (xs:List (DataW H×List MemPlace)),fs.length=Qs.length→(∀(i:Nat) f Q,fs[i]?=some f→Qs[i]?=some Q→Reads bx P w f.type Q)→zz P off fs=true→
  xs.length=fs.length→off+total P fs≤cs.length→
  (∀(i:Nat) (f:Field),fs[i]?=some f→DataW.trod bx P w 0 (fun _=>true) true n f.type ((cs.drop f.offset).take (P.cellsOf f.type))=xs[i]?)→
  (∀m∈DataW.weightsEach P (fs.map (·.type)) (xs.map (·.1)),m≤reachBytes)→
  ∃ps:List PV,ps.length=fs.length∧(ps.flatMap PV.cells).length=total P fs∧be (CV w) (ps.flatMap PV.cells) ((cs.drop off).take (total P fs))∧∀(i:Nat) Q p,Qs[i]?=some Q→ps[i]?=some p→Q p
 |[],off,Qs,xs,hQ,_,_,_,_,_,_=>⟨[],rfl,rfl,by simp only[total,List.take_zero];exact .nil,fun i Q p _ hp=>by simp at hp⟩
 |f::fs,off,[],xs,hQ,_,_,_,_,_,_=>by simp at hQ
 |f::fs,off,Q::Qs,[],_,_,_,hx,_,_,_=>by simp at hx
 |f::fs,off,Q::Qs,x::xs,hQ,hr,Em,hx,wU,UB,hm=>by
  simp only[zz,bV,decide_eq_true_eq] at Em
  obtain⟨ho,Em⟩:=Em
  simp only[total] at wU
  simp only[List.map_cons,DataW.weightsEach,List.mem_append] at hm
  have t0:=UB 0 f rfl
  simp only[List.getElem?_cons_zero] at t0
  obtain⟨p,p1,p2,p3⟩:=hr 0 f Q rfl rfl n _ x t0 (fun m h=>hm m (.inl h))
  obtain⟨ps,h1,h2,h3,h4⟩:=UA (n:=n) (cs:=cs) fs (off+P.cellsOf f.type) Qs xs (by simpa using hQ) (fun i f Q hf hq=>hr (i+1) f Q (by simpa using hf) (by simpa using hq)) Em (by simpa using hx) (by omega)
   (fun i f' hf=>by have:=UB (i+1) f' (by simpa using hf);simpa using this) (fun m h=>hm m (.inr h))
  refine⟨p::ps,by simp[h1],by simp[total,h2,p1],?_,fun i Q' p' hq hp=>?_⟩
  ·have e1:(cs.drop off).take (total P (f::fs))=(cs.drop f.offset).take (P.cellsOf f.type)++(cs.drop (off+P.cellsOf f.type)).take (total P fs):=by
    subst ho
    rw[total,List.take_add,List.drop_drop]
   rw[e1,List.flatMap_cons]
   exact p2.append h3
  cases i with
  |zero=>simp at hq hp;subst hq;subst hp;exact p3
  |succ i=>exact h4 i Q' p' (by simpa using hq) (by simpa using hp)
theorem GW {t:TypeId}{fs:Array Field}(Qs:List (PV→Prop))(ht:P.underlying t=some (.struct fs))(hQ:fs.toList.length=Qs.length)(hr:∀(i:Nat) f Q,fs.toList[i]?=some f→Qs[i]?=some Q→Reads bx P w f.type Q)
  (Em:zz P 0 fs.toList=true) (wU:total P fs.toList=P.cellsOf t):Reads bx P w t fun p=>∃ps:List PV,p=.agg (ps.flatMap PV.cells)∧ps.length=Qs.length∧∀(i:Nat) Q p,Qs[i]?=some Q→ps[i]?=some p→Q p:=by
 intro n cs x hx hm
 obtain⟨xs,n',_,rfl,hl,hlen,hf⟩:=DataW.trod_struct ht hx
 simp only[DataW.weights,ht] at hm
 obtain⟨ps,h1,h2,h3,h4⟩:=UA (n:=n') (cs:=cs) fs.toList 0 Qs xs hQ hr Em (by simpa using hlen) (by rw[wU];omega) (fun i f pL=>hf i f (by simpa using pL)) hm
 refine⟨.agg (ps.flatMap PV.cells),by rw[← wU];exact h2,?_,ps,rfl,by rw[h1,hQ],h4⟩
 have e:(cs.drop 0).take (total P fs.toList)=cs:=by rw[wU,← hl];simp
 rw[e] at h3
 exact h3
end
open Go.ChangeShapes Go.WideShapes
section
variable {H:Type} {bx:TypeId×Value→H} {P:Program} {w w':World}
theorem x7.sameAt (u:x7 w w'){p:MemPlace}(hp:p.block<w.heap.size):w.sameAt w' p:=by
 cases p with
 |cell b off=>exact AV (u.2.2 b hp)
 |map b=>exact u.2.2 b hp
theorem x7.keptBut (u:x7 w w')(may:MemPlace→Prop):w.keptBut w' may:=by
 refine⟨u.1.1,u.1.2,fun i hi=>?_⟩
 rw[u.2.2 i hi]
 cases w.heap[i]? with
 |none=>rfl
 |some o=>cases o<;>first|exact⟨rfl,rfl,rfl,fun _ _=>rfl⟩|exact .inr ⟨rfl,rfl⟩|rfl
theorem UC {base:Nat}{spare:Nat→Bool}{held:Bool}:∀ {ts:List TypeId} {vs:List Value} {ds:List (DataW H)} {ps:List MemPlace},DataW.TrodAll bx P w base spare held ts vs ds ps→(∀p∈ps,w.sameAt w' p)→
  DataW.TrodAll bx P w' base spare held ts vs ds ps
 |[],_,_,_,h,_=>by
  obtain⟨rfl,rfl,rfl⟩:=trodAll_nil h
  exact trodAll_mk0
 |_::_,_,_,_,h,hs=>by
  obtain⟨v,vs1,d,ds1,a,b,rfl,rfl,rfl,⟨n,h1⟩,h2⟩:=trodAll_cons h
  exact⟨a,b,⟨n,DataW.trod_carry n _ _ _ h1 (fun p hp=>hs p (List.mem_append_left _ hp))⟩,UC h2 (fun p hp=>hs p (List.mem_append_right _ hp)),rfl⟩
theorem zm8 {T:TypeId→Prop}(K:Kids P T)(hz:∀t e,T t→P.underlying t=some (.slice e)→0<P.cellsOf e){f:Func}(hT:∀t∈f.params.toList,T t){s:ChangeSpec}{apart fresh handsOn:Bool}{args:Array Value}{v:Value}
  {ds gs:List (DataW H)} {before:List MemPlace} (hW:DataW.Whole bx P f.params.toList s.vars apart w args.toList ds gs before) (pH:s.vars=[])
  (yW:∀(b:Nat) (sp:Nat→Bool) (hd:Bool),DataW.TrodAll bx P w' b sp hd f.resultTypes.toList (v.resultList f.resultTypes.size) (s.fn H (ds++gs)).results [])
  (gJ:(s.fn H (ds++gs)).args=ds) (hv:(s.fn H (ds++gs)).vars=[]) (hu:x7 w w'):s.post bx P f apart fresh handsOn false w args v w':=by
 have aY:=hW.lt
 refine⟨ds,gs,before,[],before,[],hW,yW _ _ _,?_,by rw[pH,hv];rfl,hu.keptBut _,fun h=>by cases h⟩
 obtain⟨p,q,h1,h2,rfl,_,_⟩:=hW
 rw[pH] at h2
 obtain⟨_,rfl⟩:=trodVars_none h2
 rw[List.append_nil] at aY ⊢
 rw[gJ]
 exact DataW.TrodAll.respare K hz hT (UC h1 (fun x hx=>hu.sameAt (aY x hx))) (fun x hx=>by simpa using aY x hx)
def xV (bx:TypeId×Value→H)(P:Program)(w:World)(base:Nat)(t:TypeId)(Q:PV→Prop):Prop:=
 ∀v d p,Value.okWide P w .any base t v→DataW.Trod bx P w 0 (fun _=>true) true t v d p→(∀m∈d.weights P t,m≤reachBytes)→∃pv:PV,CV w pv v∧Q pv
theorem UD {base:Nat}{t:TypeId}{Q:PV→Prop}(hv:∀v,Value.okWide P w .any base t v→v.cells=#[v])(hq:∀p,Q p→p.cells=[p])(hr:Reads bx P w t Q):xV bx P w base t Q:=by
 intro v d p fP ⟨n,hn⟩ hm
 obtain⟨pv,_,h2,h3⟩:=hr n _ _ hn hm
 rw[hq pv h3,hv v fP] at h2
 exact⟨pv,h2.2 0 _ _ rfl rfl,h3⟩
theorem zy6 {base:Nat}{t:TypeId}{k:IntKind}{Q:PV→Prop}(ht:P.underlying t=some (.int k))(hq:∀p,Q p→p.cells=[p])(hr:Reads bx P w t Q):xV bx P w base t Q:=
 UD (fun v h=>by obtain⟨n,rfl⟩:=okWide_int ht h;rfl) hq hr
theorem zq4 {base:Nat}{t e:TypeId}{Q:PV→Prop}(ht:P.underlying t=some (.slice e))(hq:∀p,Q p→p.cells=[p])(hr:Reads bx P w t Q):xV bx P w base t Q:=
 UD (fun v h=>by obtain⟨a,l,c,rfl⟩:=okWide_slice ht h;rfl) hq hr
theorem SE {base:Nat}{t:TypeId}{fs:Array Field}{Q:PV→Prop}(ht:P.underlying t=some (.struct fs))(hq:∀p,Q p→∃cs,p=.agg cs)(hr:Reads bx P w t Q):xV bx P w base t Q:=by
 intro v d p fP ⟨n,hn⟩ hm
 obtain⟨cs,rfl,_⟩:=okWide_struct ht fP
 obtain⟨pv,_,h2,h3⟩:=hr n _ _ hn hm
 obtain⟨ps,rfl⟩:=hq pv h3
 exact⟨_,.agg ps cs (by have:=h2.1;simpa[PV.cells,Value.cells] using this) (fun i v v' hv aW=>h2.2 i v v' hv (by simpa[Value.cells] using aW)),h3⟩
theorem UE {base:Nat}:∀ {ts:List TypeId} (Qs:List (PV→Prop)) {vs:List Value} {ds:List (DataW H)} {ps:List MemPlace},ts.length=Qs.length→(∀(i:Nat) t Q,ts[i]?=some t→Qs[i]?=some Q→xV bx P w base t Q)→
  (∀(i:Nat) t v,ts[i]?=some t→vs[i]?=some v→Value.okWide P w .any base t v)→DataW.TrodAll bx P w 0 (fun _=>true) true ts vs ds ps→(∀m∈DataW.weightsEach P ts ds,m≤reachBytes)→
  ∃tj:List PV,tj.length=Qs.length∧be (CV w) tj vs∧∀(i:Nat) Q p,Qs[i]?=some Q→tj[i]?=some p→Q p
 |[],[],_,_,_,_,_,_,h,_=>by
  obtain⟨rfl,rfl,rfl⟩:=trodAll_nil h
  exact⟨[],rfl,.nil,fun i Q p _ hp=>by simp at hp⟩
 |[],_::_,_,_,_,hl,_,_,_,_=>by simp at hl
 |_::_,[],_,_,_,hl,_,_,_,_=>by simp at hl
 |t::ts,Q::Qs,_,_,_,hl,ha,fP,h,hm=>by
  obtain⟨v,vs1,d,ds1,a,b,rfl,rfl,rfl,h1,h2⟩:=trodAll_cons h
  simp only[DataW.weightsEach,List.mem_append] at hm
  obtain⟨p,k1,k2⟩:=ha 0 t Q rfl rfl v d a (fP 0 t v rfl rfl) h1 (fun m hx=>hm m (.inl hx))
  obtain⟨tj,k3,k4,k5⟩:=UE (base:=base) Qs (by simpa using hl) (fun i t Q ht hq=>ha (i+1) t Q (by simpa using ht) (by simpa using hq)) (fun i t v ht hv=>fP (i+1) t v (by simpa using ht) (by simpa using hv)) h2 (fun m hx=>hm m (.inr hx))
  refine⟨p::tj,by simp[k3],k4.cons k1,fun i Q' p' hq hp=>?_⟩
  cases i with
  |zero=>simp at hq hp;subst hq;subst hp;exact k2
  |succ i=>exact k5 i Q' p' (by simpa using hq) (by simpa using hp)
theorem zqd {T:TypeId→Prop}(K:Kids P T)(hz:∀t e,T t→P.underlying t=some (.slice e)→0<P.cellsOf e){UF:FuncId}{f:Func}(hT:∀t∈f.params.toList,T t){tb:TypeId}(hb:P.underlying tb=some .bool)(bj:f.resultTypes=#[tb])
  {s:ChangeSpec} (pH:s.vars=[]) {base:Nat} {args:Array Value} {ds gs:List (DataW H)} {before:List MemPlace}
  (wN:∀(j:Nat) t v,f.params[j]?=some t→args[j]?=some v→Value.okWide P w .any base t v) (hW:DataW.Whole bx P f.params.toList s.vars false w args.toList ds gs before)
  (fp:(DataW.weightsEach P (f.params.toList++s.plain.varTypes P) (ds++gs)).all (·≤reachBytes)=true) (hvt:s.plain.varTypes P=[])
  (Hi:∀l:List (DataW H),l.length=f.params.toList.length→s.fn H l={ results:=[.lit (.bool true)],args:=l })
  (Qs:List (PV→Prop)) (hQ:f.params.toList.length=Qs.length) (ha:∀(i:Nat) t Q,f.params.toList[i]?=some t→Qs[i]?=some Q→xV bx P w base t Q)
  (pS:∀b,b<bG.K→w.heap[b]?=bG.obj b) (NM:bG.K≤w.heap.size)
  (walk:∀tj:List PV,tj.length=Qs.length→(∀(i:Nat) Q p,Qs[i]?=some Q→tj[i]?=some p→Q p)→aN P UF tj fun r=>r=.bool true) :
  Calls P UF args w fun e w'=>∃v,e=.returned v∧s.post bx P f false true false false w args v w':=by
 have hW':=hW
 obtain⟨p,q,h1,h2,rfl,_,_⟩:=hW
 rw[pH] at h2
 obtain⟨rfl,rfl⟩:=trodVars_none h2
 rw[hvt,List.append_nil,List.append_nil] at fp
 have uJ:ds.length=f.params.toList.length:=by
  have:∀ {ts:List TypeId} {vs:List Value} {ds:List (DataW H)} {ps:List MemPlace},DataW.TrodAll bx P w 0 (fun _=>true) true ts vs ds ps→ds.length=ts.length:=by
   intro ts
   induction ts with
   |nil=>intro vs ds ps h;obtain⟨_,rfl,_⟩:=trodAll_nil h;rfl
   |cons t ts ih=>intro vs ds ps h;obtain⟨_,_,_,_,_,_,_,rfl,_,_,h⟩:=trodAll_cons h;simp[ih h]
  exact this h1
 obtain⟨tj,k1,k2,k3⟩:=UE (base:=base) Qs hQ ha (fun i t v ht hv=>wN i t v (by simpa using ht) (by simpa using hv)) h1 (fun m hm=>by simpa using List.all_eq_true.1 fp m hm)
 refine((walk tj k1 k3).enter (w:=w) pS NM (a6:=args) (by have:=k2.1;simpa using this) (fun i v v' hv aW=>k2.2 i v v' hv (by simpa using aW))).mono fun e w' ⟨he,hu⟩=>⟨_,he,?_⟩
 have hs:=Hi (ds++[]) (by simpa using uJ)
 refine zm8 K hz hT hW' pH (fun b sp hd=>?_) (by rw[hs];simp) (by rw[hs]) hu
 rw[hs,bj]
 exact trodAll_mk1 (v:=.bool true) (p:=[]) ⟨1,by simp[Value.cells,DataW.trod,hb]⟩
end
def ai.back (vh:ai)(i:Nat)(x:aL):ai:=⟨vh.next,(i,x)::vh.bg⟩
theorem ai.uz (vh:ai)(i j:Nat)(x:aL):(vh.back i x).get j=if j=i then some x else vh.get j:=by
 simp only[ai.get,ai.back,bs,beq_eq]
 by_cases h:j=i<;>simp[h]
section
variable {P:Program} {N b:Nat} {Q:ie} {ae:aX} {vh:ai} {lo:Nat} {g:Fz} {σ:Sg} {h:ah}
theorem dG.back {N0:Nat}{bc:aI}{h':ah}{g':Fz}{aO:Sg}{aS:aX}{ak:ai}(s:VS lo g σ vh h){i:Nat}{x x':aL}{y:a7}(hx:vh.get i=some x)(hl:x.live=true)
  (a:dG N0 vh.next lo g σ (vh.drop i) (h.put (σ i).1 none) bc h' g' aO aS ak) (tt:rj g' aO ak.next (h'.put (σ i).1 (some y)) i x') :
  VS lo g' aO (ak.back i x') (h'.put (σ i).1 (some y))∧VF σ vh h aO (ak.back i x') (h'.put (σ i).1 (some y))∧dQ g σ vh h g':=by
 have aY:=(s.obj i x hx).2.lt hl
 have hi:=(s.obj i x hx).1
 have cu:aO i=σ i:=a.agree i hi
 have rV:(σ i).1<h'.next:=Nat.lt_of_lt_of_le aY a.f.next
 have fW:∀j z,ak.get j=some z→z.live=true→(aO j).1≠(σ i).1:=fun j z hz bW he=>by
  obtain⟨k,u,k1,k2,k3⟩:=a.f.own j z hz bW (by rw[he];exact aY)
  obtain⟨k4,k5⟩:=jX k1
  exact k4 (s.inj k i u x k5 hx k2 hl (k3.trans he))
 have xL:g' (σ i).1=none:=by
  cases hg:g' (σ i).1 with
  |none=>rfl
  |some z=>
   rcases a.own _ z hg aY with h1|⟨k,u,k1,k2,k3⟩
   ·rw[s.jf i x hx hl] at h1;cases h1
   obtain⟨k4,k5⟩:=jX k1
   exact absurd (s.inj k i u x k5 hx k2 hl k3) k4
 have pw:∀p,(h'.put (σ i).1 (some y)).get p=if p=(σ i).1 then some y else h'.get p:=fun p=>ah.dH _ _ _ _ rV
 refine⟨⟨fun j z hz=>?_,fun j k z u hz hu bW qQ he=>?_,fun j z hz bW=>?_,fun p z hz=>?_,fun j z hz bW=>?_,a.s.bI⟩,⟨a.f.next,fun p hp hn=>?_,fun j z hz bW mV=>?_⟩,fun p z hz hp=>?_⟩
 ·rw[ai.uz] at hz
  by_cases hj:j=i
  ·subst hj;simp at hz;subst hz;exact⟨Nat.lt_of_lt_of_le hi a.base,tt⟩
  simp[hj] at hz
  obtain⟨k1,k2⟩:=a.s.obj j z hz
  exact⟨k1,k2.mono (Fz.le_refl g') (Nat.le_refl _) (fun _ _=>rfl) k1 fun bW=>by rw[pw,if_neg (fW j z hz bW)]⟩
 ·rw[ai.uz] at hz hu
  by_cases hj:j=i<;>by_cases hk:k=i
  ·rw[hj,hk]
  ·simp[hk] at hu;subst hj;rw[cu] at he;exact absurd he.symm (fW k u hu qQ)
  ·simp[hj] at hz;subst hk;rw[cu] at he;exact absurd he (fW j z hz bW)
  simp[hj] at hz;simp[hk] at hu;exact a.s.inj j k z u hz hu bW qQ he
 ·rw[ai.uz] at hz
  by_cases hj:j=i
  ·subst hj;rw[cu];exact s.low j x hx hl
  simp[hj] at hz;exact a.s.low j z hz bW
 ·rw[pw,if_neg (by rintro rfl;rw[xL] at hz;cases hz)];exact a.s.fz p z hz
 ·rw[ai.uz] at hz
  by_cases hj:j=i
  ·subst hj;rw[cu];exact xL
  simp[hj] at hz;exact a.s.jf j z hz bW
 ·have En:p≠(σ i).1:=fun he=>hn i x hx hl he.symm
  rw[pw,if_neg En,a.f.fM p hp fun j z hz bW=>hn j z (jX hz).2 bW,ah.dH _ _ _ _ aY,if_neg En]
 ·rw[ai.uz] at hz
  by_cases hj:j=i
  ·subst hj;exact⟨j,x,hx,hl,by rw[cu]⟩
  simp[hj] at hz
  obtain⟨k,u,k1,k2,k3⟩:=a.f.own j z hz bW mV
  exact⟨k,u,(jX k1).2,k2,k3⟩
 rcases a.own p z hz hp with h1|⟨k,u,k1,k2,k3⟩
 ·exact .inl h1
 exact .inr ⟨k,u,(jX k1).2,k2,k3⟩
def pg (ae:aX):List (Tmp×PV)→aX
 |[]=>ae
 |(t,v)::r=>pg ((t,v)::ae) r
theorem Ny {n:Nat}:∀ {ps:List Tmp} {l:List PV} {l':List Value} {ae:aX} {ts:aI},VT g σ n ae ts→be (VR g σ n) l l'→(∀t∈ps,t<ts.length)→
  VT g σ n (pg ae (ps.zip l)) (ri ts (ps.zip l'))∧(ri ts (ps.zip l')).length=ts.length
 |[],_,_,_,_,ht,_,_=>by exact⟨by simpa[pg,ri] using ht,by simp[ri]⟩
 |p::ps,[],l',ae,ts,ht,hl,_=>by
  have:=hl.iW;subst this
  exact⟨by simpa[pg,ri] using ht,by simp[ri]⟩
 |p::ps,v::l,l',ae,ts,ht,hl,hp=>by
  obtain⟨v',r',rfl,h1,h2⟩:=hl.dw
  simp only[List.zip_cons_cons,pg,ri]
  have aY:=hp p List.mem_cons_self
  obtain⟨k1,k2⟩:=Ny (ps:=ps) (l:=l) (l':=r') (ae:=(p,v)::ae) (ts:=ts.set p v') (fun t u hu=>by
   simp only[cm,beq_eq] at hu
   by_cases NO:t=p
   ·subst NO;simp at hu;subst hu
    rw[List.getD_eq_getElem?_getD,List.getElem?_set_self aY];exact h1
   simp[NO] at hu
   rw[List.getD_eq_getElem?_getD,List.getElem?_set_ne (fun h=>NO h.symm),← List.getD_eq_getElem?_getD];exact ht t u hu) h2 (fun t hm=>by simp;exact hp t (List.mem_cons_of_mem _ hm))
  exact⟨k1,by simpa using k2⟩
def z6f (N0:Nat)(ps:Array Tmp)(assign body:Code)(cY:aX)(i:Nat)(K:Bool→ai→Prop):ie
 |.normal,_,ak=>K true (ak.back i (.loop N0 ps assign body cY none))
 |.ret,_,ak=>K false (ak.back i (.loop N0 ps assign body cY (some .ret)))
 |.exit id,_,ak=>K false (ak.back i (.loop N0 ps assign body cY (some (.exit id))))
 |_,_,_=>False
theorem kI.yield {o:Oper}{fo:Operand}{args:Array Operand}{aT:Array TypeId}{i N0:Nat}{ps:Array Tmp}{assign body:Code}{cY:aX}{l:List PV}{next:aX→ai→Prop}(ho:o.op=.call ⟨.value fo,args,aT⟩)
  (hf:cN ae fo=some (.bw i)) (hl:jL ae args.toList=some l) (hg:vh.get i=some (.loop N0 ps assign body cY none)) (hlen:l.length=ps.size) (fy:ps.toList.all (Nat.blt · N0)=true) (hd:gB N o.dst=true)
  (hc:VW P N0 vh.next assign (zB (VW P N0 vh.next body (z6f N0 ps assign body cY i fun bb ak=>next (bZ ae o.dst (.bool bb)) ak)) (fun _ _ _=>False)) (pg cY (ps.toList.zip l)) (vh.drop i)) :
  kI P N b o next ae vh:=fun lo g σ h ts ht hn s hb=>by
 obtain⟨f',k1,k2⟩:=eH ht hf
 obtain⟨l',k3,k4⟩:=yI ht hl
 obtain⟨hi,L,q1,q2,q3,q4,q5,q6⟩:=s.obj i _ hg
 have G1:f'=.func (.yield (σ i).1) #[] #[]:=by
  cases k2 with
  |fr _ _ h=>cases h
  |bw _ o a k dJ hs=>rw[hs]
 subst G1
 subst q2;subst q3;subst q4
 have da:aL.live (.loop N0 L.params L.assign L.body cY none)=true:=rfl
 obtain⟨sk,_⟩:=s.kill hg da
 have il:∀t∈L.params.toList,t<L.ts.length:=fun t E4=>by
  rw[List.all_eq_true] at fy
  rw[q5];simpa using fy t E4
 obtain⟨e1,e2⟩:=Ny (g:=g) (σ:=σ) (n:=vh.next) (ps:=L.params.toList) q6 k4 il
 refine .yield ho k1 k3 q1 (s.low i _ hg da) (by rw[← hlen,k4.1]) ?_
 have run:=hc lo g σ (h.put (σ i).1 none) _ e1 (e2.trans q5) sk (Nat.le_refl _)
 have fin:∀(jump:Option Code) (me:aI) (h2:ah) (g2:Fz) (dq:Sg) (ax:aX) (aP:ai),dG N0 vh.next lo g σ (vh.drop i) (h.put (σ i).1 none) me h2 g2 dq ax aP→
   next (bZ ae o.dst (.bool jump.isNone)) (aP.back i (.loop N0 L.params L.assign L.body cY jump))→oe N b lo g σ vh h next (bA ts o.dst (.bool jump.isNone)) (h2.put (σ i).1 (some (.loop L jump))):=by
  intro jump me h2 g2 dq ax aP a hk
  have cu:dq i=σ i:=a.agree i hi
  have mV:(σ i).1<h2.next:=Nat.lt_of_lt_of_le ((s.obj i _ hg).2.lt da) a.f.next
  obtain⟨r1,r2,r3⟩:=dG.back (x':=.loop N0 L.params L.assign L.body cY jump) (y:=.loop L jump) s hg da a ⟨L,by rw[cu,ah.dH _ _ _ _ mV];simp,rfl,rfl,rfl,q5,q6.mono a.le a.base a.agree⟩
  obtain⟨t1,t2⟩:=qR a.le a.base a.agree ht o.dst (hn▸hd) (.fr _ _ (.bool jump.isNone):VR g2 dq aP.next (.bool jump.isNone) (.bool jump.isNone))
  exact⟨g2,dq,_,aP.back i (.loop N0 L.params L.assign L.body cY jump),⟨t1,t2.trans hn,r1,a.le,fun j hj=>a.agree j (by omega),r2,Nat.le_trans hb a.base,r3⟩,hk⟩
 refine run.mono fun e jy h1 hs=>?_
 cases e with
 |normal=>
  obtain⟨g1,o8,gX,b9,a1,hW⟩:=hs
  refine(hW lo g1 o8 h1 jy a1.t a1.len a1.s a1.base).mono fun e me h2 fU=>?_
  cases e with
  |normal=>obtain⟨g2,dq,ax,aP,a2,hk⟩:=fU;exact fin none _ _ _ _ _ _ (a1.trans a2) hk
  |ret=>obtain⟨g2,dq,ax,aP,a2,hk⟩:=fU;exact fin (some .ret) _ _ _ _ _ _ (a1.trans a2) hk
  |exit id=>obtain⟨g2,dq,ax,aP,a2,hk⟩:=fU;exact fin (some (.exit id)) _ _ _ _ _ _ (a1.trans a2) hk
  |goto l=>obtain⟨_,_,_,_,_,hk⟩:=fU;exact hk.elim
  |panic ch=>obtain⟨_,_,_,_,_,hk⟩:=fU;exact hk.elim
  |outgrown=>obtain⟨_,_,_,_,_,hk⟩:=fU;exact hk.elim
 |exit id=>obtain⟨_,_,_,_,_,hk⟩:=hs;exact hk.elim
 |goto l=>obtain⟨_,_,_,_,_,hk⟩:=hs;exact hk.elim
 |ret=>obtain⟨_,_,_,_,_,hk⟩:=hs;exact hk.elim
 |panic ch=>obtain⟨_,_,_,_,_,hk⟩:=hs;exact hk.elim
 |outgrown=>obtain⟨_,_,_,_,_,hk⟩:=hs;exact hk.elim
@[irreducible] def j3 (i:Nat)(ae:aX)(Q:ie)(ak:ai):Prop:=match ak.get i with
 |some (.loop _ _ _ _ _ none)=>Q .normal ae (ak.drop i)
 |some (.loop _ _ _ _ _ (some .ret))=>Q .ret ae (ak.drop i)
 |some (.loop _ _ _ _ _ (some (.exit id)))=>Q (.exit id) ae (ak.drop i)
 |_=>False
def T9 (i:Nat)(ae:aX)(Q:ie):ie
 |.normal,_,ak=>j3 i ae Q ak
 |.ret,_,ak=>j3 i ae Q ak
 |_,_,_=>False
theorem vx {i:Nat}{ae ax:aX}{Q:ie}{ak:ai}{N2:Nat}{qU:Array Tmp}{a2 b2:Code}(h:ak.get i=some (.loop N2 qU a2 b2 ax none))(k:Q .normal ae (ak.drop i)):j3 i ae Q ak:=by
 unfold j3;rw[h];exact k
theorem Ax {i:Nat}{ae ax:aX}{Q:ie}{ak:ai}{N2:Nat}{qU:Array Tmp}{a2 b2:Code}(h:ak.get i=some (.loop N2 qU a2 b2 ax (some .ret)))(k:Q .ret ae (ak.drop i)):j3 i ae Q ak:=by
 unfold j3;rw[h];exact k
theorem z3s {i id:Nat}{ae ax:aX}{Q:ie}{ak:ai}{N2:Nat}{qU:Array Tmp}{a2 b2:Code}(h:ak.get i=some (.loop N2 qU a2 b2 ax (some (.exit id))))(k:Q (.exit id) ae (ak.drop i)):j3 i ae Q ak:=by
 unfold j3;rw[h];exact k
theorem z4q {n m:Nat}{args:List PV}{aB:List Value}(ha:be (VR g σ n) args aB):VT g σ n (nR 0 args) (aB++List.replicate m Go.undef):=fun t v hv=>by
 rw[NJ] at hv
 simp at hv
 obtain⟨v',h1,h2⟩:=ha.get hv
 have aY:t<aB.length:=by
  rcases Nat.lt_or_ge t aB.length with h|h
  ·exact h
  rw[List.getElem?_eq_none h] at h1;cases h1
 have:(aB++List.replicate m Go.undef).getD t Go.undef=v':=by
  rw[List.getD,List.getElem?_append_left aY,h1];rfl
 rw[this];exact h2
theorem VW.rangeFunc {g0:Operand}{ps:Array Tmp}{assign body:Code}{f:FuncId}{fn:Func}{c:Code}{xs ys:List PV}(hg:cN ae g0=some (.func f xs ys))(dR:∀cs w,(callFunc f cs).run P w=.ok (.enter f cs) w)
  (hf:P.funcs[f]?=some fn) (hb:fn.body=some c) (hr:fn.results=#[]) (hn:Nat.ble (xs.length+1+ys.length) fn.ntmps=true)
  (hc:VW P fn.ntmps (vh.next+1) c (T9 vh.next ae Q) (nR 0 (xs++[.bw vh.next]++ys)) (vh.alloc (.loop N ps assign body ae none))):VW P N b (.rangeFunc g0 ps assign body) Q ae vh:=fun lo g σ h ts ht hN s uu=>by
 obtain⟨f',k1,k2⟩:=eH ht hg
 obtain⟨bl,dv,rfl,hx,hy⟩:=Jq k2
 have zH:∀i,i<vh.next→(σ.put vh.next (h.next,0,0)) i=σ i:=fun i hi=>Sg.xo _ _ (by omega)
 obtain⟨s1,f1⟩:=s.alloc (x:=.loop N ps assign body ae none) (.loop ⟨ps,assign,body,ts,0⟩ none) 0 ⟨⟨ps,assign,body,ts,0⟩,by rw[Sg.cz,ah.ij];simp,rfl,rfl,rfl,hN,ht.mono (Fz.le_refl g) (Nat.le_succ _) zH⟩
 have ha:be (VR g (σ.put vh.next (h.next,0,0)) (vh.next+1)) (xs++[.bw vh.next]++ys) (bl.toList++[Value.func (.yield h.next) #[] #[]]++dv.toList):=
  ((hx.BK (Fz.le_refl g) (Nat.le_succ _) zH).append (.cons (.bw vh.next h.next 0 0 (Nat.lt_succ_self _) (Sg.cz _ _ _)) .nil)).append (hy.BK (Fz.le_refl g) (Nat.le_succ _) zH)
 refine .rangeFunc 0 k1 dR (.bP hf hb ?_)
 have hlen:((bl.toList++[Value.func (.yield h.next) #[] #[]]++dv.toList)++List.replicate (fn.ntmps - (bl.toList++[Value.func (.yield h.next) #[] #[]]++dv.toList).length) Go.undef).length=fn.ntmps:=by
  have h1:=ha.1
  have h2:xs.length+1+ys.length≤fn.ntmps:=by simpa using hn
  simp at h1 ⊢;omega
 refine(hc lo g _ _ _ (z4q ha) hlen s1 (Nat.le_refl _)).mono fun e bc h' ⟨g',aO,aS,ak,a,k⟩=>?_
 have fin:j3 vh.next ae Q ak→∃l,r7 P bc h' fn.results.toList=some l∧∃L jump,h'.get h.next=some (.loop L jump)∧match jump with
    |none=>oe N b lo g σ vh h (Q .normal) ts (h'.put h.next none)
    |some c=>AW P lo c (fun e=>oe N b lo g σ vh h (Q e)) ts (h'.put h.next none):=fun tq=>by
  refine⟨[],by rw[hr];rfl,?_⟩
  have dZ:aO vh.next=(h.next,0,0):=(a.agree vh.next (Nat.lt_succ_self _)).trans (Sg.cz _ _ _)
  have Hj:∀i,i<vh.next→aO i=σ i:=fun i hi=>(a.agree i (by omega)).trans (zH i hi)
  have UG:vh.next≤ak.next:=Nat.le_trans (Nat.le_succ _) a.base
  have done:∀ {N2 qU a2 b2 ax jump},ak.get vh.next=some (.loop N2 qU a2 b2 ax jump)→∀ {K:aX→ai→Prop},K ae (ak.drop vh.next)→oe N b lo g σ vh h K ts (h'.put h.next none):=fun pT K hK=>by
   have:=a.s.kill pT rfl
   rw[dZ] at this
   exact⟨g',aO,ae,ak.drop vh.next,⟨ht.mono a.le UG Hj,hN,this.1,a.le,fun i hi=>Hj i (by omega),(f1.trans a.f).trans this.2,Nat.le_trans uu UG,(dQ.refl g σ vh h).trans f1 a.own⟩,hK⟩
  have obj:∀ {N2 qU a2 b2 ax jump},ak.get vh.next=some (.loop N2 qU a2 b2 ax jump)→∃L,h'.get h.next=some (.loop L jump):=fun pT=>by
   obtain⟨_,L,q1,_⟩:=a.s.obj _ _ pT
   rw[dZ] at q1
   exact⟨L,q1⟩
  unfold j3 at tq
  split at tq
  ·rename_i pT;obtain⟨L,hL⟩:=obj pT;exact⟨L,none,hL,done pT tq⟩
  ·rename_i pT;obtain⟨L,hL⟩:=obj pT;exact⟨L,some .ret,hL,.ret (done pT tq)⟩
  ·rename_i id pT;obtain⟨L,hL⟩:=obj pT;exact⟨L,some (.exit id),hL,.exit (done pT tq)⟩
  exact tq.elim
 cases e with
 |normal=>exact fin k
 |ret=>exact fin k
 |exit id=>exact k.elim
 |goto l=>exact k.elim
 |panic ch=>exact k.elim
 |outgrown=>exact k.elim
end
section
variable {P:Program} {N b lo:Nat} {Q:ie} {ae:aX} {vh ak:ai} {g g':Fz} {σ aO:Sg} {h h':ah}
theorem VS.NP (s:VS lo g σ vh h){T:ah}{V:ai}{ids:List Nat}(hn:T.next=h.next)(hv:V.next=vh.next)(hV:∀j x,V.get j=some x→vh.get j=some x∧j∉ids)
  (hT:∀o,T.get o=h.get o∨∃i x,i∈ids∧vh.get i=some x∧x.live=true∧(σ i).1=o):VS lo g σ V T:=by
 refine⟨fun j x hx=>?_,fun i j x y hx hy=>s.inj i j x y (hV i x hx).1 (hV j y hy).1,fun j x hx=>s.low j x (hV j x hx).1,fun o x hx=>?_,fun j x hx=>s.jf j x (hV j x hx).1,hn▸s.bI⟩
 ·obtain⟨h1,h2⟩:=hV j x hx
  obtain⟨k1,k2⟩:=s.obj j x h1
  rw[hv]
  refine⟨k1,k2.mono (Fz.le_refl g) (Nat.le_refl _) (fun _ _=>rfl) k1 fun hl=>?_⟩
  rcases hT (σ j).1 with h|⟨i,y,hi,hy,hU,he⟩
  ·exact h
  have:=s.inj i j y x hy h1 hU hl he
  subst this;exact absurd hi h2
 rcases hT o with h|⟨i,y,hi,hy,hU,he⟩
 ·rw[h];exact s.fz o x hx
 have:=s.jf i y hy hU
 rw[he,hx] at this;cases this
theorem dG.xc1 {σs:Sg}{gs:Fz}{UH:ai}{hs:ah}{b6 bc:aI}{cY aS:aX}{V V2:ai}{T H2:ah}{ids:List Nat}(a0:dG N b lo gs σs UH hs b6 h g σ cY vh)
  (hn:T.next=h.next) (hv:V.next=vh.next) (hV:∀j x,V.get j=some x→vh.get j=some x∧j∉ids)
  (hid:∀i∈ids,∃x,vh.get i=some x∧x.live=true)
  (hT:∀o,T.get o=h.get o∨∃i,i∈ids∧(σ i).1=o)
  (a:dG N vh.next lo g σ V T bc h' g' aO aS ak)
  (UI:H2.next=h'.next) (h2:∀o,(∃i,i∈ids∧(σ i).1=o∧H2.get o=h.get o)∨((∀i∈ids,(σ i).1≠o)∧H2.get o=h'.get o))
  (NQ:V2.next=ak.next) (Eo:∀j x,V2.get j=some x→(j∈ids∧vh.get j=some x)∨(j∉ids∧ak.get j=some x)) :
  dG N b lo gs σs UH hs bc H2 g' aO aS V2:=by
 have s:=a0.s
 have lt:∀i x,vh.get i=some x→i<vh.next:=fun i x hx=>(s.obj i x hx).1
 have dZ:∀i,i<vh.next→aO i=σ i:=a.agree
 have sc:∀j z,ak.get j=some z→z.live=true→∀i∈ids,(aO j).1≠(σ i).1:=fun j z hz bW i hi he=>by
  obtain⟨x,hx,hl⟩:=hid i hi
  obtain⟨k,u,k1,k2,k3⟩:=a.f.own j z hz bW (by rw[he,hn];exact(s.obj i x hx).2.lt hl)
  obtain⟨k4,k5⟩:=hV k u k1
  have:=s.inj k i u x k4 hx k2 hl (k3.trans he)
  subst this;exact k5 hi
 have xL:∀i∈ids,g' (σ i).1=none:=fun i hi=>by
  obtain⟨x,hx,hl⟩:=hid i hi
  cases hg:g' (σ i).1 with
  |none=>rfl
  |some z=>
   rcases a.own _ z hg (by rw[hn];exact(s.obj i x hx).2.lt hl) with h1|⟨k,u,k1,k2,k3⟩
   ·rw[s.jf i x hx hl] at h1;cases h1
   obtain⟨k4,k5⟩:=hV k u k1
   have:=s.inj k i u x k4 hx k2 hl k3
   subst this;exact absurd hi k5
 have ev:∀j x,j∈ids→vh.get j=some x→x.live=true→H2.get (σ j).1=h.get (σ j).1:=fun j x hj hx hl=>by
  rcases h2 (σ j).1 with⟨i,hi,he,h3⟩|⟨h3,_⟩
  ·exact h3
  exact absurd rfl (h3 j hj)
 refine⟨?_,a.len,⟨fun j x hx=>?_,fun j k x y hx hy wV hU he=>?_,fun j x hx hl=>?_,fun o x hx=>?_,fun j x hx hl=>?_,UI▸a.s.bI⟩,Fz.le_trans a0.le a.le,fun i hi=>(dZ i (Nat.lt_of_lt_of_le hi a0.base)).trans (a0.agree i hi),
  ⟨UI▸(Nat.le_trans a0.f.next (hn▸a.f.next)),fun o ho fW=>?_,fun j x hx hl aY=>?_⟩,NQ▸(Nat.le_trans a0.base a.base),fun o x hx ho=>?_⟩
 ·rw[NQ];exact a.t
 ·rw[NQ]
  rcases Eo j x hx with⟨hj,hx⟩|⟨hj,hx⟩
  ·obtain⟨k1,k2⟩:=s.obj j x hx
   exact⟨Nat.lt_of_lt_of_le k1 a.base,k2.mono a.le a.base dZ k1 fun hl=>ev j x hj hx hl⟩
  obtain⟨k1,k2⟩:=a.s.obj j x hx
  refine⟨k1,k2.mono (Fz.le_refl g') (Nat.le_refl _) (fun _ _=>rfl) k1 fun hl=>?_⟩
  rcases h2 (aO j).1 with⟨i,hi,he,h3⟩|⟨_,h3⟩
  ·exact absurd he.symm (sc j x hx hl i hi)
  exact h3
 ·rcases Eo j x hx with⟨hj,hx⟩|⟨hj,hx⟩<;>rcases Eo k y hy with⟨hk,hy⟩|⟨hk,hy⟩
  ·rw[dZ j (lt j x hx),dZ k (lt k y hy)] at he;exact s.inj j k x y hx hy wV hU he
  ·rw[dZ j (lt j x hx)] at he;exact absurd he.symm (sc k y hy hU j hj)
  ·rw[dZ k (lt k y hy)] at he;exact absurd he (sc j x hx wV k hk)
  exact a.s.inj j k x y hx hy wV hU he
 ·rcases Eo j x hx with⟨hj,hx⟩|⟨hj,hx⟩
  ·rw[dZ j (lt j x hx)];exact s.low j x hx hl
  exact a.s.low j x hx hl
 ·rcases h2 o with⟨i,hi,he,h3⟩|⟨_,h3⟩
  ·subst he;rw[xL i hi] at hx;cases hx
  rw[h3];exact a.s.fz o x hx
 ·rcases Eo j x hx with⟨hj,hx⟩|⟨hj,hx⟩
  ·rw[dZ j (lt j x hx)];exact xL j hj
  exact a.s.jf j x hx hl
 ·have h3:=a0.f.fM o ho fW
  have aY:o<h.next:=Nat.lt_of_lt_of_le ho a0.f.next
  rcases h2 o with⟨i,hi,he,h4⟩|⟨h4,h5⟩
  ·rw[h4,h3]
  rw[h5,a.f.fM o (by rw[hn];exact aY) fun j x hx hl he=>?_]
  ·rcases hT o with h6|⟨i,hi,he⟩
   ·rw[h6,h3]
   exact absurd he (h4 i hi)
  obtain⟨k,u,k1,k2,k3⟩:=a0.f.own j x (hV j x hx).1 hl (by rw[he];exact ho)
  exact fW k u k1 k2 (k3.trans he)
 ·rcases Eo j x hx with⟨hj,hx⟩|⟨hj,hx⟩
  ·rw[dZ j (lt j x hx)] at aY ⊢;exact a0.f.own j x hx hl aY
  obtain⟨k,u,k1,k2,k3⟩:=a.f.own j x hx hl (by rw[hn];exact Nat.lt_of_lt_of_le aY a0.f.next)
  obtain⟨q,w,q1,q2,q3⟩:=a0.f.own k u (hV k u k1).1 k2 (by rw[k3];exact aY)
  exact⟨q,w,q1,q2,q3.trans k3⟩
 rcases a.own o x hx (by rw[hn];exact Nat.lt_of_lt_of_le ho a0.f.next) with h3|⟨k,u,k1,k2,k3⟩
 ·exact a0.own o x h3 ho
 obtain⟨q,w,q1,q2,q3⟩:=a0.f.own k u (hV k u k1).1 k2 (by rw[k3];exact ho)
 exact .inr ⟨q,w,q1,q2,q3.trans k3⟩
def jM (P:Program)(ae:aX)(vh:ai):Op→Option (PV×aL)
 |.alloc t=>(eA P t).map fun z=>(.ptr vh.next 0,.box z)
 |.box _ x=>(cN ae x).map fun v=>(.ptr vh.next 0,.box v.cells)
 |.buildSlice t n parts=>match o9 ae parts.toList with
  |some l=>match qo P ⟨vh.next,[]⟩ t n l with
   |some (v,aP)=>match aP.get vh.next with
    |some x=>some (v,x)
    |none=>none
   |none=>none
  |none=>none
 |.makeSlice t l c=>match cN ae l,cN ae c with
  |some a,some b=>match qq P ⟨vh.next,[]⟩ t a b with
   |some (v,aP)=>match aP.get vh.next with
    |some x=>some (v,x)
    |none=>none
   |none=>none
  |_,_=>none
 |_=>none
theorem z5s {ts:aI}(ht:VT g σ vh.next ae ts){op:Op}{v:PV}{x:aL}(hv:jM P ae vh op=some (v,x))(id:Nat):∃v' y,ix P ts id op=some (v',y)∧x.live=true∧
  ∀(dq:Sg) (h2:ah),dq vh.next=(id,0,0)→(∀i,i<vh.next→dq i=σ i)→h2.get id=some y→VR g dq (vh.next+1) v v'∧rj g dq (vh.next+1) h2 vh.next x:=by
 cases op<;>simp only[jM] at hv<;>try (cases hv;done)
 case alloc t=>
  obtain⟨z,h1,h2⟩:=dd hv
  simp only[bO] at h2
  obtain⟨rfl,rfl⟩:=h2
  obtain⟨z',k1,k2⟩:=xp (g:=g) h1
  refine⟨_,_,by simp only[ix,k1];rfl,rfl,fun dq h2 e1 e2 e3=>⟨?_,0,z',by rw[e1];exact e3,by rw[e1],k2.vr⟩⟩
  have:=VR.ptr (g:=g) (σ:=dq) (n:=vh.next+1) vh.next 0 id 0 0 (by omega) e1
  simpa using this
 case box t y=>
  obtain⟨u,h1,h2⟩:=dd hv
  simp only[bO] at h2
  obtain⟨rfl,rfl⟩:=h2
  obtain⟨u',k1,k2⟩:=eH ht h1
  refine⟨_,_,by simp only[ix,k1];rfl,rfl,fun dq h2 e1 e2 e3=>⟨?_,0,u'.cells.toList,by rw[e1];exact e3,by rw[e1],k2.cells.BK (Fz.le_refl g) (Nat.le_succ _) e2⟩⟩
  have:=VR.ptr (g:=g) (σ:=dq) (n:=vh.next+1) vh.next 0 id 0 0 (by omega) e1
  simpa using this
 case buildSlice t len parts=>
  split at hv
  ·rename_i l hl
   obtain⟨l',k1,k2⟩:=H8 ht hl
   split at hv
   ·rename_i v0 aP hb
    unfold qo at hb
    split at hb
    ·rename_i e n2 jv
     split at hb
     ·rename_i z ag hz dZ
      obtain⟨z',h1,h2⟩:=xp (g:=g) hz
      cases wW:(Nat.beq z.length n2&&Nat.ble (len*n2) 16777216&&Nat.blt 0 n2) with
      |false=>rw[wW] at hb;cases hb
      |true=>
       rw[wW] at hb
       simp only[aM] at hb
       split at hb
       ·rename_i cs hf
        cases ha:PV.aJ cs with
        |false=>rw[ha] at hb;cases hb
        |true=>
         rw[ha] at hb
         simp only[aM,az,bO] at hb
         obtain⟨rfl,rfl⟩:=hb
         have vP:(ai.alloc ⟨vh.next,[]⟩ (.arr ag n2 cs)).get vh.next=some (.arr ag n2 cs):=by rw[ai.ij];simp
         rw[vP] at hv
         simp only[az,bO] at hv
         obtain⟨rfl,rfl⟩:=hv
         obtain⟨ar,h4,h5⟩:=Fa k2 (Dw h2.vr len) hf
         have oO:(Nat.beq z'.length n2&&Nat.ble (len*n2) 16777216&&Nat.blt 0 n2)=true:=by rw[← h2.1];exact wW
         simp only[bV,Nat.blt_eq,Nat.ble_eq] at wW
         have hlen:len≤len*n2:=Nat.le_mul_of_pos_right _ wW.2
         have dm:(16777216:Nat)<ay:=by decide
         refine⟨_,_,by simp only[ix,k1,jv,h1,oO,aM,h4];rfl,rfl,fun dq h3 e1 e2 e3=>⟨?_,wW.2,0,ar,by rw[e1];exact e3,by rw[e1],h5.aH ha⟩⟩
         have:=VR.own (g:=g) (σ:=dq) (n:=vh.next+1) vh.next 0 len len id 0 0 (by omega) e1 (Nat.le_refl _) (by omega)
         simpa using this
       cases hb
     cases hb
    cases hb
   cases hv
  cases hv
 case makeSlice t lx cx=>
  split at hv
  ·rename_i la ca hla NR
   obtain⟨l',q1,q2⟩:=eH ht hla
   obtain⟨c',q3,q4⟩:=eH ht NR
   split at hv
   ·rename_i v0 aP hb
    unfold qq at hb
    split at hb
    ·rename_i l c e n jv
     have:=q2.aH rfl;cases this
     have:=q4.aH rfl;cases this
     split at hb
     ·rename_i z bytes ag hz nQ dZ
      obtain⟨z',h1,h2⟩:=xp (g:=g) hz
      cases wW:(decide (0≤l∧l≤c∧c≤4294967296)&&Nat.beq z.length n&&Nat.ble bytes 4096&&Nat.blt 0 n) with
      |false=>rw[wW] at hb;cases hb
      |true=>
       rw[wW] at hb
       simp only[aM,az,bO] at hb
       obtain⟨rfl,rfl⟩:=hb
       have vP:(ai.alloc ⟨vh.next,[]⟩ (.arr ag n (cG z c.toNat))).get vh.next=some (.arr ag n (cG z c.toNat)):=by rw[ai.ij];simp
       rw[vP] at hv
       simp only[az,bO] at hv
       obtain⟨rfl,rfl⟩:=hv
       simp only[bV,decide_eq_true_eq,Nat.blt_eq,Nat.ble_eq] at wW
       obtain⟨⟨⟨⟨kf,cS,oy⟩,BM⟩,KO⟩,Fb⟩:=wW
       have Dg:z'.length=n:=by rw[← h2.1];simpa using BM
       cases l with
       |negSucc l=>omega
       |ofNat l=>
        cases c with
        |negSucc c=>omega
        |ofNat c=>
         have e1:l≤c:=by have:(l:Int)≤(c:Int):=cS;omega
         have e2:c≤4294967296:=by have:(c:Int)≤4294967296:=oy;omega
         have e3:bytes*c≤4096*4294967296:=Nat.mul_le_mul KO e2
         have cU:(Nat.beq z'.length n&&Nat.ble l c&&Nat.ble (bytes*c) 281474976710656&&Nat.blt 0 n&&Nat.ble c 281474976710656)=true:=by
          simp only[bV,Nat.ble_eq,Nat.blt_eq]
          exact⟨⟨⟨⟨by rw[Dg];exact Nat.beq_refl n,e1⟩,by omega⟩,Fb⟩,by omega⟩
         have dm:(4294967296:Nat)<ay:=by decide
         refine⟨_,_,by simp only[ix,q1,q3,jv,h1,nQ,cU,aM];rfl,rfl,fun dq h3 k1 k2 k3=>⟨?_,Fb,0,cR z' c,by rw[k1];exact k3,by rw[k1],Dw h2 c⟩⟩
         have:=VR.own (g:=g) (σ:=dq) (n:=vh.next+1) vh.next 0 l c id 0 0 (by omega) k1 e1 (by omega)
         simpa using this
     cases hb
    cases hb
   cases hv
  cases hv
end
theorem qV {base:Nat}{M:Nat→Bool}{h:ah}:∀fl:List (Nat×a7),(gK base M fl h).next=h.next
 |[]=>rfl
 |(i,x)::r=>by
  simp only[gK]
  cases M i<;>simp[qV r]
theorem zI {base:Nat}{M:Nat→Bool}{h:ah}{o:Nat}:∀ {fl:List (Nat×a7)},(∀q∈fl,base+q.1<h.next)→(∀q∈fl,M q.1=true→base+q.1≠o)→(gK base M fl h).get o=h.get o
 |[],_,_=>rfl
 |(i,x)::r,hl,hq=>by
  have ih:=zI (base:=base) (M:=M) (h:=h) (o:=o) (fl:=r) (fun q hm=>hl q (List.mem_cons_of_mem _ hm)) fun q hm=>hq q (List.mem_cons_of_mem _ hm)
  simp only[gK]
  cases hM:M i with
  |false=>simpa using ih
  |true=>
   have h1:=hl (i,x) List.mem_cons_self
   rw[aM,ah.dH _ _ _ _ (by rw[qV];exact h1),if_neg fun he=>hq (i,x) List.mem_cons_self hM he.symm,ih]
theorem Hk {base:Nat}{M:Nat→Bool}{h:ah}:∀ {fl:List (Nat×a7)},(∀q∈fl,base+q.1<h.next)→(fl.map (·.1)).Nodup→∀q∈fl,M q.1=true→(gK base M fl h).get (base+q.1)=some q.2
 |[],_,_,q,hq,_=>by cases hq
 |(i,x)::r,hl,hn,q,hq,hM=>by
  rw[List.map_cons,List.nodup_cons] at hn
  have hr:∀q∈r,base+q.1<h.next:=fun q hm=>hl q (List.mem_cons_of_mem _ hm)
  have h1:=hl (i,x) List.mem_cons_self
  simp only[gK]
  rcases List.mem_cons.1 hq with rfl|hq
  ·rw[hM,aM,ah.dH _ _ _ _ (by rw[qV];exact h1),if_pos rfl]
  have ih:=Hk (base:=base) (M:=M) hr hn.2 q hq hM
  cases Kq:M i with
  |false=>simpa using ih
  |true=>
   have dp:base+q.1≠base+i:=fun he=>hn.1 (by
    have:q.1=i:=by omega
    exact List.mem_map.2 ⟨q,hq,this⟩)
   rw[aM,ah.dH _ _ _ _ (by rw[qV];exact h1),if_neg dp,ih]
def ji (ms:List Nat)(k:Nat)(cO:List (Nat×Nat)):List (Nat×Nat):=cO.filter fun p=>!bm ms p.1 k
def dE (ms:List Nat)(k:Nat)(cO:List (Nat×Nat)):List Nat:=(ji ms k cO).map (·.2)
def nr (uA:ai):List Nat→ai→ai
 |[],vh=>vh
 |i::r,vh=>match uA.get i with
  |some x=>(nr uA r vh).back i x
  |none=>nr uA r vh
theorem NS (uA:ai):∀(l:List Nat) (vh:ai),(nr uA l vh).next=vh.next
 |[],_=>rfl
 |i::r,vh=>by
  simp only[nr]
  split
  ·exact NS uA r vh
  exact NS uA r vh
theorem UJ (uA:ai):∀(l:List Nat) (vh:ai),(∀i∈l,∃x,uA.get i=some x)→∀j x,(nr uA l vh).get j=some x→(j∈l∧uA.get j=some x)∨(j∉l∧vh.get j=some x)
 |[],vh,_,j,x,h=>.inr ⟨by simp,h⟩
 |i::r,vh,hl,j,x,h=>by
  obtain⟨y,hy⟩:=hl i List.mem_cons_self
  simp only[nr,hy,ai.uz] at h
  by_cases hj:j=i
  ·subst hj;simp at h;subst h;exact .inl ⟨List.mem_cons_self,hy⟩
  simp[hj] at h
  rcases UJ uA r vh (fun k hk=>hl k (List.mem_cons_of_mem _ hk)) j x h with⟨h1,h2⟩|⟨h1,h2⟩
  ·exact .inl ⟨List.mem_cons_of_mem _ h1,h2⟩
  exact .inr ⟨by simp[hj,h1],h2⟩
structure UK (base:Nat) (aO:Sg) (ak:ai) (h':ah) (cO:List (Nat×Nat)) (fl:List (Nat×a7)):Prop where
  ms:cO.map (·.1)=fl.map (·.1)
  nd:(fl.map (·.1)).Nodup
  place:∀p∈cO,(aO p.2).1=base+p.1∧∃x,ak.get p.2=some x∧x.live=true
  free:∀q∈fl,h'.get (base+q.1)=none∧base+q.1<h'.next
def jD (P:Program)(N b:Nat)(ops:Array Oper)(ms W As:List Nat)(K:aX→ai→Prop):List iy→List Nat→List (Nat×Nat)→List Nat→aX→ai→Prop
 |[],_,_,_,ae,vh=>K ae vh
 |.op m::r,todo,cO,Ar,ae,vh=>
  match ops[m]? with
  |none=>False
  |some o=>match jh ops o ae with
   |none=>False
   |some false=>gB N o.dst=true∧jD P N b ops ms W As K r (iL ops todo o.dst) cO Ar (bZ ae o.dst (.bn [])) vh
   |some true=>bif W.contains m then p7 P N vh.next ops o todo (fun ee ax aP=>jD P N b ops ms W As K r ee (ji ms m cO) Ar ax (nr vh (dE ms m cO) aP)) ae (ia (dE ms m cO) vh)
    else bif Ar.contains m then As.contains m=true∧gB N o.dst=true∧∃v x,jM P ae vh o.op=some (v,x)∧jD P N b ops ms W As K r (iL ops todo o.dst) ((m,vh.next)::cO) (Ar.filter fun k=>!Nat.beq k m) (bZ ae o.dst v) (vh.alloc x)
    else As.contains m=false∧tL o.op=true∧gB N o.dst=true∧∃v,eo P ae (ia (dE ms m cO) vh) o.op=some (v,ia (dE ms m cO) vh)∧
     jD P N b ops ms W As K r (bif xY o&&cO.isEmpty then m::iL ops todo o.dst else iL ops todo o.dst) cO Ar (bZ ae o.dst v) vh
 |.ck m::r,todo,cO,Ar,ae,vh=>
  match ops[m]? with
  |none=>False
  |some o=>(todo.contains m=true∨o.dst.isSome=true∧jh ops o ae=some false)∧jD P N b ops ms W As K r todo cO Ar ae vh
section
variable {P:Program} {N b lo:Nat} {ops:Array Oper} {g g':Fz} {σ aO:Sg} {vh ak:ai} {hs h':ah} {base:Nat} {ms W As:List Nat}
theorem UL {k:Nat}{cO:List (Nat×Nat)}{i:Nat}(h:i∈dE ms k cO):∃p∈cO,p.2=i∧bm ms p.1 k=false:=by
 unfold dE ji at h
 obtain⟨p,h1,h2⟩:=List.mem_map.1 h
 obtain⟨h3,h4⟩:=List.mem_filter.1 h1
 exact⟨p,h3,h2,by simpa using h4⟩
theorem UM {k:Nat}{cO:List (Nat×Nat)}{p:Nat×Nat}(h:p∈cO)(hb:bm ms p.1 k=false):p.2∈dE ms k cO:=
 List.mem_map.2 ⟨p,List.mem_filter.2 ⟨h,by simp[hb]⟩,rfl⟩
theorem UN {cO:List (Nat×Nat)}{fl:List (Nat×a7)}(hm:cO.map (·.1)=fl.map (·.1)){q:Nat×a7}(hq:q∈fl):∃p∈cO,p.1=q.1:=by
 have:q.1∈cO.map (·.1):=by rw[hm];exact List.mem_map_of_mem hq
 obtain⟨p,h1,h2⟩:=List.mem_map.1 this
 exact⟨p,h1,h2⟩
theorem z9h {cO:List (Nat×Nat)}{fl:List (Nat×a7)}(hm:cO.map (·.1)=fl.map (·.1)){p:Nat×Nat}(hp:p∈cO):∃q∈fl,q.1=p.1:=by
 have:p.1∈fl.map (·.1):=by rw[← hm];exact List.mem_map_of_mem hp
 obtain⟨q,h1,h2⟩:=List.mem_map.1 this
 exact⟨q,h1,h2⟩
theorem UO {cO:List (Nat×Nat)}{fl:List (Nat×a7)}(f:UK base aO ak h' cO fl)(k:Nat)(o:Nat) :
  (gK base (fun i=>bm ms i k) fl h').get o=(gK base (fun _=>true) fl h').get o∨∃i,i∈dE ms k cO∧(aO i).1=o:=by
 have hl:∀q∈fl,base+q.1<h'.next:=fun q hq=>(f.free q hq).2
 by_cases hq:∃q∈fl,base+q.1=o
 ·obtain⟨q,hq,rfl⟩:=hq
  obtain⟨p,hp,yB⟩:=UN f.ms hq
  cases hb:bm ms q.1 k with
  |true=>exact .inl (by rw[Hk (M:=fun i=>bm ms i k) hl f.nd q hq hb,Hk (M:=fun _=>true) hl f.nd q hq rfl])
  |false=>exact .inr ⟨p.2,UM hp (yB▸hb),by rw[(f.place p hp).1,yB]⟩
 refine .inl ?_
 have h1:∀q∈fl,base+q.1≠o:=fun q hm he=>hq ⟨q,hm,he⟩
 rw[zI hl fun q hm _=>h1 q hm,zI hl fun q hm _=>h1 q hm]
theorem Ep (hd:∀d∈(ops.toList.filterMap (·.dst)),d<N){K:aX→ai→Prop}(pI:hs.next≤base)(cC:lo≤hs.next):∀(items:List iy) (todo:List Nat) (cO:List (Nat×Nat)) (Ar:List Nat) (bc:aI) (fl:List (Nat×a7)) (h':ah) (g':Fz) (aO:Sg) (aS:aX) (ak:ai),
  dG N b lo g σ vh hs bc (gK base (fun _=>true) fl h') g' aO aS ak→UK base aO ak h' cO fl→(∀j∈Ar,h'.get (base+j)=none∧base+j<h'.next∧j∉fl.map (·.1))→
  (∀m∈todo,rO P lo ops bc h' m)→jD P N b ops ms W As K items todo cO Ar aS ak→xh P lo ops base ms W As (oe N b lo g σ vh hs K) items bc fl h'
 |[],todo,cO,Ar,bc,fl,h',g',aO,aS,ak,a,f,AS,gk,k=>⟨g',aO,aS,ak,a,k⟩
 |.op m::r,todo,cO,Ar,bc,fl,h',g',aO,aS,ak,a,f,AS,gk,k=>by
  simp only[jD] at k
  have hl:∀q∈fl,base+q.1<h'.next:=fun q hq=>(f.free q hq).2
  have wX:h'.sub (gK base (fun i=>bm ms i m) fl h'):=fun o x hx=>by
   rw[zI hl fun q hq _ he=>by have:=(f.free q hq).1;rw[he,hx] at this;cases this];exact hx
  cases ho:ops[m]? with
  |none=>rw[ho] at k;exact k.elim
  |some o=>
   rw[ho] at k
   simp only at k
   refine⟨o,ho,?_⟩
   split at k
   ·exact k.elim
   ·rename_i hw
    rw[AP (a.len▸hd) a.t hw]
    simp only[bq]
    obtain⟨g1,g2⟩:=qR (Fz.le_refl g') (Nat.le_refl _) (fun _ _=>rfl) a.t o.dst (a.len▸k.1) (.fr _ _ rN)
    refine Ep hd pI cC r _ cO Ar _ fl h' g' aO _ ak ⟨g1,g2.trans a.len,a.s,a.le,a.agree,a.f,a.base,a.own⟩ f AS (fun m hm=>?_) k.2
    simp only[iL,List.mem_filter] at hm
    exact(gk m hm.1).put _ (fun _ _ hx=>hx) hm.2
   rename_i hw
   rw[AP (a.len▸hd) a.t hw]
   simp only[aM]
   have zJ:∀i∈dE ms m cO,∃x,ak.get i=some x∧x.live=true:=fun i hi=>by
    obtain⟨p,hp,rfl,_⟩:=UL hi
    exact(f.place p hp).2
   have UP:(gK base (fun i=>bm ms i m) fl h').next=(gK base (fun _=>true) fl h').next:=by rw[qV,qV]
   have Ee:∀j x,(ia (dE ms m cO) ak).get j=some x→ak.get j=some x∧j∉dE ms m cO:=fun j x hx=>let ⟨h1,h2⟩:=rP _ _ j x hx;⟨h2,h1⟩
   have sT:VS lo g' aO (ia (dE ms m cO) ak) (gK base (fun i=>bm ms i m) fl h'):=a.s.NP UP (x5 _ _) Ee fun o=>by
    rcases UO (ms:=ms) f m o with h|⟨i,hi,he⟩
    ·exact .inl h
    obtain⟨x,hx,wV⟩:=zJ i hi
    exact .inr ⟨i,x,hi,hx,wV,he⟩
   have tT:VT g' aO (ia (dE ms m cO) ak).next aS bc:=by rw[x5];exact a.t
   cases hW:W.contains m with
   |true=>
    rw[hW] at k
    simp only[aM] at k ⊢
    intro jy dZ
    refine(k lo g' aO _ bc tT a.len sT (by rw[x5];exact Nat.le_refl _) (fun q hq=>?_) jy dZ).mono fun me h2 ⟨v',e,ee,CW,g2,dq,ax,aP,c,k2⟩=>⟨v',e,?_⟩
    ·obtain⟨o2,d2,u,h1,c1,c2,c3,c4,c5⟩:=gk q hq
     obtain⟨_,e2⟩:=z7 c3 c5
     exact⟨o2,d2,u,_,c1,c2,c3,c4,e2 _ wX⟩
    have CZ:∀q∈fl.filter (fun p=>!bm ms p.1 m),q∈fl∧bm ms q.1 m=false:=fun q hq=>by
     obtain⟨h1,h2⟩:=List.mem_filter.1 hq
     exact⟨h1,by simpa using h2⟩
    have NT:∀i,i<ak.next→dq i=aO i:=c.agree
    have AT:∀q∈fl,bm ms q.1 m=false→h2.get (base+q.1)=none∧base+q.1<h2.next:=fun q hq hb=>by
     have h1:=hl q hq
     have hT:(gK base (fun i=>bm ms i m) fl h').get (base+q.1)=none:=by
      rw[zI hl fun q' b8 hM he=>?_]
      ·exact(f.free q hq).1
      have:q'.1=q.1:=by omega
      rw[this,hb] at hM;cases hM
     refine⟨?_,Nat.lt_of_lt_of_le (by rw[qV];exact h1) c.f.next⟩
     rw[c.f.fM _ (by rw[qV];exact h1) fun i x hx wV he=>?_]
     ·exact hT
     obtain⟨h2,h3⟩:=(sT.obj i x hx)
     have:∃y,(gK base (fun i=>bm ms i m) fl h').get (aO i).1=some y:=by
      cases x with
      |box cs=>obtain⟨s0,ar,q1,_⟩:=h3;exact⟨_,q1⟩
      |arr ag sz cs=>obtain⟨_,s0,ar,q1,_⟩:=h3;exact⟨_,q1⟩
      |map es=>obtain⟨bh,q1,_⟩:=h3;exact⟨_,q1⟩
      |dD es=>obtain⟨bh,q1,_⟩:=h3;exact⟨_,q1⟩
      |bR es=>obtain⟨_,_,_,s0,ar,q1,_⟩:=h3;exact⟨_,q1⟩
      |emap es=>obtain⟨bh,q1,_⟩:=h3;exact⟨_,q1⟩
      |loop=>obtain⟨L,q1,_⟩:=h3;exact⟨_,q1⟩
      |grow sz es=>
       obtain⟨_,_,_,kP⟩:=h3
       rcases kP with rfl|⟨s0,ar,q1,_⟩
       ·cases wV
       exact⟨_,q1⟩
     obtain⟨y,hy⟩:=this
     rw[he,hT] at hy;cases hy
    have re:∀q∈fl.filter (fun p=>!bm ms p.1 m),base+q.1<h2.next:=fun q hq=>(AT q (CZ q hq).1 (CZ q hq).2).2
    have UQ:((fl.filter (fun p=>!bm ms p.1 m)).map (·.1)).Nodup:=f.nd.sublist (List.filter_sublist.map _)
    refine Ep hd pI cC r ee (ji ms m cO) Ar _ _ h2 g2 dq ax _ (dG.xc1 a UP (x5 _ _) Ee zJ (UO f m) c (qV _) (fun o=>?_) (NS _ _ _) (UJ _ _ _ fun i hi=>let ⟨x,hx,_⟩:=zJ i hi;⟨x,hx⟩)) ⟨?_,UQ,fun p hp=>?_,fun q hq=>AT q (CZ q hq).1 (CZ q hq).2⟩ (fun j hj=>?_) CW k2
    ·by_cases hq:∃q∈fl,bm ms q.1 m=false∧base+q.1=o
     ·obtain⟨q,hq,hb,rfl⟩:=hq
      obtain⟨p,hp,yB⟩:=UN f.ms hq
      refine .inl ⟨p.2,UM hp (yB▸hb),by rw[(f.place p hp).1,yB],?_⟩
      rw[Hk (M:=fun _=>true) hl f.nd q hq rfl,Hk (M:=fun _=>true) re UQ q (List.mem_filter.2 ⟨hq,by simp[hb]⟩) rfl]
     refine .inr ⟨fun i hi he=>?_,?_⟩
     ·obtain⟨p,hp,rfl,hb⟩:=UL hi
      obtain⟨q,b8,UR⟩:=z9h f.ms hp
      exact hq ⟨q,b8,by rw[UR];exact hb,by rw[UR,← he,(f.place p hp).1]⟩
     exact zI re fun q US _ he=>hq ⟨q,(CZ q US).1,(CZ q US).2,he⟩
    ·have:∀(l:List (Nat×Nat)) (l2:List (Nat×a7)),l.map (·.1)=l2.map (·.1)→(l.filter fun p=>!bm ms p.1 m).map (·.1)=(l2.filter fun p=>!bm ms p.1 m).map (·.1):=by
      intro l
      induction l with
      |nil=>intro l2 h;cases l2 with|nil=>rfl|cons=>simp at h
      |cons p l ih=>
       intro l2 h
       cases l2 with
       |nil=>simp at h
       |cons q l2=>
        simp only[List.map_cons,List.cons.injEq] at h
        simp only[List.filter_cons,h.1]
        cases bm ms q.1 m<;>simp[ih l2 h.2,h.1]
     exact this cO fl f.ms
    ·obtain⟨h1,EA⟩:=List.mem_filter.1 hp
     obtain⟨e1,x,e2,e3⟩:=f.place p h1
     have lI:p.2∈dE ms m cO:=List.mem_map.2 ⟨p,hp,rfl⟩
     refine⟨by rw[NT _ (a.s.obj p.2 x e2).1];exact e1,x,?_,e3⟩
     have:∀(l:List Nat),p.2∈l→(∀i∈l,∃x,ak.get i=some x)→(nr ak l aP).get p.2=some x:=by
      intro l
      induction l with
      |nil=>intro h;cases h
      |cons i l ih=>
       intro hm hex
       obtain⟨y,hy⟩:=hex i List.mem_cons_self
       simp only[nr,hy,ai.uz]
       by_cases En:p.2=i
       ·subst En;rw[e2] at hy;injection hy with hy;simp[hy]
       simp only[En,if_false]
       exact ih (by rcases List.mem_cons.1 hm with h|h;exact absurd h En;exact h) fun k hk=>hex k (List.mem_cons_of_mem _ hk)
     exact this _ lI fun i hi=>let ⟨x,hx,_⟩:=zJ i hi;⟨x,hx⟩
    obtain⟨h1,h3,h4⟩:=AS j hj
    have hT:(gK base (fun i=>bm ms i m) fl h').get (base+j)=none:=by
     rw[zI hl fun q' b8 hM he=>?_]
     ·exact h1
     exact h4 (List.mem_map.2 ⟨q',b8,by omega⟩)
    refine⟨?_,Nat.lt_of_lt_of_le (by rw[qV];exact h3) c.f.next,fun hm=>h4 ?_⟩
    ·rw[c.f.fM _ (by rw[qV];exact h3) fun i x hx wV he=>?_]
     ·exact hT
     obtain⟨h5,h6⟩:=(sT.obj i x hx)
     have:∃y,(gK base (fun i=>bm ms i m) fl h').get (aO i).1=some y:=by
      cases x with
      |box cs=>obtain⟨s0,ar,q1,_⟩:=h6;exact⟨_,q1⟩
      |arr ag sz cs=>obtain⟨_,s0,ar,q1,_⟩:=h6;exact⟨_,q1⟩
      |map es=>obtain⟨bh,q1,_⟩:=h6;exact⟨_,q1⟩
      |dD es=>obtain⟨bh,q1,_⟩:=h6;exact⟨_,q1⟩
      |bR es=>obtain⟨_,_,_,s0,ar,q1,_⟩:=h6;exact⟨_,q1⟩
      |emap es=>obtain⟨bh,q1,_⟩:=h6;exact⟨_,q1⟩
      |loop=>obtain⟨L,q1,_⟩:=h6;exact⟨_,q1⟩
      |grow sz es=>
       obtain⟨_,_,_,kP⟩:=h6
       rcases kP with rfl|⟨s0,ar,q1,_⟩
       ·cases wV
       exact⟨_,q1⟩
     obtain⟨y,hy⟩:=this
     rw[he,hT] at hy;cases hy
    obtain⟨q,hq,rfl⟩:=List.mem_map.1 hm
    exact List.mem_map_of_mem (CZ q hq).1
   |false=>
    rw[hW] at k
    simp only[bq] at k ⊢
    cases hA:Ar.contains m with
    |true=>
     rw[hA] at k
     simp only[aM] at k
     obtain⟨kA,qC,v,x,hv,k2⟩:=k
     rw[kA]
     simp only[aM]
     have hmA:m∈Ar:=by simpa using hA
     obtain⟨r1,r2,r3⟩:=AS m hmA
     obtain⟨v',y,e1,e2,e3⟩:=z5s a.t hv (base+m)
     refine⟨v',y,e1,?_⟩
     have cu:∀i,i<ak.next→(aO.put ak.next (base+m,0,0)) i=aO i:=fun i hi=>Sg.xo _ _ (by omega)
     have e9:∀o,(gK base (fun _=>true) ((m,y)::fl) h').get o=if o=base+m then some y else (gK base (fun _=>true) fl h').get o:=fun o=>by
      show ((gK base (fun _=>true) fl h').put (base+m) (some y)).get o=_
      rw[ah.dH _ _ _ _ (by rw[qV];exact r2)]
     have NU:(gK base (fun _=>true) fl h').get (base+m)=none:=by
      rw[zI hl fun q hq _ he=>r3 (List.mem_map.2 ⟨q,hq,by omega⟩)];exact r1
     obtain⟨e4,e5⟩:=e3 (aO.put ak.next (base+m,0,0)) (gK base (fun _=>true) ((m,y)::fl) h') (Sg.cz _ _ _) cu (by rw[e9];simp)
     have fW:∀i z,ak.get i=some z→z.live=true→(aO i).1≠base+m:=fun i z hz bW he=>by
      obtain⟨h5,h6⟩:=a.s.obj i z hz
      have:∃y,(gK base (fun _=>true) fl h').get (aO i).1=some y:=by
       cases z with
       |box cs=>obtain⟨s0,ar,q1,_⟩:=h6;exact⟨_,q1⟩
       |arr ag sz cs=>obtain⟨_,s0,ar,q1,_⟩:=h6;exact⟨_,q1⟩
       |map es=>obtain⟨bh,q1,_⟩:=h6;exact⟨_,q1⟩
       |dD es=>obtain⟨bh,q1,_⟩:=h6;exact⟨_,q1⟩
       |bR es=>obtain⟨_,_,_,s0,ar,q1,_⟩:=h6;exact⟨_,q1⟩
       |emap es=>obtain⟨bh,q1,_⟩:=h6;exact⟨_,q1⟩
       |loop=>obtain⟨L,q1,_⟩:=h6;exact⟨_,q1⟩
       |grow sz es=>
        obtain⟨_,_,_,kP⟩:=h6
        rcases kP with rfl|⟨s0,ar,q1,_⟩
        ·cases bW
        exact⟨_,q1⟩
      obtain⟨u,hu⟩:=this
      rw[he,NU] at hu;cases hu
     have split:∀i z,(ak.alloc x).get i=some z→(i=ak.next∧z=x)∨(i<ak.next∧ak.get i=some z):=fun i z hz=>by
      rw[ai.ij] at hz
      by_cases hi:i=ak.next
      ·subst hi;simp at hz;exact .inl ⟨rfl,hz.symm⟩
      simp[hi] at hz;exact .inr ⟨(a.s.obj i z hz).1,hz⟩
     obtain⟨g1,g2⟩:=qR (Fz.le_refl g') (Nat.le_succ ak.next) cu a.t o.dst (a.len▸qC) e4
     refine Ep hd pI cC r _ _ _ _ ((m,y)::fl) h' g' _ _ (ak.alloc x) ⟨g1,g2.trans a.len,⟨fun i z hz=>?_,fun i j z u hz hu bW qQ he=>?_,fun i z hz bW=>?_,fun o z hz=>?_,fun i z hz bW=>?_,?_⟩,a.le,fun i hi=>(cu i (Nat.lt_of_lt_of_le hi a.base)).trans (a.agree i hi),
      ⟨?_,fun o ho NV=>?_,fun i z hz bW aY=>?_⟩,Nat.le_trans a.base (Nat.le_succ _),a.own⟩ ⟨by simp[f.ms],by rw[List.map_cons,List.nodup_cons];exact⟨r3,f.nd⟩,fun p hp=>?_,fun q hq=>?_⟩ (fun j hj=>?_) (fun q hq=>?_) k2
     ·rcases split i z hz with⟨rfl,rfl⟩|⟨hi,hz⟩
      ·exact⟨Nat.lt_succ_self _,e5⟩
      refine⟨Nat.lt_succ_of_lt hi,(a.s.obj i z hz).2.mono (Fz.le_refl g') (Nat.le_succ _) cu hi fun bW=>?_⟩
      rw[e9,if_neg (fW i z hz bW)]
     ·rcases split i z hz with⟨hi,_⟩|⟨hi,hz⟩<;>rcases split j u hu with⟨hj,_⟩|⟨hj,hu⟩
      ·rw[hi,hj]
      ·rw[hi,Sg.cz,cu j hj] at he;exact absurd he.symm (fW j u hu qQ)
      ·rw[hj,Sg.cz,cu i hi] at he;exact absurd he (fW i z hz bW)
      rw[cu i hi,cu j hj] at he;exact a.s.inj i j z u hz hu bW qQ he
     ·rcases split i z hz with⟨rfl,rfl⟩|⟨hi,hz⟩
      ·rw[Sg.cz];show lo≤base+m;omega
      rw[cu i hi];exact a.s.low i z hz bW
     ·rw[e9,if_neg (by rintro rfl;have:=a.s.fz _ z hz;rw[NU] at this;cases this)];exact a.s.fz o z hz
     ·rcases split i z hz with⟨rfl,rfl⟩|⟨hi,hz⟩
      ·rw[Sg.cz]
       cases hg:g' (base+m) with
       |none=>rfl
       |some w=>have:=a.s.fz _ w hg;rw[NU] at this;cases this
      rw[cu i hi];exact a.s.jf i z hz bW
     ·have:=a.s.bI;rw[qV] at this ⊢;exact this
     ·have:=a.f.next;rw[qV] at this ⊢;exact this
     ·rw[e9,if_neg (by omega)];exact a.f.fM o ho NV
     ·rcases split i z hz with⟨rfl,rfl⟩|⟨hi,hz⟩
      ·rw[Sg.cz] at aY;simp only at aY;omega
      rw[cu i hi] at aY ⊢;exact a.f.own i z hz bW aY
     ·rcases List.mem_cons.1 hp with rfl|hp
      ·exact⟨by rw[Sg.cz],x,by rw[ai.ij];simp,e2⟩
      obtain⟨q1,z,q2,q3⟩:=f.place p hp
      have hi:=(a.s.obj p.2 z q2).1
      exact⟨by rw[cu _ hi];exact q1,z,by rw[ai.ij,if_neg (by omega)];exact q2,q3⟩
     ·rcases List.mem_cons.1 hq with rfl|hq
      ·exact⟨r1,r2⟩
      exact f.free q hq
     ·obtain⟨h1,h2⟩:=List.mem_filter.1 hj
      have HY:j≠m:=by simpa[beq_eq] using h2
      obtain⟨s1,s2,s3⟩:=AS j h1
      exact⟨s1,s2,by simp only[List.map_cons,List.mem_cons,not_or];exact⟨HY,s3⟩⟩
     simp only[iL,List.mem_filter] at hq
     exact(gk q hq.1).put _ (fun _ _ hx=>hx) hq.2
    |false=>
     rw[hA] at k
     simp only[bq] at k
     obtain⟨kA,hr,qC,v,hv,k2⟩:=k
     rw[kA]
     simp only[bq]
     obtain⟨v',h1,e1,dq,e2,e3,e4,e5,e6⟩:=CP (lo:=lo) sT tT hv
     obtain⟨e7,_⟩:=z7 hr e1
     subst e7
     rw[x5] at e6 e2
     have e2':VR g' aO ak.next v v':=e2.mono (Fz.le_refl g') (Nat.le_refl _) fun i hi=>(e6 i hi).symm
     obtain⟨g1,g2⟩:=qR (Fz.le_refl g') (Nat.le_refl _) (fun _ _=>rfl) a.t o.dst (a.len▸qC) e2'
     refine⟨v',_,e1,Ep hd pI cC r _ cO Ar _ fl h' g' aO _ ak ⟨g1,g2.trans a.len,a.s,a.le,a.agree,a.f,a.base,a.own⟩ f AS (fun m' hm=>?_) k2⟩
     have fS:m'∈iL ops todo o.dst→rO P lo ops (bA bc o.dst v') h' m':=fun hm=>by
      simp only[iL,List.mem_filter] at hm
      exact(gk m' hm.1).put _ (fun _ _ hx=>hx) hm.2
     cases oK:(xY o&&cO.isEmpty) with
     |false=>rw[oK] at hm;exact fS hm
     |true=>
      rw[oK] at hm
      simp only[aM,List.mem_cons] at hm
      rcases hm with rfl|hm
      ·rw[bV] at oK
       obtain⟨oK,hem⟩:=oK
       have SG:cO=[]:=by simpa using hem
       have jV:fl=[]:=by have:=f.ms;rw[SG] at this;simpa using this.symm
       subst jV
       unfold xY at oK
       cases od:o.dst with
       |none=>rw[od] at oK;cases oK
       |some d=>
        rw[od] at oK
        have aY:d<bc.length:=by
         have:=a.len▸qC
         rw[od] at this
         simpa[gB] using this
        have:=rO.new (P:=P) (lo:=lo) ho od aY hr e1 oK
        rwa [od] at this
      exact fS hm
 |.ck m::r,todo,cO,Ar,bc,fl,h',g',aO,aS,ak,a,f,AS,gk,k=>by
  simp only[jD] at k
  have hl:∀q∈fl,base+q.1<h'.next:=fun q hq=>(f.free q hq).2
  have wX:h'.sub (gK base (fun i=>bm ms i m) fl h'):=fun o x hx=>by
   rw[zI hl fun q hq _ he=>by have:=(f.free q hq).1;rw[he,hx] at this;cases this];exact hx
  cases ho:ops[m]? with
  |none=>rw[ho] at k;exact k.elim
  |some o=>
   rw[ho] at k
   simp only at k
   obtain⟨k1,k2⟩:=k
   have rest:=Ep hd pI cC r _ cO Ar bc fl h' g' aO aS ak a f AS gk k2
   rcases k1 with k1|⟨k1,hw⟩
   ·have hm:m∈todo:=by simpa using k1
    obtain⟨o',d,v,h1,c1,c2,c3,c4,c5⟩:=gk m hm
    rw[ho] at c1;injection c1 with c1;subst c1
    obtain⟨_,e2⟩:=z7 c3 c5
    exact⟨o,d,ho,c2,fun _=>⟨v,_,c4,e2 _ wX⟩,rest⟩
   cases od:o.dst with
   |none=>rw[od] at k1;cases k1
   |some d=>exact⟨o,d,ho,od,fun mn=>(by rw[AP (a.len▸hd) a.t hw] at mn;cases mn),rest⟩
theorem VW.rD {id:Nat}{Q:ie}{ae:aX}{vh:ai}{ms W As:List Nat}{items:List iy}(hm:P.follows .mixedOrders=true)(dB:EY ops ms W As=true)(kO:Af As=true)(hc:xj ops ms W As [] W [] items=true)(hd:xX N ops=true)
  (UT:As.all (Nat.blt · (lM As ops.size))=true)
  (hs:jD P N b ops ms W As (Q .normal) items [] [] As ae vh):VW P N b (.region id ops true) Q ae vh:=fun lo g σ h ts ht hn s hb=>by
 refine .sched hm dB kO hc ?_
 have hg:=ah.uT (lM As ops.size) h
 have nk:=ah.Bo (lM As ops.size) h
 have s2:VS lo g σ vh (ah.nj (lM As ops.size) h):=⟨fun i x hx=>let ⟨k1,k2⟩:=s.obj i x hx;⟨k1,k2.mono (Fz.le_refl g) (Nat.le_refl _) (fun _ _=>rfl) k1 fun _=>hg _⟩,s.inj,s.low,fun o x hx=>by rw[hg];exact s.fz o x hx,s.jf,by rw[nk];have:=s.bI;omega⟩
 refine Ep (base:=h.next) (NH hd) (Nat.le_refl _) s.bI items [] [] As ts [] _ g σ ae vh ⟨ht,hn,s2,Fz.le_refl g,fun _ _=>rfl,⟨by rw[qV,nk];omega,fun o _ _=>hg o,fun i x hx hl _=>⟨i,x,hx,hl,rfl⟩⟩,hb,dQ.refl _ _ _ _⟩
  ⟨rfl,List.nodup_nil,fun p hp=>(by cases hp),fun q hq=>(by cases hq)⟩ (fun j hj=>?_) (fun m hm=>(by cases hm)) hs
 rw[List.all_eq_true] at UT
 have aY:j<lM As ops.size:=by simpa using UT j hj
 refine⟨?_,by rw[nk];omega,by simp⟩
 rw[hg]
 cases hq:h.get (h.next+j) with
 |none=>rfl
 |some x=>have:=ah.fJ hq;omega
variable {ae:aX} {todo:List Nat} {cO:List (Nat×Nat)} {Ar:List Nat} {K:aX→ai→Prop} {m:Nat} {r:List iy} {o:Oper}
theorem jD.rd {v:PV}(ho:ops[m]?=some o)(hw:jh ops o ae=some true)(hW:W.contains m=false)(hA:Ar.contains m=false)(yZ:As.contains m=false)(hr:tL o.op=true)(hd:gB N o.dst=true)
  (hv:eo P ae (ia (dE ms m cO) vh) o.op=some (v,ia (dE ms m cO) vh)) (hk:jD P N b ops ms W As K r (bif xY o&&cO.isEmpty then m::iL ops todo o.dst else iL ops todo o.dst) cO Ar (bZ ae o.dst v) vh) :
  jD P N b ops ms W As K (.op m::r) todo cO Ar ae vh:=by
 simp only[jD,ho,hw,hW,hA,bq]
 exact⟨yZ,hr,hd,v,hv,hk⟩
theorem jD.al {v:PV}{x:aL}(ho:ops[m]?=some o)(hw:jh ops o ae=some true)(hW:W.contains m=false)(hA:Ar.contains m=true)(yZ:As.contains m=true)(hd:gB N o.dst=true)
  (hv:jM P ae vh o.op=some (v,x)) (hk:jD P N b ops ms W As K r (iL ops todo o.dst) ((m,vh.next)::cO) (Ar.filter fun k=>!Nat.beq k m) (bZ ae o.dst v) (vh.alloc x)) :
  jD P N b ops ms W As K (.op m::r) todo cO Ar ae vh:=by
 simp only[jD,ho,hw,hW,hA,bq,aM]
 exact⟨yZ,hd,v,x,hv,hk⟩
theorem jD.wr (ho:ops[m]?=some o)(hw:jh ops o ae=some true)(hW:W.contains m=true)
  (hs:p7 P N vh.next ops o todo (fun ee ax aP=>jD P N b ops ms W As K r ee (ji ms m cO) Ar ax (nr vh (dE ms m cO) aP)) ae (ia (dE ms m cO) vh)) :
  jD P N b ops ms W As K (.op m::r) todo cO Ar ae vh:=by
 simp only[jD,ho,hw,hW,aM]
 exact hs
theorem jD.ck (ho:ops[m]?=some o)(hc:todo.contains m=true)(hk:jD P N b ops ms W As K r todo cO Ar ae vh):jD P N b ops ms W As K (.ck m::r) todo cO Ar ae vh:=by
 simp only[jD,ho]
 exact⟨.inl hc,hk⟩
theorem jD.done (hk:K ae vh):jD P N b ops ms W As K [] todo cO Ar ae vh:=hk
end
theorem Alt.ofEq {vh:ai}{n2:Nat}{D:Nat→Bool}{ρ:Nat→Nat}{v v2:PV}(hf:v.aH=true)(h:v=v2):Alt vh n2 D ρ v v2:=h▸.same v hf
theorem Alt.xN {vh:ai}{n2:Nat}{D:Nat→Bool}{ρ:Nat→Nat}{v2:PV}(h:v2=.vec []):Alt vh n2 D ρ .aG v2:=h▸.dV
theorem Alt.mQ {vh:ai}{n2:Nat}{D:Nat→Bool}{ρ:Nat→Nat}(j n:Nat)(nl:Bool)(hn:n=0):Alt vh n2 D ρ .aG (.grow j n nl):=hn▸.aG j nl
section
variable {P:Program} {N b:Nat} {ae:aX} {vh:ai}
theorem kI.Gf {o:Oper}{t ek:TypeId}{x y:Operand}{next:aX→ai→Prop}(ho:∃pos,o.op=.binOp .eql t x y pos)(ht:P.underlying t=some (.slice ek))(hx:cN ae x=some (.vec []))(hy:cN ae y=some .aG)(hd:gB N o.dst=true)
  (hn:∀q:Bool,next (bZ ae o.dst (.bool q)) vh):kI P N b o next ae vh:=fun lo g σ h ts nL hl s hb=>by
 obtain⟨pos,ho⟩:=ho
 obtain⟨x',k1,k2⟩:=eH nL hx
 obtain⟨y',k3,k4⟩:=eH nL hy
 have:=k4.aH rfl;cases this
 have hq:∃q:Bool,dC P t x' (.slice none 0 0)=some q:=by
  have:=k2.aH rfl
  cases this with
  |fu=>exact⟨true,by simp[dC,ht]⟩
  |de=>exact⟨false,by simp[dC,ht]⟩
  |vec _ o off k s0 sz ar=>exact⟨false,by simp[dC,ht]⟩
 obtain⟨q,hq⟩:=hq
 obtain⟨e1,_⟩:=KJ (P:=P) hq (fun k x k' y hh=>by have:=hh.2;cases this) (fun x y hh=>by have:=hh.2;cases this)
 obtain⟨g1,g2⟩:=qR (Fz.le_refl g) (Nat.le_refl _) (fun _ _=>rfl) nL o.dst (hl▸hd) (.fr _ _ (.bool q):VR g σ vh.next (.bool q) (.bool q))
 refine .op (v:=.bool q) (h':=h) (by rw[ho];simp only[ct,k1,k3,e1,Option.map_some]) ?_
 exact⟨g,σ,_,vh,⟨g1,g2.trans hl,s,Fz.le_refl g,fun _ _=>rfl,VF.refl _ _ _,hb,dQ.refl _ _ _ _⟩,hn q⟩
theorem du.fresh {f:FuncId}{args es:List PV}{sz:Nat}(hp:du P f args ai.empty fun v ak=>∃i nl,v=.grow i es.length nl∧ak.get i=some (.grow sz es))(hf:PV.aJ args=true)(dp:0<es.length) :
  du P f args vh fun v ak=>v=.grow vh.next es.length false∧ak=vh.alloc (.grow sz es):=fun lo g σ h aB ha s=>by
 have zG:be (VR g σ ai.empty.next) args aB:=(ha.aH hf).vr
 refine(hp lo g σ h aB zG (.none s.fz s.bI σ)).mono fun r h' ⟨g',aO,v,ak,h1,h2,h3,h4,h5,h6,h7,i,nl,h8,h9⟩=>?_
 subst h8
 have cT:∀o,o<h.next→h'.get o=h.get o:=fun o ho=>h5.fM o ho fun i x hx=>by cases hx
 have fB:aL.live (.grow sz es)=true:=by
  cases es with
  |nil=>simp at dp
  |cons=>rfl
 obtain⟨hi,o7⟩:=h2.obj i _ h9
 have UU:h.next≤(aO i).1:=by
  rcases Nat.lt_or_ge (aO i).1 h.next with aY|UU
  ·obtain⟨j,y,hj,_⟩:=h5.own i _ h9 fB aY
   cases hj
  exact UU
 have hg:∀o x,g' o=some x→o<h.next→∃y,g o=some y:=fun o x hx ho=>by
  rcases h7 o x hx ho with h|⟨i,y,h,_⟩
  ·exact⟨_,h⟩
  cases h
 have cu:∀j,j<vh.next→(σ.put vh.next (aO i)) j=σ j:=fun j hj=>Sg.xo _ _ (by omega)
 have split:∀j z,(vh.alloc (.grow sz es)).get j=some z→(j=vh.next∧z=.grow sz es)∨(j<vh.next∧vh.get j=some z):=fun j z hz=>by
  rw[ai.ij] at hz
  by_cases hj:j=vh.next
  ·subst hj;simp at hz;exact .inl ⟨rfl,hz.symm⟩
  simp[hj] at hz;exact .inr ⟨(s.obj j z hz).1,hz⟩
 refine⟨g',σ.put vh.next (aO i),.grow vh.next es.length false,vh.alloc (.grow sz es),?_,⟨fun j z hz=>?_,fun j k z u hz hu bW qQ he=>?_,fun j z hz bW=>?_,h2.fz,fun j z hz bW=>?_,h2.bI⟩,h3,cu,⟨h5.next,fun o ho _=>cT o ho,fun j z hz bW aY=>?_⟩,Nat.le_succ _,fun o x hx ho=>.inl (h7 o x hx ho |>.elim id fun⟨i,y,h,_⟩=>by cases h),rfl,rfl⟩
 ·generalize hm:es.length=m at h1 dp ⊢
  cases h1 with
  |fr _ _ h=>cases h
  |bX=>omega
  |bY=>omega
  |grow _ _ o a k _ dJ hs hn=>exact .grow vh.next m o a k false (Nat.lt_succ_self _) (by rw[Sg.cz];exact hs) hn
 ·rcases split j z hz with⟨rfl,rfl⟩|⟨hj,hz⟩
  ·refine⟨Nat.lt_succ_self _,?_⟩
   obtain⟨q0,q1,q2,q3⟩:=o7
   refine⟨q0,q1,q2,q3.imp_right fun⟨s0,ar,k1,k2,k3,k4⟩=>⟨s0,ar,by rw[Sg.cz];exact k1,by rw[Sg.cz];exact k2,k3,by rw[Sg.cz];exact k4⟩⟩
  obtain⟨k1,k2⟩:=s.obj j z hz
  exact⟨Nat.lt_succ_of_lt hj,k2.mono h3 (Nat.le_succ _) cu hj fun bW=>cT _ (k2.lt bW)⟩
 ·rcases split j z hz with⟨hj,_⟩|⟨hj,hz⟩<;>rcases split k u hu with⟨hk,_⟩|⟨hk,hu⟩
  ·rw[hj,hk]
  ·rw[hj,Sg.cz,cu k hk] at he
   have:=(s.obj k u hu).2.lt qQ;omega
  ·rw[hk,Sg.cz,cu j hj] at he
   have:=(s.obj j z hz).2.lt bW;omega
  rw[cu j hj,cu k hk] at he;exact s.inj j k z u hz hu bW qQ he
 ·rcases split j z hz with⟨rfl,rfl⟩|⟨hj,hz⟩
  ·rw[Sg.cz];exact h2.low i _ h9 fB
  rw[cu j hj];exact s.low j z hz bW
 ·rcases split j z hz with⟨rfl,rfl⟩|⟨hj,hz⟩
  ·rw[Sg.cz];exact h2.jf i _ h9 fB
  rw[cu j hj]
  have hd:=s.jf j z hz bW
  have aY:=(s.obj j z hz).2.lt bW
  cases nf:g' (σ j).1 with
  |none=>rfl
  |some y=>
   obtain⟨w,hw⟩:=hg _ y nf aY
   rw[hd] at hw;cases hw
 rcases split j z hz with⟨rfl,rfl⟩|⟨hj,hz⟩
 ·rw[Sg.cz] at aY;omega
 rw[cu j hj] at aY ⊢;exact⟨j,z,hz,bW,rfl⟩
theorem du.vQ {f:FuncId}{args es:List PV}{sz n:Nat}(hn:es.length=n)(hp:du P f args ai.empty fun v ak=>∃i nl,v=.grow i n nl∧ak.get i=some (.grow sz es))(hf:PV.aJ args=true)(dp:0<n) :
  du P f args vh fun v ak=>v=.grow vh.next n false∧ak=vh.alloc (.grow sz es):=by
 subst hn;exact du.fresh hp hf dp
def Hl (P:Program)(ae:aX)(aP:ai)(ops:Array Oper)(todo:List Nat):List Nat→Prop
 |[]=>True
 |m::r=>(todo.contains m=true∧∃om u,ops[m]?=some om∧eo P ae aP om.op=some (u,aP))∧Hl P ae aP ops todo r
theorem Hl.mem {ae:aX}{aP:ai}{ops:Array Oper}{todo:List Nat}:∀ {l:List Nat},Hl P ae aP ops todo l→∀m∈l,m∈todo∧∃om u,ops[m]?=some om∧eo P ae aP om.op=some (u,aP)
 |[],_,m,hm=>by cases hm
 |k::r,h,m,hm=>by
  rcases List.mem_cons.1 hm with rfl|hm
  ·exact⟨by simpa using h.1.1,h.1.2⟩
  exact Hl.mem h.2 m hm
end
theorem VW.join {P:Program}{N b:Nat}{Q:ie}{ae:aX}{vh:ai}{x y:Code}{S:Type}(st:S→aX×ai)(I:S→Prop)
  (hx:VW P N b x (zB (fun aS ak=>∃s',I s'∧Rec b aS ak (st s').1 (st s').2) Q) ae vh) (hy:∀s,I s→VW P N b y Q (st s).1 (st s).2):VW P N b (.seq x y) Q ae vh:=
 .seq (hx.mono fun e ae vh hq=>by
  cases e with
  |normal=>obtain⟨s',k1,k2⟩:=hq;exact .rec k2 (hy s' k1)
  |exit id=>exact hq
  |goto l=>exact hq
  |ret=>exact hq
  |panic ch=>exact hq
  |outgrown=>exact hq)
theorem MO {sz:Nat}:∀ {es:List PV} {q:Nat} {e:PV},(∀e∈es,e.cells.length=sz)→es[q]?=some e→((es.flatMap PV.cells).drop (q*sz)).take sz=e.cells∧q*sz+sz≤(es.flatMap PV.cells).length
 |[],q,e,_,h=>by simp at h
 |a::r,0,e,hs,h=>by
  simp at h;subst h
  have:=hs a List.mem_cons_self
  rw[Nat.zero_mul,List.drop_zero,List.flatMap_cons,List.take_append_of_le_length (by omega),← this,List.take_length]
  exact⟨rfl,by rw[List.length_append];omega⟩
 |a::r,q+1,e,hs,h=>by
  have h1:=hs a List.mem_cons_self
  obtain⟨h2,h3⟩:=MO (es:=r) (q:=q) (fun x hx=>hs x (List.mem_cons_of_mem _ hx)) (by simpa using h)
  rw[List.flatMap_cons,Nat.succ_mul,show q*sz+sz=a.cells.length+q*sz by omega,List.drop_append,List.drop_eq_nil_of_le (by omega),List.nil_append,show a.cells.length+q*sz - a.cells.length=q*sz by omega]
  exact⟨h2,by rw[List.length_append];omega⟩
section
variable {P:Program} {N b:Nat} {ae:aX} {vh:ai}
end
open Go Go.Proofs
section
variable {P:Program} {N b:Nat} {ae:aX} {vh:ai}
end
open Go
section
variable {P:Program} {N b:Nat} {ae:aX} {vh:ai}
inductive Deep (vh:ai):PV→PV→Prop where
  |bK {v v2:PV} (h:bK vh v=some v2):Deep vh v v2
  |ptr {i off:Nat} {cs mc:List PV} (hg:vh.get i=some (.box cs)) (hz:cA vh cs=some mc) (hle:Nat.ble off mc.length=true):Deep vh (.ptr i off) (.vp (mc.drop off))
end
section
variable {P:Program} {vh:ai}
end
section
variable {P:Program} {N b:Nat} {Q:ie} {ae:aX} {vh:ai} {pv:Value}
end
section
variable {P:Program} {N b:Nat} {ae:aX} {vh:ai}
end
section
variable {P:Program} {lo:Nat} {Q:kN} {ts:aI} {h:ah} {pv:Value}
end
section
variable {P:Program} {N b:Nat} {Q:ie} {ae:aX} {vh:ai} {pv:Value}
end
section
variable {P:Program} {vh:ai}
theorem VS.zK {lo:Nat}{g:Fz}{σ:Sg}{h:ah}(s:VS lo g σ vh h)(i:Nat):VS lo g σ (vh.drop i) h:=
 ⟨fun j y hy=>s.obj j y (jX hy).2,fun j k y z hy hz=>s.inj j k y z (jX hy).2 (jX hz).2,fun j y hy=>s.low j y (jX hy).2,s.fz,fun j y hy=>s.jf j y (jX hy).2,s.bI⟩
theorem VS.xb7 {lo:Nat}{g g':Fz}{σ aO:Sg}{h h':ah}{b9:ai}(s:VS lo g σ vh h){i:Nat}{x:aL}(hi:vh.get i=some x)(hl:x.live=true)(h2:VS lo g' aO b9 h')(h3:g.le g')(h4:∀i,i<vh.next→aO i=σ i)
  (h5:VF σ (vh.drop i) h aO b9 h') (h6:vh.next≤b9.next) (h7:dQ g σ (vh.drop i) h g'):VS lo g' aO (b9.back i x) h'∧VF σ vh h aO (b9.back i x) h'∧dQ g σ vh h g':=by
 obtain⟨dm,UW⟩:=s.obj i x hi
 have aY:=UW.lt hl
 have wY:=h4 i dm
 have dp:∀j y,(vh.drop i).get j=some y→y.live=true→(σ j).1≠(σ i).1:=fun j y hy hU he=>by
  obtain⟨k1,k2⟩:=jX hy
  exact k1 (s.inj j i y x k2 hi hU hl he)
 have cT:h'.get (σ i).1=h.get (σ i).1:=h5.fM _ aY dp
 have fW:∀j z,b9.get j=some z→z.live=true→(aO j).1≠(σ i).1:=fun j z hz bW he=>by
  obtain⟨k,u,k1,k2,k3⟩:=h5.own j z hz bW (by rw[he];exact aY)
  exact dp k u k1 k2 (k3.trans he)
 refine⟨⟨fun j z hz=>?_,fun j k z u hz hu bW qQ he=>?_,fun j z hz bW=>?_,h2.fz,fun j z hz bW=>?_,h2.bI⟩,⟨h5.next,fun o ho hn=>h5.fM o ho fun j y hy hU=>hn j y (jX hy).2 hU,fun j z hz bW mV=>?_⟩,fun o z hz ho=>?_⟩
 ·rw[ai.uz] at hz
  by_cases hj:j=i
  ·subst hj
   simp at hz;subst hz
   exact⟨Nat.lt_of_lt_of_le dm h6,UW.mono h3 h6 h4 dm fun _=>cT⟩
  simp only[hj,if_false] at hz
  exact h2.obj j z hz
 ·rw[ai.uz] at hz hu
  by_cases hj:j=i
  ·subst hj
   by_cases hk:k=j
   ·exact hk.symm
   simp only[hk,if_false] at hu
   exact absurd (he.symm.trans (by rw[wY])) (fW k u hu qQ)
  simp only[hj,if_false] at hz
  by_cases hk:k=i
  ·subst hk
   exact absurd (he.trans (by rw[wY])) (fW j z hz bW)
  simp only[hk,if_false] at hu
  exact h2.inj j k z u hz hu bW qQ he
 ·rw[ai.uz] at hz
  by_cases hj:j=i
  ·subst hj;rw[wY];exact s.low j x hi hl
  simp only[hj,if_false] at hz
  exact h2.low j z hz bW
 ·rw[ai.uz] at hz
  by_cases hj:j=i
  ·subst hj
   rw[wY]
   cases nf:g' (σ j).1 with
   |none=>rfl
   |some q=>
    rcases h7 _ q nf aY with xK|⟨k,u,k1,k2,k3⟩
    ·rw[s.jf j x hi hl] at xK;cases xK
    exact absurd k3 (dp k u k1 k2)
  simp only[hj,if_false] at hz
  exact h2.jf j z hz bW
 ·rw[ai.uz] at hz
  by_cases hj:j=i
  ·subst hj;exact⟨j,x,hi,hl,by rw[wY]⟩
  simp only[hj,if_false] at hz
  obtain⟨k,u,k1,k2,k3⟩:=h5.own j z hz bW mV
  exact⟨k,u,(jX k1).2,k2,k3⟩
 rcases h7 o z hz ho with xK|⟨k,u,k1,k2,k3⟩
 ·exact .inl xK
 exact .inr ⟨k,u,(jX k1).2,k2,k3⟩
theorem du.frame {f:FuncId}{args:List PV}{R:PV→ai→Prop}{i:Nat}{x:aL}(hi:vh.get i=some x)(hl:x.live=true)(hc:du P f args (vh.drop i) R):du P f args vh fun v ak=>∃b9,R v b9∧ak=b9.back i x:=fun lo g σ h aB ha s=>by
 refine(hc lo g σ h aB ha (s.zK i)).mono fun r h' ⟨g',aO,v,b9,h1,h2,h3,h4,h5,h6,h7,h8⟩=>?_
 obtain⟨k1,k2,k3⟩:=s.xb7 hi hl h2 h3 h4 h5 h6 h7
 exact⟨g',aO,v,b9.back i x,h1,k1,h3,h4,k2,h6,k3,b9,h8,rfl⟩
end
section
variable {P:Program} {N b:Nat} {ae:aX} {vh:ai}
end
section
variable {P:Program} {vh:ai}
end
section
variable {P:Program} {N b:Nat} {ae:aX} {vh:ai}
end
def ai.uB (vh:ai):List Nat→ai
 |[]=>vh
 |i::r=>(vh.uB r).drop i
def Hm (l:List Nat):List (Nat×aL)→List (Nat×aL)
 |[]=>[]
 |(j,y)::r=>bif l.contains j then (j,y)::Hm l r else Hm l r
def ai.only (vh:ai)(l:List Nat):ai:=⟨vh.next,Hm l vh.bg⟩
theorem ai.UX {vh:ai}{l:List Nat}{j:Nat}{y:aL}(h:(vh.only l).get j=some y):vh.get j=some y∧j∈l:=by
 obtain⟨n,os⟩:=vh
 simp only[ai.get,ai.only] at h ⊢
 induction os with
 |nil=>simp[Hm,bs] at h
 |cons e r ih=>
  obtain⟨i,z⟩:=e
  simp only[Hm] at h
  cases hc:l.contains i with
  |true=>
   rw[hc] at h
   simp only[aM,bs,beq_eq] at h ⊢
   by_cases gY:j=i
   ·subst gY;simp at h ⊢;exact⟨h,by simpa using hc⟩
   simp[gY] at h ⊢;exact ih h
  |false=>
   rw[hc] at h
   simp only[bq,bs,beq_eq] at h ⊢
   have:=ih h
   by_cases gY:j=i
   ·subst gY;rw[← List.contains_iff_mem] at this;rw[hc] at this;exact absurd this.2 (by simp)
   simp[gY];exact this
section
variable {P:Program} {N b lo:Nat} {ae:aX} {vh:ai} {g:Fz} {σ:Sg} {h:ah}
theorem VS.UY (s:VS lo g σ vh h):∀l:List Nat,(∀j y,(vh.uB l).get j=some y→vh.get j=some y)∧∃hK:ah,VS lo g σ (vh.uB l) hK∧∀p q,hK.get p=some q→h.get p=some q∧∀i∈l,∀y,vh.get i=some y→y.live=true→p≠(σ i).1
 |[]=>⟨fun _ _ h=>h,h,s,fun p q hq=>⟨hq,fun i hi=>by cases hi⟩⟩
 |i::r=>by
  obtain⟨k0,hK,k1,k2⟩:=VS.UY s r
  have k3:∀j y,(vh.uB (i::r)).get j=some y→vh.get j=some y:=fun j y hy=>k0 j y (jX hy).2
  refine⟨k3,?_⟩
  have soft:(∀y,(vh.uB r).get i=some y→y.live=true→False)→∃hK:ah,VS lo g σ (vh.uB (i::r)) hK∧∀p q,hK.get p=some q→h.get p=some q∧∀j∈i::r,∀y,vh.get j=some y→y.live=true→p≠(σ j).1:=fun fW=>by
   refine⟨hK,k1.zK i,fun p q hq=>⟨(k2 p q hq).1,fun j hj y hy hU=>?_⟩⟩
   rcases List.mem_cons.1 hj with rfl|hj
   ·by_cases UZ:j∈r
    ·exact(k2 p q hq).2 j UZ y hy hU
    have same:∀l:List Nat,j∉l→(vh.uB l).get j=vh.get j:=by
     intro l
     induction l with
     |nil=>intro _;rfl
     |cons a l ih=>
      intro hn
      simp only[List.mem_cons,not_or] at hn
      show ((vh.uB l).drop a).get j=_
      rw[ai.KH,if_neg hn.1];exact ih hn.2
    exact absurd hU (fun hU=>fW y (by rw[same r UZ];exact hy) hU)
   exact(k2 p q hq).2 j hj y hy hU
  cases hg:(vh.uB r).get i with
  |none=>exact soft fun y hy=>by rw[hg] at hy;cases hy
  |some y=>
   cases hl:y.live with
   |false=>exact soft fun z hz bW=>by rw[hg] at hz;injection hz with hz;subst hz;rw[hl] at bW;cases bW
   |true=>
    obtain⟨q1,_⟩:=k1.kill hg hl
    have aY:=(k1.obj i y hg).2.lt hl
    refine⟨_,q1,fun p q hq=>?_⟩
    rw[ah.dH _ _ _ _ aY] at hq
    by_cases hp:p=(σ i).1
    ·simp[hp] at hq
    rw[if_neg hp] at hq
    refine⟨(k2 p q hq).1,fun j hj z hz bW=>?_⟩
    rcases List.mem_cons.1 hj with rfl|hj
    ·exact hp
    exact(k2 p q hq).2 j hj z hz bW
theorem p7.Cx {ops:Array Oper}{o:Oper}{todo ee:List Nat}{next:List Nat→aX→ai→Prop}(l:List Nat){v v2:PV}{ak aP:ai}(hv:Go.Am.eo P ae vh o.op=some (v,ak))(eT:Go.Am.eo P ae (vh.only l) o.op=some (v2,aP))(hd:gB N o.dst=true)
  (ht:Hl P ae (vh.uB l) ops todo ee) (hf:ee.all (Jr ops o.dst)=true) (hn:next ee (bZ ae o.dst v) ak):p7 P N b ops o todo next ae vh:=fun lo g σ h ts nV hl s hb gk jy dZ=>by
 obtain⟨v',h',k1,aO,k2,k3,k4,k5,k6⟩:=CP (lo:=lo) s nV hv
 obtain⟨g1,g2⟩:=qR (Fz.le_refl g) k5 k6 nV o.dst (hl▸hd) k2
 refine .op (v:=v') (h':=h') (by rw[Bn (fun x hx=>dZ.eval x hx)];exact k1) ⟨v',rfl,ee,fun m hm=>?_,g,aO,_,ak,⟨g1,g2.trans hl,k3,Fz.le_refl g,fun i hi=>k6 i (by omega),k4,by omega,dQ.refl _ _ _ _⟩,hn⟩
 obtain⟨h1,om,u,h2,h3⟩:=ht.mem m hm
 obtain⟨o',d,w,h4,c1,c2,c3,c4,c5⟩:=gk m h1
 rw[h2] at c1;injection c1 with c1;subst c1
 obtain⟨_,hK,q1,q2⟩:=s.UY l
 have nx:∀l:List Nat,(vh.uB l).next=vh.next:=by
  intro l
  induction l with
  |nil=>rfl
  |cons a l ih=>exact ih
 have NW:VT g σ (vh.uB l).next ae ts:=by rw[nx];exact nV
 obtain⟨w',h5,e1,_⟩:=CP (lo:=lo) q1 NW h3
 obtain⟨e2,e3⟩:=z7 c3 e1
 subst e2
 have NX:h5.sub h:=fun p q hq=>(q2 p q hq).1
 have ew:w'=w:=by
  have:=e3 h NX
  rw[c5] at this
  simp only[az,bO] at this
  exact this.1.symm
 subst ew
 obtain⟨sO,_⟩:=s.sub (aP:=vh.only l) rfl fun j y hy=>(ai.UX hy).1
 obtain⟨v3,Hz,r1,_,_,_,r4,_⟩:=CP (lo:=lo) sO nV eT
 rw[k1] at r1
 simp only[az,bO] at r1
 obtain⟨rfl,rfl⟩:=r1
 have zK:h5.sub h':=fun p q hq=>by
  obtain⟨t1,t2⟩:=q2 p q hq
  rw[r4.fM p (ah.fJ t1) fun i x hx wV he=>?_]
  ·exact t1
  obtain⟨t3,t4⟩:=ai.UX hx
  exact t2 i t4 x t3 wV he.symm
 have hc:rO P lo ops ts h5 m:=⟨om,d,w',h5,h2,c2,c3,c4,e1⟩
 exact hc.put v' zK (List.all_eq_true.1 hf m hm)
end
open Go Go.Proofs Go.Shelf Go.Sort
theorem NY {α β:Type}{bx:α→List β}{k:Nat}(hk:∀x,(bx x).length=k):∀(zs:List α) (t:Nat),(zs.flatMap bx)[t]?=(zs[t / k]?).bind fun x=>(bx x)[t % k]?
 |[],t=>by simp
 |a::r,t=>by
  rw[List.flatMap_cons,List.getElem?_append,hk]
  by_cases h:t<k
  ·rw[if_pos h,Nat.div_eq_of_lt h,Nat.mod_eq_of_lt h];rfl
  rw[if_neg h]
  rcases Nat.eq_zero_or_pos k with rfl|h0
  ·rw[NY hk r (t - 0)]
   have e0:∀x:α,bx x=[]:=fun x=>List.eq_nil_of_length_eq_zero (hk x)
   simp only[e0]
   cases hx:r[(t - 0) / 0]?<;>cases hy:(a::r)[t / 0]?<;>rfl
  rw[NY hk r (t - k)]
  have e1:t / k=(t - k) / k+1:=by rw[Nat.div_eq t k,if_pos ⟨h0,by omega⟩]
  have e2:t % k=(t - k) % k:=by rw[Nat.mod_eq t k,if_pos ⟨h0,by omega⟩]
  rw[e1,e2];rfl
theorem DO {α β:Type}{bx:α→List β}{k:Nat}(hk:∀x,(bx x).length=k):∀zs:List α,(zs.flatMap bx).length=zs.length*k
 |[]=>by simp
 |a::r=>by rw[List.flatMap_cons,List.length_append,hk,DO hk r,List.length_cons,Nat.succ_mul,Nat.add_comm]
theorem zun {α:Type}[Inhabited α]{bx:α→List Value}{k:Nat}(hk:∀x,(bx x).length=k)(h0:0<k)(zs:List α):(flatK bx k zs.toArray).toList=zs.flatMap bx:=by
 refine List.ext_getElem? fun t=>?_
 rw[NY hk]
 by_cases ht:t<zs.length*k
 ·have hq:t / k<zs.length:=by rw[Nat.div_lt_iff_lt_mul h0];exact ht
  have hr:t % k<(bx zs[t / k]).length:=by rw[hk];exact Nat.mod_lt _ h0
  rw[List.getElem?_eq_getElem hq]
  simp only[Option.bind_some]
  rw[List.getElem?_eq_getElem hr]
  have hs:t<(flatK bx k zs.toArray).toList.length:=by simp;exact ht
  rw[List.getElem?_eq_getElem hs]
  have:=get_flatK bx k zs.toArray t (by simpa using ht)
  rw[getElem!_pos _ t (by simpa using ht)] at this
  rw[Array.getElem_toList,this]
  simp[hq,hr]
 have hq:¬t / k<zs.length:=by rw[Nat.div_lt_iff_lt_mul h0];exact ht
 rw[List.getElem?_eq_none (l:=zs) (by omega)]
 rw[List.getElem?_eq_none (by simp;omega)]
 rfl
section
variable {P:Program} {lo:Nat} {h:ah}
theorem zqb {U:Mu}{w:World}(r:Rel U lo h w){o off s b a C:Nat}{cs:List Value}(d d0:List Value)(hd:∀x∈d,kK x=true)(NZ:∀x∈d0,kK x=true)(hlen:d.length=d0.length)
  (hg:h.get o=some (.cells s cs)) (hl:lo≤o) (hm:U o=some (b,a,C)) (mM:∀i x,d0[i]?=some x→cs[off+i]?=some x) (va:off≤cs.length) :
  Sort.Holds id w b (a+off) d0.toArray∧Rel U lo (h.put o (some (.cells s (fq cs off d)))) (Sort.putRow id w b (a+off) d.toArray)∧
  Frame lo U h w U (h.put o (some (.cells s (fq cs off d)))) (Sort.putRow id w b (a+off) d.toArray):=by
 have o7:=mZ r hg hm
 have hH:Sort.Holds id w b (a+off) d0.toArray:=by
  intro j hj
  have mY:j<d0.length:=by simpa using hj
  obtain⟨v',h1,h2⟩:=o7.2.1 (off+j) _ (mM j d0[j] (by simp[mY]))
  have:=EM (NZ _ (List.getElem_mem mY)) h2
  subst this
  refine⟨?_,r.eI o _ b a C hl hg hm _⟩
  have e:d0.toArray[j]! = d0[j]:=by simp[mY]
  rw[e,Nat.add_assoc];exact h1
 refine⟨hH,?_⟩
 have hle:off+d.length≤cs.length:=by
  rw[hlen]
  rcases Nat.eq_zero_or_pos d0.length with h0|h0
  ·omega
  have:=mM (d0.length - 1) d0[d0.length - 1] (by simp)
  have:=(List.getElem?_eq_some_iff.1 this).1
  omega
 refine Jw r hg hl hm _ (by simp) (fun b' oO=>?_) ⟨by simp;exact o7.1,fun i v hv=>?_,fun hs=>⟨by rw[Jy _ _ _ hle];exact(o7.2.2 hs).1,fun i hi=>?_⟩⟩ (fun o'=>by rw[Sort.frozen?_putRow];exact r.eI o _ b a C hl hg hm o') ⟨rfl,rfl,rfl,fun _=>by first|exact Nat.le_refl _|exact Nat.le_add_right _ _|exact Nat.le_succ _⟩
 ·have:b≠b':=fun h=>oO h.symm
  simp only[Sort.putRow,Sort.mapBlock,Array.getElem?_modify,this,if_false]
 ·rw[Ho _ _ _ hle] at hv
  by_cases hi:off≤i∧i<off+d.length
  ·rw[if_pos hi] at hv
   have hid:i - off<d.length:=by omega
   rw[List.getElem?_eq_getElem hid] at hv
   simp only[az] at hv
   subst hv
   refine⟨_,?_,.yb (hd _ (List.getElem_mem hid))⟩
   have:=Sort.cell?_putRow id w b (a+off) d0.toArray d.toArray hH (by simpa using hlen) (i - off) (by simpa using hid)
   have e:a+off+(i - off)=a+i:=by omega
   rw[e] at this
   rw[this]
   simp[hid]
  rw[if_neg hi] at hv
  obtain⟨v',h1,h2⟩:=o7.2.1 i v hv
  refine⟨v',?_,h2⟩
  rw[Sort.cell?_putRow_other]
  ·exact h1
  right;simp only[List.size_toArray];omega
 obtain⟨v',h1⟩:=(o7.2.2 hs).2 i hi
 by_cases hi2:off≤i∧i<off+d.length
 ·have:=Sort.cell?_putRow id w b (a+off) d0.toArray d.toArray hH (by simpa using hlen) (i - off) (by simp;omega)
  have e:a+off+(i - off)=a+i:=by omega
  rw[e] at this
  exact⟨_,this⟩
 refine⟨v',?_⟩
 rw[Sort.cell?_putRow_other]
 ·exact h1
 right;simp only[List.size_toArray];omega
def AA {α:Type}(cf:α→α→Int)(x y:α):Bool:=!(ltOf cf) y x
theorem mG.z1c {ρ:Ren}(L:SlLaysF0.n6 P ρ){α:Type}[Inhabited α]{k:Nat}(h0:0<k)(aE:∀w,(isAgg (ρ.t 24)).run P w=.ok true w)(zE:∀w,(Go.sizeOf (ρ.t 24)).run P w=.ok k w)(bx:α→List Value)(hk:∀x,(bx x).length=k)(xg:∀x,∀v∈bx x,kK v=true∧v.oneCell'=true)
  (cf:α→α→Int) (hO:SWO (ltOf cf)) (hT:∀x y,ltOf cf x y=false→ltOf cf y x=false→x=y) (g:Nat) (eg:∀args w,(callFunc g args).run P w=.ok (.enter g args) w)
  (C0:∀x y w,Calls P g #[.agg (bx x).toArray,.agg (bx y).toArray] w fun e w'=>e=.returned (.int .i64 (cf x y))∧∃q qi,w'=Sort.grow (w.drewN q) qi)
  {o off s kk:Nat} {cs:List Value} {zs:List α} (hg:h.get o=some (.cells s cs)) (hl:lo≤o) (va:off≤cs.length) (hz:∀t v,(zs.flatMap bx)[t]?=some v→cs[off+t]?=some v) (fp:zs.length<4611686018427387904) (mj:kk<dI) (yj:0<zs.length) :
  mG P lo (ρ.f 6) [.slice (some ⟨o,off,none⟩) zs.length kk,.func (.func g) #[] #[]] h fun r h'=>r=.tuple #[]∧h'=h.put o (some (.cells s (fq cs off ((zs.mergeSort (AA cf)).flatMap bx)))):=by
 refine .H5 fun U w a6 ha r=>?_
 obtain⟨v',r',oN,hv,hr⟩:=ha.dw
 obtain⟨v2,r2,N1,eT,jb⟩:=hr.dw
 have:=jb.iW;subst this
 obtain⟨LL,hL⟩:∃LL,zs.length=LL:=⟨_,rfl⟩
 rw[hL] at hv
 have uw:v2=.func (.func g) #[] #[]:=by
  cases eT with
  |func _ _ _ bl dv hx hy _ _=>
   have h1:bl=#[]:=Array.eq_empty_of_size_eq_zero (by simpa using hx.symm)
   have h2:dv=#[]:=Array.eq_empty_of_size_eq_zero (by simpa using hy.symm)
   rw[h1,h2]
 subst uw
 subst N1
 have gJ:a6=#[v',.func (.func g) #[] #[]]:=Array.ext' (by simpa using oN)
 subst gJ
 cases hv with
 |slice _ _ _ _ b a C hm zO jw=>
  subst hL
  have o7:=mZ r hg hm
  have self:∀(l:List α),∀x∈l.flatMap bx,kK x=true:=fun l x hx=>by
   obtain⟨y,_,hy⟩:=List.mem_flatMap.1 hx
   exact(xg y x hy).1
  obtain⟨hH,jb,uw⟩:=zqb r ((zs.mergeSort (AA cf)).flatMap bx) (zs.flatMap bx) (self _) (self _) (by rw[DO hk,DO hk,List.length_mergeSort]) hg hl hm hz va
  have eF:∀l:List α,(l.flatMap bx).toArray=flatK bx k l.toArray:=fun l=>Array.ext' (by rw[zun hk h0])
  rw[eF] at hH jb uw
  have BH:zs.toArray.size<4611686018427387904:=by simpa using fp
  have hc:=AnyQ.slices_SortFunc_total L k aE zE bx hk (fun x v hv=>(xg x v hv).2) cf hO g #[] b (a+off) (gj C kk) zs.toArray w eg (fun m os dk _ x y=>C0 x y _) hH o7.qW BH hT
  have N3:zs.toArray.size=zs.length:=by simp
  rw[N3] at hc
  refine hc.mono fun e w' ⟨h1,n,os,h2⟩=>?_
  subst h2
  obtain⟨Cr,hf3⟩:=W2 (lo:=lo) os n jb
  exact⟨.tuple #[],_,_,U,h1,.tuple #[] #[] rfl (fun i h=>by simp at h),Cr,uw.trans hf3,rfl,rfl⟩
 |bS=>exact absurd mj (Nat.lt_irrefl _)
 |cg=>omega
end
theorem L8 {α:Type}(l:α→List Int)(zs:List α):(zs.map fun x=>PV.agg ((l x).map (PV.int .i64))).flatMap PV.cells=(zs.flatMap l).map (PV.int .i64):=by
 induction zs with
 |nil=>rfl
 |cons a r ih=>rw[List.map_cons,List.flatMap_cons,ih,List.flatMap_cons,List.map_append];rfl
section
variable {P:Program} {vh:ai}
theorem du.YK {ρ:Ren}(L:SlLaysF0.n6 P ρ){α:Type}[Inhabited α]{k:Nat}(h0:0<k)(aE:∀w,(isAgg (ρ.t 24)).run P w=.ok true w)(zE:∀w,(Go.sizeOf (ρ.t 24)).run P w=.ok k w)(l:α→List Int)(hk:∀x,(l x).length=k)
  (cf:α→α→Int) (hO:SWO (ltOf cf)) (hT:∀x y,ltOf cf x y=false→ltOf cf y x=false→x=y) (g:Nat) (eg:∀args w,(callFunc g args).run P w=.ok (.enter g args) w)
  (C0:∀x y w,Calls P g #[.agg ((l x).map (Value.int .i64)).toArray,.agg ((l y).map (Value.int .i64)).toArray] w fun e w'=>e=.returned (.int .i64 (cf x y))∧∃q qi,w'=Sort.grow (w.drewN q) qi)
  {i n:Nat} {nl:Bool} {zs:List α} (hg:vh.get i=some (.grow k (zs.map fun x=>PV.agg ((l x).map (PV.int .i64))))) (hn:zs.length=n) :
  du P (ρ.f 6) [.grow i n nl,.func g [] []] vh fun r ak=>r=.bn []∧ak=vh.put i (.grow k ((zs.mergeSort (AA cf)).map fun x=>PV.agg ((l x).map (PV.int .i64)))):=fun lo ga σ h aB ha s=>by
 subst hn
 obtain⟨v',r',rfl,hv,hr⟩:=ha.dw
 obtain⟨v2,r2,rfl,eT,jb⟩:=hr.dw
 have:=jb.iW;subst this
 have uw:v2=.func (.func g) #[] #[]:=by
  have e0:∀(xs:Array Value),([]:List PV).length=xs.size→xs=#[]:=fun xs hx=>Array.eq_empty_of_size_eq_zero (by simpa using hx.symm)
  cases eT with
  |fr _ _ hf=>
   cases hf with
   |func _ _ _ bl dv hx hy _ _=>rw[e0 _ hx,e0 _ hy]
  |func _ _ _ bl dv hx hy _ _=>rw[e0 _ hx,e0 _ hy]
 subst uw
 obtain⟨hi,Rb,eJ,dm,kP⟩:=s.obj i _ hg
 have empty:∀ {p:Option Addr} {cap:Nat},v'=.slice p 0 cap→zs.length=0→mG P lo (ρ.f 6) [v',.func (.func g) #[] #[]] h fun r h'=>∃g' aO v ak,VR g' aO ak.next v r∧VS lo g' aO ak h'∧ga.le g'∧(∀i,i<vh.next→aO i=σ i)∧VF σ vh h aO ak h'∧vh.next≤ak.next∧dQ ga σ vh h g'∧v=.bn []∧
   ak=vh.put i (.grow k ((zs.mergeSort (AA cf)).map fun x=>PV.agg ((l x).map (PV.int .i64)))):=fun {p cap} aW hz=>by
  have hz:=List.eq_nil_of_length_eq_zero hz
  subst hz
  subst aW
  have hs:([]:List α).mergeSort (AA cf)=[]:=by simp
  rw[hs]
  obtain⟨s1,f1⟩:=s.cz hg
  refine .H5 fun U w a6 NR r=>?_
  obtain⟨v2,r2,oN,Ei,Ks⟩:=NR.dw
  obtain⟨v3,r3,N4,yaI,N5⟩:=Ks.dw
  have:=N5.iW;subst this
  subst N4
  have hsh:∃p' zL,v2=.slice p' 0 zL:=by cases Ei<;>exact⟨_,_,rfl⟩
  obtain⟨p',zL,rfl⟩:=hsh
  have gJ:a6=#[.slice p' 0 zL,v3]:=Array.ext' (by simpa using oN)
  subst gJ
  refine(AnyF.slices_SortFunc_none L p' zL v3 w).mono fun e w' ⟨h1,h2⟩=>?_
  subst h2
  exact⟨.tuple #[],_,h,U,h1,.tuple #[] #[] rfl (fun i h=>by simp at h),r,Frame.refl _ _ _ _,ga,σ,.bn [],_,.fr _ _ rN,s1,Fz.le_refl ga,fun _ _=>rfl,f1,Nat.le_refl _,dQ.refl _ _ _ _,rfl,rfl⟩
 rcases kP with s9|⟨s0,ar,h1,h2,h3,h4⟩
 ·have hz:zs.length=0:=by have:=congrArg List.length s9;simpa using this
  have ko:zs=[]:=List.eq_nil_of_length_eq_zero hz
  subst ko
  cases hv with
  |fr _ _ h=>cases h
  |bX=>exact empty rfl rfl
  |bY=>exact empty rfl rfl
  |grow _ _ _ _ _ _ _ _ hn=>simp at hn
 rw[L8] at h3
 have oN:=be.ints h3
 generalize hm:zs.length=m at hv
 cases hv with
 |fr _ _ h=>cases h
 |bX=>exact empty rfl hm
 |bY=>exact empty rfl hm
 |grow _ _ o a kk _ dJ hs hn=>
  subst hm
  have fB:(aL.grow k (zs.map fun x=>PV.agg ((l x).map (PV.int .i64)))).live=true:=by
   cases zs with
   |nil=>simp at hn
   |cons=>rfl
  have bD:=s.low i _ hg fB
  rw[hs] at h1 h2 h4 bD;simp only at h1 h2 h4 bD;subst h2
  subst oN
  have za:zs.length<4611686018427387904:=by
   have h6:(zs.map fun x=>PV.agg ((l x).map (PV.int .i64))).length<4611686018427387904:=dm
   rw[List.length_map] at h6
   exact h6
  have dL:kk<dI:=by
   show kk<9223372036854775808
   rcases h4 with⟨rfl,_⟩|rfl
   ·decide
   rw[List.length_map];omega
  have ra:∀zs:List α,zs.flatMap (fun x=>(l x).map (Value.int .i64))=(zs.flatMap l).map (Value.int .i64):=fun zs=>by rw[List.map_flatMap]
  have hS:=mG.z1c (P:=P) (h:=h) (lo:=lo) L h0 aE zE (fun x=>(l x).map (Value.int .i64)) (fun x=>by simp[hk]) (fun x v hv=>by obtain⟨n,_,rfl⟩:=List.mem_map.1 hv;exact⟨rfl,rfl⟩) cf hO hT g eg C0 (off:=0) (kk:=kk) (zs:=zs) h1 bD (Nat.zero_le _) (fun t x hx=>by rw[ra] at hx;simpa using hx) za dL hn
  refine hS.mono fun r h' ⟨e1,e2⟩=>?_
  obtain⟨ms,Gt⟩:∃ms,zs.mergeSort (AA cf)=ms:=⟨_,rfl⟩
  have hlen:ms.length=zs.length:=by rw[← Gt];exact List.length_mergeSort zs
  rw[Gt] at e2 ⊢
  rw[ra] at e2
  have da:((ms.flatMap l).map (Value.int .i64)).length=((zs.flatMap l).map (Value.int .i64)).length:=by rw[List.length_map,List.length_map,DO hk,DO hk,hlen]
  have N6:fq ((zs.flatMap l).map (Value.int .i64)) 0 ((ms.flatMap l).map (Value.int .i64))=(ms.flatMap l).map (Value.int .i64):=by
   unfold fq
   rw[da];simp
  rw[N6] at e2
  subst e1;subst e2
  have hw:=s.write hg fB (x':=.grow k (ms.map fun x=>PV.agg ((l x).map (PV.int .i64)))) (.cells s0 ((ms.flatMap l).map (Value.int .i64)))
   ⟨Rb,fun e he=>(by obtain⟨x,_,rfl⟩:=List.mem_map.1 he;show ((l x).map (PV.int .i64)).length=k;rw[List.length_map,hk]),by rw[List.length_map,hlen];exact za,.inr ⟨s0,_,by rw[ah.dH _ _ _ _ (by rw[hs];exact ah.fJ h1),if_pos rfl],by rw[hs],by rw[L8];exact be.L9 _,by
    rw[hs];simp only[List.length_map,hlen] at h4 ⊢;exact h4⟩⟩
  rw[hs] at hw
  exact⟨ga,σ,.bn [],_,.fr _ _ rN,hw.1,Fz.le_refl ga,fun _ _=>rfl,hw.2,Nat.le_refl _,dQ.refl _ _ _ _,rfl,rfl⟩
end
theorem x7.grown {w w':World}(hd:bG.dr)(h:x7 w w'):∃q qi,w'=Sort.grow (w.drewN q) qi:=by
 obtain⟨⟨c1,c2,c3,c4⟩,hs,hk⟩:=h
 have c4:=c4 hd
 refine⟨w'.drawn - w.drawn,w'.heap.extract w.heap.size w'.heap.size,?_⟩
 obtain⟨qX,tp',dr',qi,ou'⟩:=w'
 obtain⟨hp,tp,dr,os,ou⟩:=w
 simp only at c1 c2 c3 c4 hs hk
 subst c1;subst c2;subst c3
 unfold Sort.grow World.drewN
 simp only[World.mk.injEq,and_true,true_and]
 refine⟨Array.ext_getElem? fun i=>?_,by omega⟩
 rw[Array.getElem?_append]
 split
 ·rename_i hi;exact hk i hi
 rename_i hi
 rw[Array.getElem?_extract]
 split
 ·congr 1;omega
 rw[Array.getElem?_eq_none (by omega)]
omit [bG] in
theorem aN.z9m {P:Program}{f:FuncId}{args:List PV}{k:IntKind}{n:Int}(hp:@aN bG.no P f args fun r=>r=.int k n){w:World}{a6:Array Value}(hl:args.length=a6.size)
  (ha:∀(i:Nat) v v',args[i]?=some v→a6[i]?=some v'→CV w v v'):Calls P f a6 w fun e w'=>e=.returned (.int k n)∧@x7 bG.no w w':=by
 letI:bG:=bG.no
 have e0:∀o x,ah.empty.get o=some x→False:=fun o x hx=>by rw[ah.N9] at hx;cases hx
 have r0:Rel (fun _=>none) ah.empty.next ah.empty w:=⟨fun o x hx=>(e0 o x hx).elim,fun o o' x x' b a C a' C' _ hx=>(e0 o x hx).elim,fun o x hx=>(by cases hx),fun o x b a C _ hx=>(e0 o x hx).elim,Nat.le_refl _,⟨fun b hb=>absurd hb (Nat.not_lt_zero _),Nat.zero_le _,fun o x b a C _ hx=>(e0 o x hx).elim⟩⟩
 obtain⟨U,h,us,m,r,f1,v1⟩:=Hh (l':=a6.toList) (by simpa using hl) (fun i v v' hv aW=>(ha i v v' hv (by simpa using aW)).Uz) _ _ r0
 have hc:mG P h.next f us h _:=hp h.next h.get (fun _=>(0,0,0)) h us ⟨f1.1,fun i v v' hv aW=>.fr _ _ (f1.2 i v v' hv aW)⟩ (VS.none (fun _ _ hx=>hx) (Nat.le_refl _) _)
 refine Calls.mono (callsIn_wide.1 (hc Fence.wide OI rfl 0 U w a6 v1 r)) fun e w' ⟨r',v,h',aQ,k1,k2,k3,k4,g',aO,pv,ak,k5,_,_,_,_,_,_,k6,k7⟩=>?_
 subst k7
 cases k5 with
 |fr _ _ hf=>
  cases hf
  cases k2
  exact⟨k1,k4.calm,k4.size,fun b hb=>k4.kept b hb (by rintro⟨o,x,a,C,g1,g2,_⟩;have:=ah.fJ g2;omega)⟩
omit [bG] in
theorem CV.ints {w:World}(l:List Int):CV w (.agg (l.map (PV.int .i64))) (.agg (l.map (Value.int .i64)).toArray):=
 .agg _ _ (by simp) fun i v v' hv aW=>by
  rw[List.getElem?_map] at hv
  simp only[List.getElem?_toArray,List.getElem?_map] at aW
  cases hi:l[i]? with
  |none=>rw[hi] at hv;cases hv
  |some x=>
   rw[hi] at hv aW
   simp only[Option.map_some,az] at hv aW
   subst hv;subst aW
   exact .int _ _
omit [bG] in
theorem aN.cmp {P:Program}{f:FuncId}{a b:List Int}{n:Int}(hp:@aN bG.no P f [.agg (a.map (PV.int .i64)),.agg (b.map (PV.int .i64))] fun r=>r=.int .i64 n)(w:World) :
  Calls P f #[.agg (a.map (Value.int .i64)).toArray,.agg (b.map (Value.int .i64)).toArray] w fun e w'=>e=.returned (.int .i64 n)∧∃q qi,w'=Sort.grow (w.drewN q) qi:=
 (aN.z9m hp (w:=w) (a6:=#[.agg (a.map (Value.int .i64)).toArray,.agg (b.map (Value.int .i64)).toArray]) rfl fun i v v' hv aW=>by
  match i,hv,aW with
  |0,hv,aW=>simp at hv aW;subst hv;subst aW;simpa using CV.ints (w:=w) a
  |1,hv,aW=>simp at hv aW;subst hv;subst aW;simpa using CV.ints (w:=w) b
  |i+2,hv,_=>simp at hv).mono fun e w' ⟨h1,h2⟩=>letI:bG:=bG.no;⟨h1,x7.grown trivial h2⟩
def kY (sz:Nat)(es:List PV):Prop:=∀e∈es,∃cs,e=.agg cs∧cs.length=sz
theorem kY.map {α:Type}{sz:Nat}{f:α→PV}{g:α→List PV}(hf:∀x,f x=.agg (g x))(hg:∀x,(g x).length=sz)(l:List α):kY sz (l.map f):=fun e he=>by
 obtain⟨x,_,rfl⟩:=List.mem_map.1 he
 exact⟨g x,hf x,hg x⟩
theorem kY.len {sz:Nat}:∀ {es:List PV},kY sz es→(es.flatMap PV.cells).length=es.length*sz
 |[],_=>by simp
 |e::r,h=>by
  obtain⟨cs,rfl,hc⟩:=h _ List.mem_cons_self
  have:=kY.len (es:=r) fun x hx=>h x (List.mem_cons_of_mem _ hx)
  rw[List.flatMap_cons,List.length_append,this,List.length_cons,Nat.succ_mul]
  show cs.length+_=_
  omega
theorem N7 {sz:Nat}:∀ {es:List PV},kY sz es→∀r:List PV,chunk true sz es.length (es.flatMap PV.cells++r)=es
 |[],_,r=>rfl
 |e::l,h,r=>by
  obtain⟨cs,rfl,hc⟩:=h _ List.mem_cons_self
  have ih:=N7 (es:=l) (fun x hx=>h x (List.mem_cons_of_mem _ hx)) r
  simp only[chunk,aM] at ih ⊢
  rw[List.length_cons,List.range_succ_eq_map,List.map_cons,List.map_map,List.flatMap_cons]
  have e0:(PV.agg cs).cells=cs:=rfl
  rw[e0,List.append_assoc]
  congr 1
  ·rw[Nat.zero_mul,List.drop_zero,List.take_left' hc]
  have:((fun i=>PV.agg (((cs++(l.flatMap PV.cells++r)).drop (i*sz)).take sz))∘Nat.succ)=fun i=>PV.agg (((l.flatMap PV.cells++r).drop (i*sz)).take sz):=by
   funext i
   simp only[Function.comp]
   rw[show i.succ*sz=cs.length+i*sz by rw[Nat.succ_mul,hc];omega,List.drop_append,List.drop_eq_nil_of_le (by omega),Nat.add_sub_cancel_left,List.nil_append]
  rw[this];exact ih
section
variable {vh:ai}
theorem Ua {i n k sz:Nat}{es r:List PV}(hg:vh.get i=some (.arr true sz (es.flatMap PV.cells++r)))(he:kY sz es)(hn:es.length=n):jY vh sz (.own i 0 n k)=some es:=by
 subst hn
 have hl:=he.len
 have h1:Nat.ble (0+es.length*sz) (es.flatMap PV.cells++r).length=true:=by rw[Nat.ble_eq,List.length_append,hl];omega
 simp only[jY,hg,List.drop_zero,h1,Bool.true_or,Bool.and_true,beq_eq,decide_true,aM,N7 he r]
theorem IM {i n sz:Nat}{es r:List PV}(hg:vh.get i=some (.arr true sz (es.flatMap PV.cells++r)))(he:kY sz es)(hn:es.length=n):jY vh sz (.sub i 0 n)=some es:=by
 subst hn
 have hl:=he.len
 have h1:Nat.ble (0+es.length*sz) (es.flatMap PV.cells++r).length=true:=by rw[Nat.ble_eq,List.length_append,hl];omega
 simp only[jY,hg,List.drop_zero,h1,Bool.true_or,Bool.and_true,beq_eq,decide_true,aM,N7 he r]
theorem ZY {P:Program}{t e:TypeId}{i n k sz:Nat}{es:List PV}{z:List PV}(ht:fT P t=some (e,sz))(h0:0<sz)(he:kY sz es)(hs:ky sz es=true)(h1:kz es=true)(hz:z.length=sz)(hn:es.length=n)(hg:vh.get i=some (.arr true sz (cG z n))) :
  dh P vh t (.own i 0 n k) (.vec es)=some (.int .i64 n,vh.put i (.arr true sz (es.flatMap PV.cells))):=by
 subst hn
 have hl:=he.len
 have hp:∀m,(cG z m).length=m*sz:=fun m=>by
  induction m with
  |zero=>simp[cG]
  |succ m ih=>unfold cG at ih ⊢;rw[List.replicate_succ,List.flatten_cons,List.length_append,ih,hz,Nat.succ_mul];omega
 have hv:jY vh sz (.vec es)=some es:=by simp only[jY,hs,aM]
 have h2:kx (cG z es.length) 0 (es.flatMap PV.cells)=es.flatMap PV.cells:=by
  unfold kx
  rw[List.take_zero,List.nil_append,List.drop_eq_nil_of_le (by rw[hp,hl];omega),List.append_nil]
 have h3:Nat.blt 0 sz=true:=by rw[Nat.blt_eq];exact h0
 have h4:Nat.ble (0+es.length*sz) (cG z es.length).length=true:=by rw[Nat.ble_eq,hp];omega
 simp only[dh,ht,hv,hg,List.take_length,h3,h4,h1,Bool.and_true,aM,h2]
 congr 3
 simp
end
theorem zv0 {U:Mu}{lo:Nat}{h:ah}{w w':World}(hd:¬bG.dr)(r:Rel U lo h w)(b:Go.RowKit.Below w.heap.size w w'):Rel U lo h w'∧Frame lo U h w U h w':=by
 have hk:=b.block
 refine Rel.Ju r (fun o x hx=>?_) r.inj r.nE (fun o x b' a C hl hx hm off=>?_) r.bI ⟨Mu.le_refl _,b.size,Nat.le_refl _,fun k jw _=>hk k jw,fun _ _ h=>h,fun _ _=>rfl,fun _ _=>rfl,fun _ _ h=>h,⟨b.os,b.output,b.tape,fun h=>absurd h hd⟩⟩
 ·obtain⟨b',a,C,h1,h2⟩:=r.bg o x hx
  exact⟨b',a,C,h1,h2.kept (hk _ h2.qW)⟩
 rw[x9 (hk _ (mZ r hx hm).qW)]
 exact r.eI o x b' a C hl hx hm off
theorem aN.world {P:Program}{f:FuncId}{args:List PV}{v:PV}{u:Value}(hd:¬bG.dr)(hv:∀g,FR g v u)(hs:kK u=true)(hF:v.aH=true)
  (hc:∀lo g σ h aB U w a6,be (VR g σ 0) args aB→VS lo g σ ai.empty h→br U aB a6.toList→Rel U lo h w→Calls P f a6 w fun e w'=>e=.returned u∧Go.RowKit.Below w.heap.size w w') :
  aN P f args fun r=>r=v:=fun lo g σ h aB ha s=>mG.H5 fun U w a6 hr r=>
 (hc lo g σ h aB U w a6 ha s hr r).mono fun e w' ⟨he,hb⟩=>
  let ⟨r',f'⟩:=zv0 hd r hb
  ⟨u,u,h,U,he,.yb hs,r',f',g,σ,v,ai.empty,.fr _ _ (hv _),s,Fz.le_refl g,fun _ _=>rfl,VF.refl _ _ _,Nat.le_refl _,dQ.refl _ _ _ _,hF,rfl⟩
theorem FR.ints {g:Fz}{l:List Int}{v:Value}(h:FR g (.agg (l.map (.int .i64))) v):v=.agg (l.map (Value.int .i64)).toArray:=by
 cases h with
 |agg cs ar hs hr=>
  congr 1
  apply Array.ext
  ·simpa using hs.symm
  intro i h1 h2
  have h3:i<l.length:=by simpa using h2
  have h4:=hr i (.int .i64 l[i]) ar[i] (by simp[h3]) (by simp[h1])
  generalize hu:ar[i]=u at h4
  cases h4
  simp
theorem VR.ints {g:Fz}{σ:Sg}{n:Nat}{l:List Int}{v:Value}(h:VR g σ n (.agg (l.map (.int .i64))) v):v=.agg (l.map (Value.int .i64)).toArray:=by
 cases h with
 |fr _ _ h=>exact h.ints
 |agg cs ar hs hr=>
  congr 1
  apply Array.ext
  ·simpa using hs.symm
  intro i h1 h2
  have h3:i<l.length:=by simpa using h2
  have h4:=hr i (.int .i64 l[i]) ar[i] (by simp[h3]) (by simp[h1])
  generalize hu:ar[i]=u at h4
  cases h4 with
  |fr _ _ h=>cases h;simp
theorem zu4 (l:List Int):kK (.agg (l.map (Value.int .i64)).toArray)=true:=by
 unfold kK
 simp[tu]
end Go.Am
end
section
namespace Go.Am
open Go Go.Proofs
section
variable [bG]
theorem aN.z7w {P:Program}{vh:ai}{f:FuncId}{args cB:List PV}{R:PV→Prop}(hp:aN P f cB R)(o6:cA vh args=some cB):zF P f args vh fun v ak=>ak=ia (PV.di args) vh∧R v:=fun lo g σ h aB ha s=>by
 have hA:=CY vh (fun i=>(PV.di args).contains i) args cB (fun i hi=>by simpa using hi) o6
 have zG:=aF.ok s hA ha
 have hF:PV.aJ cB=true:=CT vh args cB o6
 have hle:=tn (D:=fun i=>(PV.di args).contains i) s
 have hS:VS lo (g.more σ vh h fun i=>(PV.di args).contains i) σ (ia (PV.di args) vh) h:=by
  refine⟨fun j y hy=>?_,fun j k y z hy hz=>s.inj j k y z (rP _ _ _ _ hy).2 (rP _ _ _ _ hz).2,fun j y hy=>s.low j y (rP _ _ _ _ hy).2,G8 s,fun j y hy hl=>?_,s.bI⟩
  ·obtain⟨k1,k2⟩:=s.obj j y (rP _ _ _ _ hy).2
   rw[x5]
   exact⟨k1,k2.mono hle (Nat.le_refl _) (fun _ _=>rfl) k1 fun _=>rfl⟩
  obtain⟨h1,h2⟩:=rP _ _ _ _ hy
  unfold Fz.more
  rw[if_neg]
  ·exact s.jf j y h2 hl
  rintro⟨i,z,k1,k2,k3,k4⟩
  have:=s.inj i j z y k2 h2 k3 hl k4
  subst this
  exact h1 (by simpa using k1)
 have Hf:VF σ vh h σ (ia (PV.di args) vh) h:=⟨Nat.le_refl _,fun _ _ _=>rfl,fun j y hy hl _=>⟨j,y,(rP _ _ _ _ hy).2,hl,rfl⟩⟩
 refine((hp.CU (vh:=ia (PV.di args) vh) hF) lo _ σ h aB (zG.aH hF).vr hS).mono fun r h' ⟨h0,g',aO,v,ak,h1,h2,h3,h4,h5,h6,h7,h8⟩=>?_
 rw[x5] at h4 h6
 exact⟨h0,g',aO,v,ak,h1,h2,Fz.le_trans hle h3,h4,Hf.trans h5,h6,Jp.trans Hf h7,h8⟩
theorem p7.Iv {P:Program}{N b:Nat}{ae:aX}{vh:ai}{ops:Array Oper}{todo:List Nat}{o:Oper}{next:List Nat→aX→ai→Prop}{fo:Operand}{args:Array Operand}{aT:Array TypeId}{f:FuncId}{xs ys l cB:List PV}{R:PV→Prop}(ho:o.op=.call ⟨.value fo,args,aT⟩)
  (hf:cN ae fo=some (.func f xs ys)) (hl:jL ae args.toList=some l) (dR:∀cs w,(callFunc f cs).run P w=.ok (.enter f cs) w) (hd:gB N o.dst=true)
  (hz:cA vh (xs++l++ys)=some cB) (hp:aN P f cB R) (hn:∀r,R r→next (iL ops todo o.dst) (bZ ae o.dst r) (ia (PV.di (xs++l++ys)) vh)):p7 P N b ops o todo next ae vh:=
 .CU ho hf hl dR hd ((hp.z7w hz).mono fun r ak ⟨h1,h2⟩=>h1▸hn r h2)
end
end Go.Am
end
