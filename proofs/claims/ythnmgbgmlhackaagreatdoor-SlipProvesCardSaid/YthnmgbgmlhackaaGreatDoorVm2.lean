/-
 What is used in the proof of a statement (part Vm2); no condition.
-/
import Derived.Shelf.SortM.SortNone
import Derived.SizedLaws
import Derived.ReadAgain
import Derived.ChangeArms
import Derived.ChangeSame
import Derived.Shelf.SlSortCmp.NoneTotal
import Derived.Below
import Derived.Test.YthnmgbgmlhackaaGreatDoorVm1
import Derived.Test.YthnmgbgmlhackaaGreatDoorAm3
import Derived.Test.YthnmgbgmlhackaaGreatDoorAm2
set_option linter.all false
set_option maxHeartbeats 40000000
set_option maxRecDepth 100000
section
namespace Go.Am
variable [bE]
theorem bp.ints {g:Fz}:∀ {l:List Int} {l':List Value},bp (FR g) (l.map (PV.int .i64)) l'→l'=l.map (Value.int .i64)
 |[],l',h=>h.lV
 |a::r,l',h=>by
  obtain⟨v',r',rfl,h1,h2⟩:=h.eJ
  cases h1
  rw[bp.ints h2];rfl
theorem bp.Rb {g:Fz}:∀l:List Int,bp (FR g) (l.map (PV.int .i64)) (l.map (Value.int .i64))
 |[]=>.nil
 |a::r=>.cons (.int _ _) (bp.Rb r)
section
variable {P:Program} {vh:af}
end
section
variable {P:Program} {N i j tI tN tB tE:Nat} {o1 o2 o3:Oper} {Py:Array Oper} {body:Code} {id1 id2:Nat}
end
inductive CV (w:World):PV→Value→Prop where
  |bool (b:Bool):CV w (.bool b) (.bool b)
  |int (k:IntKind) (n:Int):CV w (.int k n) (.int k n)
  |str (s:ByteArray):CV w (.str s) (.string s)
  |nilIface:CV w .nilIface .nilIface
  |ie:CV w (.vec []) (.slice none 0 0)
  |et (p:Addr) (k:Nat):CV w (.vec []) (.slice (some p) 0 k)
  |vec (es:List PV) (b off k sz:Nat) (cs:List Value) (hk:es.length≤k) (hl:es.length<aC) (h0:0<sz) (dU:∀e∈es,e.cells.length=sz) (hb:b<w.heap.size)
      (hc:∀(n:Nat) v',cs[n]?=some v'→w.cell? ⟨b,off+n,none⟩=some v') (hlen:cs.length=(es.flatMap PV.cells).length)
      (r:∀(n:Nat) v v',(es.flatMap PV.cells)[n]?=some v→cs[n]?=some v'→CV w v v'):CV w (.vec es) (.slice (some ⟨b,off,none⟩) es.length k)
  |agg (cs:List PV) (au:Array Value) (hs:cs.length=au.size) (r:∀(i:Nat) v v',cs[i]?=some v→au[i]?=some v'→CV w v v'):CV w (.agg cs) (.agg au)
structure qR (U:Mu) (h:ai) (aV:Mu) (h':ai):Prop where
  le:U.le aV
  sub:∀o x,h.get o=some x→h'.get o=some x
theorem qR.refl (U:Mu)(h:ai):qR U h U h:=⟨Mu.le_refl U,fun _ _ h=>h⟩
theorem qR.trans {U qS Dc:Mu}{h h1 h2:ai}(a:qR U h qS h1)(b:qR qS h1 Dc h2):qR U h Dc h2:=⟨Mu.le_trans a.le b.le,fun o x hx=>b.sub o x (a.sub o x hx)⟩
def zv5 (w:World)(v:PV)(v':Value):Prop:=
 ∀U h,Rel U h.next h w→∃aV h' u,qR U h aV h'∧Rel aV h'.next h' w∧FR h'.get v u∧ao aV u v'
theorem LR {w:World}:∀ {l:List PV} {l':List Value},l.length=l'.length→(∀(i:Nat) v v',l[i]?=some v→l'[i]?=some v'→zv5 w v v')→
  ∀U h,Rel U h.next h w→∃aV h' us,qR U h aV h'∧Rel aV h'.next h' w∧bp (FR h'.get) l us∧bB aV us l'
 |[],[],_,_,U,h,r=>⟨U,h,[],qR.refl U h,r,⟨rfl,fun i v v' hv=>by simp at hv⟩,.nil _⟩
 |[],_::_,hl,_,_,_,_=>by simp at hl
 |_::_,[],hl,_,_,_,_=>by simp at hl
 |x::l,x'::l',hl,hr,U,h,r=>by
  obtain⟨qS,h1,u,m1,r1,f1,v1⟩:=hr 0 x x' rfl rfl U h r
  obtain⟨Dc,h2,us,m2,r2,f2,v2⟩:=LR (l:=l) (l':=l') (by simpa using hl) (fun i v v' hv bg=>hr (i+1) v v' (by simpa using hv) (by simpa using bg)) qS h1 r1
  refine⟨Dc,h2,u::us,m1.trans m2,r2,⟨by simp[f2.1],fun i v v' hv bg=>?_⟩,.cons (v1.mono m2.le) v2⟩
  cases i with
  |zero=>simp at hv bg;subst hv;subst bg;exact f1.mono m2.sub
  |succ i=>exact f2.2 i v v' (by simpa using hv) (by simpa using bg)
theorem zqs {w:World}{U:Mu}{h:ai}(r:Rel U h.next h w){b off C:Nat}{us cs:List Value}(hb:b<w.heap.size)(hv:bB U us cs)(hc:∀(n:Nat) v',cs[n]?=some v'→w.cell? ⟨b,off+n,none⟩=some v') :
  qR U h (U.put h.next (b,off,C)) (h.alloc (.cells 0 us))∧Rel (U.put h.next (b,off,C)) (h.alloc (.cells 0 us)).next (h.alloc (.cells 0 us)) w:=by
 have hle:=r.EB (b,off,C)
 refine⟨⟨hle,fun o x hx=>?_⟩,⟨fun o x hx=>?_,fun o o' x x' b1 a1 C1 a2 C2 hl hx=>?_,fun o x hx=>?_,fun o x b1 a1 C1 hl hx=>?_,Nat.le_refl _,⟨r.mM.gl,r.mM.ks,fun o x b1 a1 C1 hl hx=>absurd (ai.iE hx) (by omega)⟩⟩⟩
 ·rw[ai.lf,if_neg (by have:=ai.iE hx;omega)];exact hx
 ·rw[ai.lf] at hx
  by_cases ho:o=h.next
  ·simp[ho] at hx
   subst hx;subst ho
   refine⟨b,off,C,Mu.cX _ _ _,hb,fun i v hi=>?_,fun h=>absurd h (Nat.lt_irrefl _)⟩
   obtain⟨v',h1,h2⟩:=hv.2 i v hi
   exact⟨v',hc i v' h1,h2.mono hle⟩
  simp[ho] at hx
  obtain⟨b1,a1,C1,h1,h2⟩:=r.br o x hx
  exact⟨b1,a1,C1,hle _ _ h1,h2.mono hle⟩
 ·have:=ai.iE hx;omega
 ·by_cases ho:o=h.next
  ·subst ho;simp
  rw[Mu.lX _ ho] at hx
  have:=r.rm o x hx
  simp;omega
 have:=ai.iE hx;omega
theorem CV.zwe {w:World}{v:PV}{v':Value}(hc:CV w v v'):zv5 w v v':=by
 induction hc with
 |bool b=>exact fun U h r=>⟨U,h,_,.refl _ _,r,.bool b,.bool b⟩
 |int k n=>exact fun U h r=>⟨U,h,_,.refl _ _,r,.int k n,.int k n⟩
 |str s=>exact fun U h r=>⟨U,h,_,.refl _ _,r,.str s,.string s⟩
 |nilIface=>exact fun U h r=>⟨U,h,_,.refl _ _,r,.nilIface,.nilIface⟩
 |ie=>exact fun U h r=>⟨U,h,_,.refl _ _,r,.ie,.eX⟩
 |et p k=>exact fun U h r=>⟨U,h,_,.refl _ _,r,.et 0 0 eU,.cj _ _ _⟩
 |vec es b off k sz cs hk hl h0 dU hb oe hlen _ ih=>
  intro U h r
  obtain⟨qS,h1,us,m1,r1,f1,v1⟩:=LR hlen.symm ih U h r
  have hx:∃C kk,jz C kk=k∧kk≤aC∧es.length≤kk:=by
   by_cases qc:k<aC
   ·exact⟨0,k,by simp[jz,qc],Nat.le_of_lt qc,hk⟩
   exact⟨k,aC,by simp[jz],Nat.le_refl _,Nat.le_of_lt hl⟩
  obtain⟨C,kk,e1,e2,e3⟩:=hx
  obtain⟨m2,r2⟩:=zqs (C:=C) r1 hb v1 oe
  refine⟨_,_,.slice (some ⟨h1.next,0,none⟩) es.length kk,m1.trans m2,r2,?_,?_⟩
  ·refine .vec es h1.next 0 kk 0 sz us e3 ?_ (by rw[ai.lf];simp) h0 (fun i e he=>dU e (List.mem_of_getElem? he)) ?_ (fun i e j v v' he hv bg=>?_)
   ·simp only[aC] at hl e2;simp only[eU];omega
   ·have:=f1.1
    rw[DI dU] at this
    omega
   exact(Jc (R:=FR h1.get) dU f1 i e j v v' he hv (by simpa using bg)).mono m2.sub
  have:=ao.slice (U:=qS.put h1.next (b,off,C)) h1.next 0 es.length kk b off C (Mu.cX _ _ _) (by rw[e1];exact hk) (by simp only[aC] at e2;simp only[eU];omega)
  rw[e1] at this
  exact this
 |agg cs au hs _ ih=>
  intro U h r
  obtain⟨qS,h1,us,m1,r1,f1,v1⟩:=LR (l':=au.toList) (by simpa using hs) (fun i v v' hv bg=>ih i v v' hv (by simpa using bg)) U h r
  refine⟨qS,h1,.agg us.toArray,m1,r1,.agg cs us.toArray (by simpa using f1.1) (fun i v v' hv bg=>f1.2 i v v' hv (by simpa using bg)),?_⟩
  refine .agg us.toArray au (by have:=v1.1;simpa using this) (fun i hi dB=>?_)
  obtain⟨u',k1,k2⟩:=v1.2 i us[i] (by simp at hi ⊢)
  have:au[i]=u':=by simpa[dB] using k1
  rw[this];simpa using k2
def Bs (w w':World):Prop:=Calm w w'∧w.heap.size≤w'.heap.size∧∀b,b<w.heap.size→w'.heap[b]?=w.heap[b]?
theorem aI.enter {P:Program}{f:FuncId}{args:List PV}{t:Bool}(hp:aI P f args fun r=>r=.bool t){w:World}(tX:∀b,b<bE.K→w.heap[b]?=bE.obj b)(K0:bE.K≤w.heap.size){bj:Array Value}(hl:args.length=bj.size)
  (ha:∀(i:Nat) v v',args[i]?=some v→bj[i]?=some v'→CV w v v'):Calls P f bj w fun e w'=>e=.returned (.bool t)∧Bs w w':=by
 have e0:∀o x,ai.empty.get o=some x→False:=fun o x hx=>by rw[ai.T2] at hx;cases hx
 have r0:Rel (fun _=>none) ai.empty.next ai.empty w:=⟨fun o x hx=>(e0 o x hx).elim,fun o o' x x' b a C a' C' _ hx=>(e0 o x hx).elim,fun o x hx=>(by cases hx),fun o x b a C _ hx=>(e0 o x hx).elim,Nat.le_refl _,⟨tX,K0,fun o x b a C _ hx=>(e0 o x hx).elim⟩⟩
 obtain⟨U,h,us,m,r,f1,v1⟩:=LR (l':=bj.toList) (by simpa using hl) (fun i v v' hv bg=>(ha i v v' hv (by simpa using bg)).zwe) _ _ r0
 have hc:qv P h.next f us h _:=hp h.next h.get (fun _=>(0,0,0)) h us ⟨f1.1,fun i v v' hv bg=>.fr _ _ (f1.2 i v v' hv bg)⟩ (VS.none (fun _ _ hx=>hx) (Nat.le_refl _) _)
 refine Calls.mono (callsIn_wide.1 (hc Fence.wide Ux rfl 0 U w bj v1 r)) fun e w' ⟨r',v,h',aV,k1,k2,k3,k4,g',aU,pv,aq,k5,_,_,_,_,_,_,k6,k7⟩=>?_
 subst k7
 cases k5 with
 |fr _ _ hf=>
  cases hf
  cases k2
  exact⟨k1,k4.calm,k4.size,fun b hb=>k4.kept b hb (by rintro⟨o,x,a,C,g1,g2,_⟩;have:=ai.iE g2;omega)⟩
section
variable {H:Type} {enc:TypeId×Value→H} {P:Program} {w:World}
def Reads (enc:TypeId×Value→H)(P:Program)(w:World)(t:TypeId)(Q:PV→Prop):Prop:=
 ∀n cs x,DataW.trod enc P w 0 (fun _=>true) true n t cs=some x→(∀m∈x.1.weights P t,m≤reachBytes)→∃p:PV,p.cells.length=P.cellsOf t∧bp (CV w) p.cells cs∧Q p
theorem Reads.mono {t:TypeId}{Q Q':PV→Prop}(h:Reads enc P w t Q)(hq:∀p,Q p→Q' p):Reads enc P w t Q':=fun n cs x hx hm=>let ⟨p,h1,h2,h3⟩:=h n cs x hx hm;⟨p,h1,h2,hq p h3⟩
theorem Y6 {t:TypeId}{k:IntKind}(ht:P.underlying t=some (.int k))(hc:P.cellsOf t=1):Reads enc P w t fun p=>∃n,p=.int k n∧(Lit.int k n).wf=true:=by
 intro n cs x hx _
 cases n with
 |zero=>simp[DataW.trod] at hx
 |succ n=>
  unfold DataW.trod at hx
  rw[ht] at hx
  split at hx<;>simp_all
  obtain⟨⟨rfl,hw⟩,_⟩:=hx
  exact⟨_,rfl,.cons (.int _ _) .nil,_,rfl,hw⟩
theorem zub {e:TypeId}{l:List (DataW H)}{d:DataW H}(hd:d∈l):∀m∈d.weights P e,m∈DataW.weightsAll P e l:=by
 induction l with
 |nil=>cases hd
 |cons a r ih=>
  intro m hm
  simp only[DataW.weightsAll,List.mem_append]
  rcases List.mem_cons.1 hd with rfl|hd
  ·exact .inl hm
  exact .inr (ih hd m hm)
theorem z1q {a:Addr}{v:Value}(h:w.cell? a=some v):a.spot=none:=by
 cases hs:a.spot with
 |none=>rfl
 |some s=>
  simp only[World.cell?] at h
  split at h
  ·simp[hs] at h
  cases h
theorem zsi {t e:TypeId}{Q:PV→Prop}(ht:P.underlying t=some (.slice e))(hc:P.cellsOf t=1)(h0:0<P.cellsOf e)(rI:0<P.bytesOf e)(he:Reads enc P w e Q) :
  Reads enc P w t fun p=>∃es,p=.vec es∧(∀x∈es,Q x)∧es.length<aC∧es.length*P.bytesOf e≤reachBytes:=by
 intro n cs x hx hm
 rcases DataW.trod_slice ht hx with⟨rfl,rfl⟩|⟨a,len,cap,elems,rest,n',_,rfl,rfl,_,De,_,hlen,oI,_,_⟩
 ·exact⟨.vec [],by rw[hc];rfl,.cons .ie .nil,[],rfl,fun x h=>(by cases h),by decide,by simp⟩
 simp only[DataW.weights,ht] at hm
 have oS:len*P.bytesOf e≤reachBytes:=by
  have:=hm _ (List.mem_cons_self ..)
  simp only[List.length_map,hlen] at this
  exact Nat.le_trans (Nat.mul_le_mul_right _ (Nat.le_add_right _ _)) this
 have hbound:len<aC:=by
  have:=hm _ (List.mem_cons_self ..)
  simp only[List.length_map,hlen] at this
  have h2:len≤(len+rest.length)*P.bytesOf e:=Nat.le_trans (Nat.le_add_right _ _) (Nat.le_mul_of_pos_right _ rI)
  have:=reachBytes_lt
  simp only[aC];omega
 rcases Nat.eq_zero_or_pos len with wS|sQ
 ·subst wS
  exact⟨.vec [],by rw[hc];rfl,.cons (.et a cap) .nil,[],rfl,fun x h=>(by cases h),by decide,by simp⟩
 have TI:∀i,i<len→∃c y,w.cells? 0 (a.add (i*P.cellsOf e)) (P.cellsOf e)=some c∧DataW.trod enc P w 0 (fun _=>true) true n' e c=some y∧elems[i]?=some y:=fun i hi=>by
  have h1:=oI i hi
  rw[List.getElem?_eq_getElem (by omega)] at h1
  obtain⟨c,h2,h3⟩:=Option.bind_eq_some_iff.1 h1
  exact⟨c,_,h2,h3,by rw[List.getElem?_eq_getElem (by omega)]⟩
 have Ew:a.spot=none:=by
  obtain⟨c,y,h1,_,_⟩:=TI 0 sQ
  obtain⟨_,h2,h3⟩:=World.cells?_some h1
  have h4:=h3 0 h0
  rw[List.getElem?_eq_getElem (by omega)] at h4
  have:=z1q h4
  simpa[Addr.add] using this
 obtain⟨b,off,sp⟩:=a
 simp only at Ew
 subst Ew
 have build:∀m,m≤len→∃(es:List PV) (cc:List Value),es.length=m∧(∀p∈es,p.cells.length=P.cellsOf e∧Q p)∧bp (CV w) (es.flatMap PV.cells) cc∧(∀(k:Nat) v',cc[k]?=some v'→w.cell? ⟨b,off+k,none⟩=some v'):=by
  intro m
  induction m with
  |zero=>exact fun _=>⟨[],[],rfl,fun p h=>(by cases h),.nil,fun k v' h=>by simp at h⟩
  |succ m ih=>
   intro b7
   obtain⟨es,cc,h1,h2,h3,h4⟩:=ih (by omega)
   obtain⟨c,y,k1,k2,k3⟩:=TI m (by omega)
   obtain⟨p,p1,p2,p3⟩:=he n' c y k2 (fun q hq=>hm q (List.mem_cons_of_mem _ (List.mem_append_left _ (zub (List.mem_map.2 ⟨y,List.mem_of_getElem? k3,rfl⟩) q hq))))
   obtain⟨_,g2,g3⟩:=World.cells?_some k1
   have yt:cc.length=m*P.cellsOf e:=by rw[← h3.1,DI (fun x hx=>(h2 x hx).1),h1]
   refine⟨es++[p],cc++c,by simp[h1],fun x hx=>?_,by simpa using h3.append p2,fun k v' hk=>?_⟩
   ·rcases List.mem_append.1 hx with hx|hx
    ·exact h2 x hx
    simp at hx;subst hx;exact⟨p1,p3⟩
   by_cases hkc:k<cc.length
   ·rw[List.getElem?_append_left hkc] at hk;exact h4 k v' hk
   rw[List.getElem?_append_right (by omega)] at hk
   have a8:=(List.getElem?_eq_some_iff.1 hk).1
   have:=g3 (k - cc.length) (by omega)
   rw[wc,wc,hk] at this
   rw[← this]
   congr 2
   omega
 obtain⟨es,cc,h1,h2,h3,h4⟩:=build len (Nat.le_refl _)
 have hb:b<w.heap.size:=by
  obtain⟨c,y,k1,_,_⟩:=TI 0 sQ
  have:=World.cells?_block k1 h0
  simpa[Addr.add] using this
 refine⟨.vec es,by rw[hc];rfl,.cons ?_ .nil,es,rfl,fun x hx=>(h2 x hx).2,by omega,by rw[h1];exact oS⟩
 subst h1
 exact .vec es b off cap (P.cellsOf e) cc De hbound h0 (fun p hp=>(h2 p hp).1) hb h4 h3.1.symm (fun k v v' hv bg=>h3.2 k v v' hv bg)
theorem Lu {t e:TypeId}{Q:PV→Prop}(ht:P.underlying t=some (.slice e))(hc:P.cellsOf t=1)(h0:0<P.cellsOf e)(rI:0<P.bytesOf e)(he:Reads enc P w e Q) :
 Reads enc P w t fun p=>∃es,p=.vec es∧(∀x∈es,Q x)∧es.length<aC:=(zsi ht hc h0 rI he).mono fun p ⟨es,h1,h2,h3,_⟩=>⟨es,h1,h2,h3⟩
def total (P:Program):List Field→Nat
 |[]=>0
 |f::r=>P.cellsOf f.type+total P r
def Bl (P:Program):Nat→List Field→Bool
 |_,[]=>true
 |off,f::r=>decide (f.offset=off)&&Bl P (off+P.cellsOf f.type) r
theorem zl0 {n:Nat}{cs:List Value}:∀(fs:List Field) (off:Nat) (Qs:List (PV→Prop)) (xs:List (DataW H×List MemPlace)),fs.length=Qs.length→(∀(i:Nat) f Q,fs[i]?=some f→Qs[i]?=some Q→Reads enc P w f.type Q)→Bl P off fs=true→
  xs.length=fs.length→off+total P fs≤cs.length→
  (∀(i:Nat) (f:Field),fs[i]?=some f→DataW.trod enc P w 0 (fun _=>true) true n f.type ((cs.drop f.offset).take (P.cellsOf f.type))=xs[i]?)→
  (∀m∈DataW.weightsEach P (fs.map (·.type)) (xs.map (·.1)),m≤reachBytes)→
  ∃ps:List PV,ps.length=fs.length∧(ps.flatMap PV.cells).length=total P fs∧bp (CV w) (ps.flatMap PV.cells) ((cs.drop off).take (total P fs))∧∀(i:Nat) Q p,Qs[i]?=some Q→ps[i]?=some p→Q p
 |[],off,Qs,xs,hQ,_,_,_,_,_,_=>⟨[],rfl,rfl,by simp only[total,List.take_zero];exact .nil,fun i Q p _ hp=>by simp at hp⟩
 |f::fs,off,[],xs,hQ,_,_,_,_,_,_=>by simp at hQ
 |f::fs,off,Q::Qs,[],_,_,_,hx,_,_,_=>by simp at hx
 |f::fs,off,Q::Qs,x::xs,hQ,hr,Ip,hx,Az,htr,hm=>by
  simp only[Bl,bW,decide_eq_true_eq] at Ip
  obtain⟨ho,Ip⟩:=Ip
  simp only[total] at Az
  simp only[List.map_cons,DataW.weightsEach,List.mem_append] at hm
  have t0:=htr 0 f rfl
  simp only[List.getElem?_cons_zero] at t0
  obtain⟨p,p1,p2,p3⟩:=hr 0 f Q rfl rfl n _ x t0 (fun m h=>hm m (.inl h))
  obtain⟨ps,h1,h2,h3,h4⟩:=zl0 (n:=n) (cs:=cs) fs (off+P.cellsOf f.type) Qs xs (by simpa using hQ) (fun i f Q hf hq=>hr (i+1) f Q (by simpa using hf) (by simpa using hq)) Ip (by simpa using hx) (by omega)
   (fun i f' hf=>by have:=htr (i+1) f' (by simpa using hf);simpa using this) (fun m h=>hm m (.inr h))
  refine⟨p::ps,by simp[h1],by simp[total,h2,p1],?_,fun i Q' p' hq hp=>?_⟩
  ·have e1:(cs.drop off).take (total P (f::fs))=(cs.drop f.offset).take (P.cellsOf f.type)++(cs.drop (off+P.cellsOf f.type)).take (total P fs):=by
    subst ho
    rw[total,List.take_add,List.drop_drop]
   rw[e1,List.flatMap_cons]
   exact p2.append h3
  cases i with
  |zero=>simp at hq hp;subst hq;subst hp;exact p3
  |succ i=>exact h4 i Q' p' (by simpa using hq) (by simpa using hp)
theorem If {t:TypeId}{fs:Array Field}(Qs:List (PV→Prop))(ht:P.underlying t=some (.struct fs))(hQ:fs.toList.length=Qs.length)(hr:∀(i:Nat) f Q,fs.toList[i]?=some f→Qs[i]?=some Q→Reads enc P w f.type Q)
  (Ip:Bl P 0 fs.toList=true) (Az:total P fs.toList=P.cellsOf t):Reads enc P w t fun p=>∃ps:List PV,p=.agg (ps.flatMap PV.cells)∧ps.length=Qs.length∧∀(i:Nat) Q p,Qs[i]?=some Q→ps[i]?=some p→Q p:=by
 intro n cs x hx hm
 obtain⟨xs,n',_,rfl,hl,hlen,hf⟩:=DataW.trod_struct ht hx
 simp only[DataW.weights,ht] at hm
 obtain⟨ps,h1,h2,h3,h4⟩:=zl0 (n:=n') (cs:=cs) fs.toList 0 Qs xs hQ hr Ip (by simpa using hlen) (by rw[Az];omega) (fun i f rE=>hf i f (by simpa using rE)) hm
 refine⟨.agg (ps.flatMap PV.cells),by rw[← Az];exact h2,?_,ps,rfl,by rw[h1,hQ],h4⟩
 have e:(cs.drop 0).take (total P fs.toList)=cs:=by rw[Az,← hl];simp
 rw[e] at h3
 exact h3
end
open Go.ChangeShapes Go.WideShapes
section
variable {H:Type} {enc:TypeId×Value→H} {P:Program} {w w':World}
theorem Bs.sameAt (u:Bs w w'){p:MemPlace}(hp:p.block<w.heap.size):w.sameAt w' p:=by
 cases p with
 |cell b off=>exact EA (u.2.2 b hp)
 |map b=>exact u.2.2 b hp
theorem Bs.keptBut (u:Bs w w')(may:MemPlace→Prop):w.keptBut w' may:=by
 refine⟨u.1.1,u.1.2,fun i hi=>?_⟩
 rw[u.2.2 i hi]
 cases w.heap[i]? with
 |none=>rfl
 |some o=>cases o<;>first|exact⟨rfl,rfl,rfl,fun _ _=>rfl⟩|exact .inr ⟨rfl,rfl⟩|rfl
theorem zk8 {base:Nat}{spare:Nat→Bool}{held:Bool}:∀ {ts:List TypeId} {vs:List Value} {ds:List (DataW H)} {ps:List MemPlace},DataW.TrodAll enc P w base spare held ts vs ds ps→(∀p∈ps,w.sameAt w' p)→
  DataW.TrodAll enc P w' base spare held ts vs ds ps
 |[],_,_,_,h,_=>by
  obtain⟨rfl,rfl,rfl⟩:=trodAll_nil h
  exact trodAll_mk0
 |_::_,_,_,_,h,hs=>by
  obtain⟨v,vs1,d,ds1,a,b,rfl,rfl,rfl,⟨n,h1⟩,h2⟩:=trodAll_cons h
  exact⟨a,b,⟨n,DataW.trod_carry n _ _ _ h1 (fun p hp=>hs p (List.mem_append_left _ hp))⟩,zk8 h2 (fun p hp=>hs p (List.mem_append_right _ hp)),rfl⟩
theorem zot {T:TypeId→Prop}(K:Kids P T)(hz:∀t e,T t→P.underlying t=some (.slice e)→0<P.cellsOf e){f:Func}(hT:∀t∈f.params.toList,T t){s:ChangeSpec}{apart fresh handsOn:Bool}{args:Array Value}{v:Value}
  {ds gs:List (DataW H)} {before:List MemPlace} (hW:DataW.Whole enc P f.params.toList s.vars apart w args.toList ds gs before) (tP:s.vars=[])
  (Cc:∀(b:Nat) (sp:Nat→Bool) (hd:Bool),DataW.TrodAll enc P w' b sp hd f.resultTypes.toList (v.resultList f.resultTypes.size) (s.fn H (ds++gs)).results [])
  (j5:(s.fn H (ds++gs)).args=ds) (hv:(s.fn H (ds++gs)).vars=[]) (hu:Bs w w'):s.post enc P f apart fresh handsOn false w args v w':=by
 have a8:=hW.lt
 refine⟨ds,gs,before,[],before,[],hW,Cc _ _ _,?_,by rw[tP,hv];rfl,hu.keptBut _,fun h=>by cases h⟩
 obtain⟨p,q,h1,h2,rfl,_,_⟩:=hW
 rw[tP] at h2
 obtain⟨_,rfl⟩:=trodVars_none h2
 rw[List.append_nil] at a8 ⊢
 rw[j5]
 exact DataW.TrodAll.respare K hz hT (zk8 h1 (fun x hx=>hu.sameAt (a8 x hx))) (fun x hx=>by simpa using a8 x hx)
def yb (enc:TypeId×Value→H)(P:Program)(w:World)(base:Nat)(t:TypeId)(Q:PV→Prop):Prop:=
 ∀v d p,Value.okWide P w .any base t v→DataW.Trod enc P w 0 (fun _=>true) true t v d p→(∀m∈d.weights P t,m≤reachBytes)→∃pv:PV,CV w pv v∧Q pv
theorem zs7 {base:Nat}{t:TypeId}{Q:PV→Prop}(hv:∀v,Value.okWide P w .any base t v→v.cells=#[v])(hq:∀p,Q p→p.cells=[p])(hr:Reads enc P w t Q):yb enc P w base t Q:=by
 intro v d p iZ ⟨n,hn⟩ hm
 obtain⟨pv,_,h2,h3⟩:=hr n _ _ hn hm
 rw[hq pv h3,hv v iZ] at h2
 exact⟨pv,h2.2 0 _ _ rfl rfl,h3⟩
theorem Zg {base:Nat}{t:TypeId}{k:IntKind}{Q:PV→Prop}(ht:P.underlying t=some (.int k))(hq:∀p,Q p→p.cells=[p])(hr:Reads enc P w t Q):yb enc P w base t Q:=
 zs7 (fun v h=>by obtain⟨n,rfl⟩:=okWide_int ht h;rfl) hq hr
theorem zt0 {base:Nat}{t e:TypeId}{Q:PV→Prop}(ht:P.underlying t=some (.slice e))(hq:∀p,Q p→p.cells=[p])(hr:Reads enc P w t Q):yb enc P w base t Q:=
 zs7 (fun v h=>by obtain⟨a,l,c,rfl⟩:=okWide_slice ht h;rfl) hq hr
theorem Tj {base:Nat}{t:TypeId}{fs:Array Field}{Q:PV→Prop}(ht:P.underlying t=some (.struct fs))(hq:∀p,Q p→∃cs,p=.agg cs)(hr:Reads enc P w t Q):yb enc P w base t Q:=by
 intro v d p iZ ⟨n,hn⟩ hm
 obtain⟨cs,rfl,_⟩:=okWide_struct ht iZ
 obtain⟨pv,_,h2,h3⟩:=hr n _ _ hn hm
 obtain⟨ps,rfl⟩:=hq pv h3
 exact⟨_,.agg ps cs (by have:=h2.1;simpa[PV.cells,Value.cells] using this) (fun i v v' hv bg=>h2.2 i v v' hv (by simpa[Value.cells] using bg)),h3⟩
theorem z2q {base:Nat}:∀ {ts:List TypeId} (Qs:List (PV→Prop)) {vs:List Value} {ds:List (DataW H)} {ps:List MemPlace},ts.length=Qs.length→(∀(i:Nat) t Q,ts[i]?=some t→Qs[i]?=some Q→yb enc P w base t Q)→
  (∀(i:Nat) t v,ts[i]?=some t→vs[i]?=some v→Value.okWide P w .any base t v)→DataW.TrodAll enc P w 0 (fun _=>true) true ts vs ds ps→(∀m∈DataW.weightsEach P ts ds,m≤reachBytes)→
  ∃oN:List PV,oN.length=Qs.length∧bp (CV w) oN vs∧∀(i:Nat) Q p,Qs[i]?=some Q→oN[i]?=some p→Q p
 |[],[],_,_,_,_,_,_,h,_=>by
  obtain⟨rfl,rfl,rfl⟩:=trodAll_nil h
  exact⟨[],rfl,.nil,fun i Q p _ hp=>by simp at hp⟩
 |[],_::_,_,_,_,hl,_,_,_,_=>by simp at hl
 |_::_,[],_,_,_,hl,_,_,_,_=>by simp at hl
 |t::ts,Q::Qs,_,_,_,hl,ha,iZ,h,hm=>by
  obtain⟨v,vs1,d,ds1,a,b,rfl,rfl,rfl,h1,h2⟩:=trodAll_cons h
  simp only[DataW.weightsEach,List.mem_append] at hm
  obtain⟨p,k1,k2⟩:=ha 0 t Q rfl rfl v d a (iZ 0 t v rfl rfl) h1 (fun m hx=>hm m (.inl hx))
  obtain⟨oN,k3,k4,k5⟩:=z2q (base:=base) Qs (by simpa using hl) (fun i t Q ht hq=>ha (i+1) t Q (by simpa using ht) (by simpa using hq)) (fun i t v ht hv=>iZ (i+1) t v (by simpa using ht) (by simpa using hv)) h2 (fun m hx=>hm m (.inr hx))
  refine⟨p::oN,by simp[k3],k4.cons k1,fun i Q' p' hq hp=>?_⟩
  cases i with
  |zero=>simp at hq hp;subst hq;subst hp;exact k2
  |succ i=>exact k5 i Q' p' (by simpa using hq) (by simpa using hp)
theorem GC {T:TypeId→Prop}(K:Kids P T)(hz:∀t e,T t→P.underlying t=some (.slice e)→0<P.cellsOf e){fid:FuncId}{f:Func}(hT:∀t∈f.params.toList,T t){tb:TypeId}(hb:P.underlying tb=some .bool)(aP:f.resultTypes=#[tb])
  {s:ChangeSpec} (tP:s.vars=[]) {base:Nat} {args:Array Value} {ds gs:List (DataW H)} {before:List MemPlace}
  (fc:∀(j:Nat) t v,f.params[j]?=some t→args[j]?=some v→Value.okWide P w .any base t v) (hW:DataW.Whole enc P f.params.toList s.vars false w args.toList ds gs before)
  (dU:(DataW.weightsEach P (f.params.toList++s.plain.varTypes P) (ds++gs)).all (·≤reachBytes)=true) (hvt:s.plain.varTypes P=[])
  (LS:∀l:List (DataW H),l.length=f.params.toList.length→s.fn H l={ results:=[.lit (.bool true)],args:=l })
  (Qs:List (PV→Prop)) (hQ:f.params.toList.length=Qs.length) (ha:∀(i:Nat) t Q,f.params.toList[i]?=some t→Qs[i]?=some Q→yb enc P w base t Q)
  (tX:∀b,b<bE.K→w.heap[b]?=bE.obj b) (K0:bE.K≤w.heap.size)
  (walk:∀oN:List PV,oN.length=Qs.length→(∀(i:Nat) Q p,Qs[i]?=some Q→oN[i]?=some p→Q p)→aI P fid oN fun r=>r=.bool true) :
  Calls P fid args w fun e w'=>∃v,e=.returned v∧s.post enc P f false true false false w args v w':=by
 have hW':=hW
 obtain⟨p,q,h1,h2,rfl,_,_⟩:=hW
 rw[tP] at h2
 obtain⟨rfl,rfl⟩:=trodVars_none h2
 rw[hvt,List.append_nil,List.append_nil] at dU
 have BE:ds.length=f.params.toList.length:=by
  have:∀ {ts:List TypeId} {vs:List Value} {ds:List (DataW H)} {ps:List MemPlace},DataW.TrodAll enc P w 0 (fun _=>true) true ts vs ds ps→ds.length=ts.length:=by
   intro ts
   induction ts with
   |nil=>intro vs ds ps h;obtain⟨_,rfl,_⟩:=trodAll_nil h;rfl
   |cons t ts ih=>intro vs ds ps h;obtain⟨_,_,_,_,_,_,_,rfl,_,_,h⟩:=trodAll_cons h;simp[ih h]
  exact this h1
 obtain⟨oN,k1,k2,k3⟩:=z2q (base:=base) Qs hQ ha (fun i t v ht hv=>fc i t v (by simpa using ht) (by simpa using hv)) h1 (fun m hm=>by simpa using List.all_eq_true.1 dU m hm)
 refine((walk oN k1 k3).enter (w:=w) tX K0 (bj:=args) (by have:=k2.1;simpa using this) (fun i v v' hv bg=>k2.2 i v v' hv (by simpa using bg))).mono fun e w' ⟨he,hu⟩=>⟨_,he,?_⟩
 have hs:=LS (ds++[]) (by simpa using BE)
 refine zot K hz hT hW' tP (fun b sp hd=>?_) (by rw[hs];simp) (by rw[hs]) hu
 rw[hs,aP]
 exact trodAll_mk1 (v:=.bool true) (p:=[]) ⟨1,by simp[Value.cells,DataW.trod,hb]⟩
end
def af.back (vh:af)(i:Nat)(x:aO):af:=⟨vh.next,(i,x)::vh.br⟩
theorem af.yd (vh:af)(i j:Nat)(x:aO):(vh.back i x).get j=if j=i then some x else vh.get j:=by
 simp only[af.get,af.back,bq,beq_eq]
 by_cases h:j=i<;>simp[h]
section
variable {P:Program} {N b:Nat} {Q:kU} {ah:bf} {vh:af} {lo:Nat} {g:Fz} {σ:Sg} {h:ai}
theorem eS.back {N0:Nat}{bo:aL}{h':ai}{g':Fz}{aU:Sg}{aY:bf}{aq:af}(s:VS lo g σ vh h){i:Nat}{x x':aO}{y:bn}(hx:vh.get i=some x)(hl:x.live=true)
  (a:eS N0 vh.next lo g σ (vh.drop i) (h.put (σ i).1 none) bo h' g' aU aY aq) (xx:vH g' aU aq.next (h'.put (σ i).1 (some y)) i x') :
  VS lo g' aU (aq.back i x') (h'.put (σ i).1 (some y))∧VF σ vh h aU (aq.back i x') (h'.put (σ i).1 (some y))∧e9 g σ vh h g':=by
 have a8:=(s.obj i x hx).2.lt hl
 have hi:=(s.obj i x hx).1
 have cW:aU i=σ i:=a.agree i hi
 have we:(σ i).1<h'.next:=Nat.lt_of_lt_of_le a8 a.f.next
 have iK:∀j z,aq.get j=some z→z.live=true→(aU j).1≠(σ i).1:=fun j z hz cz he=>by
  obtain⟨k,u,k1,k2,k3⟩:=a.f.own j z hz cz (by rw[he];exact a8)
  obtain⟨k4,k5⟩:=nr k1
  exact k4 (s.inj k i u x k5 hx k2 hl (k3.trans he))
 have A3:g' (σ i).1=none:=by
  cases hg:g' (σ i).1 with
  |none=>rfl
  |some z=>
   rcases a.own _ z hg a8 with h1|⟨k,u,k1,k2,k3⟩
   ·rw[s.l6 i x hx hl] at h1;cases h1
   obtain⟨k4,k5⟩:=nr k1
   exact absurd (s.inj k i u x k5 hx k2 hl k3) k4
 have tm:∀p,(h'.put (σ i).1 (some y)).get p=if p=(σ i).1 then some y else h'.get p:=fun p=>ai.eT _ _ _ _ we
 refine⟨⟨fun j z hz=>?_,fun j k z u hz hu cz vq he=>?_,fun j z hz cz=>?_,fun p z hz=>?_,fun j z hz cz=>?_,a.s.bX⟩,⟨a.f.next,fun p hp hn=>?_,fun j z hz cz qQ=>?_⟩,fun p z hz hp=>?_⟩
 ·rw[af.yd] at hz
  by_cases hj:j=i
  ·subst hj;simp at hz;subst hz;exact⟨Nat.lt_of_lt_of_le hi a.base,xx⟩
  simp[hj] at hz
  obtain⟨k1,k2⟩:=a.s.obj j z hz
  exact⟨k1,k2.mono (Fz.le_refl g') (Nat.le_refl _) (fun _ _=>rfl) k1 fun cz=>by rw[tm,if_neg (iK j z hz cz)]⟩
 ·rw[af.yd] at hz hu
  by_cases hj:j=i<;>by_cases hk:k=i
  ·rw[hj,hk]
  ·simp[hk] at hu;subst hj;rw[cW] at he;exact absurd he.symm (iK k u hu vq)
  ·simp[hj] at hz;subst hk;rw[cW] at he;exact absurd he (iK j z hz cz)
  simp[hj] at hz;simp[hk] at hu;exact a.s.inj j k z u hz hu cz vq he
 ·rw[af.yd] at hz
  by_cases hj:j=i
  ·subst hj;rw[cW];exact s.low j x hx hl
  simp[hj] at hz;exact a.s.low j z hz cz
 ·rw[tm,if_neg (by rintro rfl;rw[A3] at hz;cases hz)];exact a.s.fz p z hz
 ·rw[af.yd] at hz
  by_cases hj:j=i
  ·subst hj;rw[cW];exact A3
  simp[hj] at hz;exact a.s.l6 j z hz cz
 ·have Iq:p≠(σ i).1:=fun he=>hn i x hx hl he.symm
  rw[tm,if_neg Iq,a.f.iN p hp fun j z hz cz=>hn j z (nr hz).2 cz,ai.eT _ _ _ _ a8,if_neg Iq]
 ·rw[af.yd] at hz
  by_cases hj:j=i
  ·subst hj;exact⟨j,x,hx,hl,by rw[cW]⟩
  simp[hj] at hz
  obtain⟨k,u,k1,k2,k3⟩:=a.f.own j z hz cz qQ
  exact⟨k,u,(nr k1).2,k2,k3⟩
 rcases a.own p z hz hp with h1|⟨k,u,k1,k2,k3⟩
 ·exact .inl h1
 exact .inr ⟨k,u,(nr k1).2,k2,k3⟩
def jD (ah:bf):List (Tmp×PV)→bf
 |[]=>ah
 |(t,v)::r=>jD ((t,v)::ah) r
theorem Tt {n:Nat}:∀ {ps:List Tmp} {l:List PV} {l':List Value} {ah:bf} {ts:aL},VT g σ n ah ts→bp (VR g σ n) l l'→(∀t∈ps,t<ts.length)→
  VT g σ n (jD ah (ps.zip l)) (vG ts (ps.zip l'))∧(vG ts (ps.zip l')).length=ts.length
 |[],_,_,_,_,ht,_,_=>by exact⟨by simpa[jD,vG] using ht,by simp[vG]⟩
 |p::ps,[],l',ah,ts,ht,hl,_=>by
  have:=hl.lV;subst this
  exact⟨by simpa[jD,vG] using ht,by simp[vG]⟩
 |p::ps,v::l,l',ah,ts,ht,hl,hp=>by
  obtain⟨v',r',rfl,h1,h2⟩:=hl.eJ
  simp only[List.zip_cons_cons,jD,vG]
  have a8:=hp p List.mem_cons_self
  obtain⟨k1,k2⟩:=Tt (ps:=ps) (l:=l) (l':=r') (ah:=(p,v)::ah) (ts:=ts.set p v') (fun t u hu=>by
   simp only[bC,beq_eq] at hu
   by_cases TJ:t=p
   ·subst TJ;simp at hu;subst hu
    rw[List.getD_eq_getElem?_getD,List.getElem?_set_self a8];exact h1
   simp[TJ] at hu
   rw[List.getD_eq_getElem?_getD,List.getElem?_set_ne (fun h=>TJ h.symm),← List.getD_eq_getElem?_getD];exact ht t u hu) h2 (fun t hm=>by simp;exact hp t (List.mem_cons_of_mem _ hm))
  exact⟨k1,by simpa using k2⟩
def xbm (N0:Nat)(ps:Array Tmp)(assign body:Code)(ed:bf)(i:Nat)(K:Bool→af→Prop):kU
 |.normal,_,aq=>K true (aq.back i (.loop N0 ps assign body ed none))
 |.ret,_,aq=>K false (aq.back i (.loop N0 ps assign body ed (some .ret)))
 |.exit id,_,aq=>K false (aq.back i (.loop N0 ps assign body ed (some (.exit id))))
 |_,_,_=>False
theorem oh.yield {o:Oper}{fo:Operand}{args:Array Operand}{aT:Array TypeId}{i N0:Nat}{ps:Array Tmp}{assign body:Code}{ed:bf}{l:List PV}{next:bf→af→Prop}(ho:o.op=.call ⟨.value fo,args,aT⟩)
  (hf:ct ah fo=some (.cm i)) (hl:gf ah args.toList=some l) (hg:vh.get i=some (.loop N0 ps assign body ed none)) (hlen:l.length=ps.size) (iG:ps.toList.all (Nat.blt · N0)=true) (hd:jH N o.dst=true)
  (hc:VW P N0 vh.next assign (C0 (VW P N0 vh.next body (xbm N0 ps assign body ed i fun bb aq=>next (bA ah o.dst (.bool bb)) aq)) (fun _ _ _=>False)) (jD ed (ps.toList.zip l)) (vh.drop i)) :
  oh P N b o next ah vh:=fun lo g σ h ts ht hn s hb=>by
 obtain⟨f',k1,k2⟩:=fX ht hf
 obtain⟨l',k3,k4⟩:=BY ht hl
 obtain⟨hi,L,q1,q2,q3,q4,q5,q6⟩:=s.obj i _ hg
 have LA:f'=.func (.yield (σ i).1) #[] #[]:=by
  cases k2 with
  |fr _ _ h=>cases h
  |cm _ o a k dB hs=>rw[hs]
 subst LA
 subst q2;subst q3;subst q4
 have da:aO.live (.loop N0 L.params L.assign L.body ed none)=true:=rfl
 obtain⟨sk,_⟩:=s.kill hg da
 have ji:∀t∈L.params.toList,t<L.ts.length:=fun t I3=>by
  rw[List.all_eq_true] at iG
  rw[q5];simpa using iG t I3
 obtain⟨e1,e2⟩:=Tt (g:=g) (σ:=σ) (n:=vh.next) (ps:=L.params.toList) q6 k4 ji
 refine .yield ho k1 k3 q1 (s.low i _ hg da) (by rw[← hlen,k4.1]) ?_
 have run:=hc lo g σ (h.put (σ i).1 none) _ e1 (e2.trans q5) sk (Nat.le_refl _)
 have fin:∀(jump:Option Code) (pY:aL) (h2:ai) (g2:Fz) (eG:Sg) (aF:bf) (aZ:af),eS N0 vh.next lo g σ (vh.drop i) (h.put (σ i).1 none) pY h2 g2 eG aF aZ→
   next (bA ah o.dst (.bool jump.isNone)) (aZ.back i (.loop N0 L.params L.assign L.body ed jump))→r8 N b lo g σ vh h next (bN ts o.dst (.bool jump.isNone)) (h2.put (σ i).1 (some (.loop L jump))):=by
  intro jump pY h2 g2 eG aF aZ a hk
  have cW:eG i=σ i:=a.agree i hi
  have qQ:(σ i).1<h2.next:=Nat.lt_of_lt_of_le ((s.obj i _ hg).2.lt da) a.f.next
  obtain⟨r1,r2,r3⟩:=eS.back (x':=.loop N0 L.params L.assign L.body ed jump) (y:=.loop L jump) s hg da a ⟨L,by rw[cW,ai.eT _ _ _ _ qQ];simp,rfl,rfl,rfl,q5,q6.mono a.le a.base a.agree⟩
  obtain⟨t1,t2⟩:=vt a.le a.base a.agree ht o.dst (hn▸hd) (.fr _ _ (.bool jump.isNone):VR g2 eG aZ.next (.bool jump.isNone) (.bool jump.isNone))
  exact⟨g2,eG,_,aZ.back i (.loop N0 L.params L.assign L.body ed jump),⟨t1,t2.trans hn,r1,a.le,fun j hj=>a.agree j (by omega),r2,Nat.le_trans hb a.base,r3⟩,hk⟩
 refine run.mono fun e mC h1 hs=>?_
 cases e with
 |normal=>
  obtain⟨g1,s6,kv,cI,a1,hW⟩:=hs
  refine(hW lo g1 s6 h1 mC a1.t a1.len a1.s a1.base).mono fun e pY h2 gq=>?_
  cases e with
  |normal=>obtain⟨g2,eG,aF,aZ,a2,hk⟩:=gq;exact fin none _ _ _ _ _ _ (a1.trans a2) hk
  |ret=>obtain⟨g2,eG,aF,aZ,a2,hk⟩:=gq;exact fin (some .ret) _ _ _ _ _ _ (a1.trans a2) hk
  |exit id=>obtain⟨g2,eG,aF,aZ,a2,hk⟩:=gq;exact fin (some (.exit id)) _ _ _ _ _ _ (a1.trans a2) hk
  |goto l=>obtain⟨_,_,_,_,_,hk⟩:=gq;exact hk.elim
  |panic ch=>obtain⟨_,_,_,_,_,hk⟩:=gq;exact hk.elim
  |outgrown=>obtain⟨_,_,_,_,_,hk⟩:=gq;exact hk.elim
 |exit id=>obtain⟨_,_,_,_,_,hk⟩:=hs;exact hk.elim
 |goto l=>obtain⟨_,_,_,_,_,hk⟩:=hs;exact hk.elim
 |ret=>obtain⟨_,_,_,_,_,hk⟩:=hs;exact hk.elim
 |panic ch=>obtain⟨_,_,_,_,_,hk⟩:=hs;exact hk.elim
 |outgrown=>obtain⟨_,_,_,_,_,hk⟩:=hs;exact hk.elim
@[irreducible] def oV (i:Nat)(ah:bf)(Q:kU)(aq:af):Prop:=match aq.get i with
 |some (.loop _ _ _ _ _ none)=>Q .normal ah (aq.drop i)
 |some (.loop _ _ _ _ _ (some .ret))=>Q .ret ah (aq.drop i)
 |some (.loop _ _ _ _ _ (some (.exit id)))=>Q (.exit id) ah (aq.drop i)
 |_=>False
def z8p (i:Nat)(ah:bf)(Q:kU):kU
 |.normal,_,aq=>oV i ah Q aq
 |.ret,_,aq=>oV i ah Q aq
 |_,_,_=>False
theorem FD {i:Nat}{ah aF:bf}{Q:kU}{aq:af}{N2:Nat}{vw:Array Tmp}{a2 b2:Code}(h:aq.get i=some (.loop N2 vw a2 b2 aF none))(k:Q .normal ah (aq.drop i)):oV i ah Q aq:=by
 unfold oV;rw[h];exact k
theorem DO {i:Nat}{ah aF:bf}{Q:kU}{aq:af}{N2:Nat}{vw:Array Tmp}{a2 b2:Code}(h:aq.get i=some (.loop N2 vw a2 b2 aF (some .ret)))(k:Q .ret ah (aq.drop i)):oV i ah Q aq:=by
 unfold oV;rw[h];exact k
theorem xan {i id:Nat}{ah aF:bf}{Q:kU}{aq:af}{N2:Nat}{vw:Array Tmp}{a2 b2:Code}(h:aq.get i=some (.loop N2 vw a2 b2 aF (some (.exit id))))(k:Q (.exit id) ah (aq.drop i)):oV i ah Q aq:=by
 unfold oV;rw[h];exact k
theorem xbz {n m:Nat}{args:List PV}{aH:List Value}(ha:bp (VR g σ n) args aH):VT g σ n (ja 0 args) (aH++List.replicate m Go.undef):=fun t v hv=>by
 rw[TF] at hv
 simp at hv
 obtain⟨v',h1,h2⟩:=ha.get hv
 have a8:t<aH.length:=by
  rcases Nat.lt_or_ge t aH.length with h|h
  ·exact h
  rw[List.getElem?_eq_none h] at h1;cases h1
 have:(aH++List.replicate m Go.undef).getD t Go.undef=v':=by
  rw[List.getD,List.getElem?_append_left a8,h1];rfl
 rw[this];exact h2
theorem VW.rangeFunc {g0:Operand}{ps:Array Tmp}{assign body:Code}{f:FuncId}{fn:Func}{c:Code}{xs ys:List PV}(hg:ct ah g0=some (.func f xs ys))(eD:∀cs w,(callFunc f cs).run P w=.ok (.enter f cs) w)
  (hf:P.funcs[f]?=some fn) (hb:fn.body=some c) (hr:fn.results=#[]) (hn:Nat.ble (xs.length+1+ys.length) fn.ntmps=true)
  (hc:VW P fn.ntmps (vh.next+1) c (z8p vh.next ah Q) (ja 0 (xs++[.cm vh.next]++ys)) (vh.alloc (.loop N ps assign body ah none))):VW P N b (.rangeFunc g0 ps assign body) Q ah vh:=fun lo g σ h ts ht hN s xZ=>by
 obtain⟨f',k1,k2⟩:=fX ht hg
 obtain⟨bu,eI,rfl,hx,hy⟩:=Ou k2
 have C7:∀i,i<vh.next→(σ.put vh.next (h.next,0,0)) i=σ i:=fun i hi=>Sg.AO _ _ (by omega)
 obtain⟨s1,f1⟩:=s.alloc (x:=.loop N ps assign body ah none) (.loop ⟨ps,assign,body,ts,0⟩ none) 0 ⟨⟨ps,assign,body,ts,0⟩,by rw[Sg.cX,ai.lf];simp,rfl,rfl,rfl,hN,ht.mono (Fz.le_refl g) (Nat.le_succ _) C7⟩
 have ha:bp (VR g (σ.put vh.next (h.next,0,0)) (vh.next+1)) (xs++[.cm vh.next]++ys) (bu.toList++[Value.func (.yield h.next) #[] #[]]++eI.toList):=
  ((hx.Fm (Fz.le_refl g) (Nat.le_succ _) C7).append (.cons (.cm vh.next h.next 0 0 (Nat.lt_succ_self _) (Sg.cX _ _ _)) .nil)).append (hy.Fm (Fz.le_refl g) (Nat.le_succ _) C7)
 refine .rangeFunc 0 k1 eD (.bJ hf hb ?_)
 have hlen:((bu.toList++[Value.func (.yield h.next) #[] #[]]++eI.toList)++List.replicate (fn.ntmps - (bu.toList++[Value.func (.yield h.next) #[] #[]]++eI.toList).length) Go.undef).length=fn.ntmps:=by
  have h1:=ha.1
  have h2:xs.length+1+ys.length≤fn.ntmps:=by simpa using hn
  simp at h1 ⊢;omega
 refine(hc lo g _ _ _ (xbz ha) hlen s1 (Nat.le_refl _)).mono fun e bo h' ⟨g',aU,aY,aq,a,k⟩=>?_
 have fin:oV vh.next ah Q aq→∃l,wu P bo h' fn.results.toList=some l∧∃L jump,h'.get h.next=some (.loop L jump)∧match jump with
    |none=>r8 N b lo g σ vh h (Q .normal) ts (h'.put h.next none)
    |some c=>AW P lo c (fun e=>r8 N b lo g σ vh h (Q e)) ts (h'.put h.next none):=fun xu=>by
  refine⟨[],by rw[hr];rfl,?_⟩
  have fy:aU vh.next=(h.next,0,0):=(a.agree vh.next (Nat.lt_succ_self _)).trans (Sg.cX _ _ _)
  have LU:∀i,i<vh.next→aU i=σ i:=fun i hi=>(a.agree i (by omega)).trans (C7 i hi)
  have hnn:vh.next≤aq.next:=Nat.le_trans (Nat.le_succ _) a.base
  have done:∀ {N2 vw a2 b2 aF jump},aq.get vh.next=some (.loop N2 vw a2 b2 aF jump)→∀ {K:bf→af→Prop},K ah (aq.drop vh.next)→r8 N b lo g σ vh h K ts (h'.put h.next none):=fun tY K hK=>by
   have:=a.s.kill tY rfl
   rw[fy] at this
   exact⟨g',aU,ah,aq.drop vh.next,⟨ht.mono a.le hnn LU,hN,this.1,a.le,fun i hi=>LU i (by omega),(f1.trans a.f).trans this.2,Nat.le_trans xZ hnn,(e9.refl g σ vh h).trans f1 a.own⟩,hK⟩
  have obj:∀ {N2 vw a2 b2 aF jump},aq.get vh.next=some (.loop N2 vw a2 b2 aF jump)→∃L,h'.get h.next=some (.loop L jump):=fun tY=>by
   obtain⟨_,L,q1,_⟩:=a.s.obj _ _ tY
   rw[fy] at q1
   exact⟨L,q1⟩
  unfold oV at xu
  split at xu
  ·rename_i tY;obtain⟨L,hL⟩:=obj tY;exact⟨L,none,hL,done tY xu⟩
  ·rename_i tY;obtain⟨L,hL⟩:=obj tY;exact⟨L,some .ret,hL,.ret (done tY xu)⟩
  ·rename_i id tY;obtain⟨L,hL⟩:=obj tY;exact⟨L,some (.exit id),hL,.exit (done tY xu)⟩
  exact xu.elim
 cases e with
 |normal=>exact fin k
 |ret=>exact fin k
 |exit id=>exact k.elim
 |goto l=>exact k.elim
 |panic ch=>exact k.elim
 |outgrown=>exact k.elim
end
section
variable {P:Program} {N b lo:Nat} {Q:kU} {ah:bf} {vh aq:af} {g g':Fz} {σ aU:Sg} {h h':ai}
theorem VS.TK (s:VS lo g σ vh h){T:ai}{V:af}{ids:List Nat}(hn:T.next=h.next)(hv:V.next=vh.next)(hV:∀j x,V.get j=some x→vh.get j=some x∧j∉ids)
  (hT:∀o,T.get o=h.get o∨∃i x,i∈ids∧vh.get i=some x∧x.live=true∧(σ i).1=o):VS lo g σ V T:=by
 refine⟨fun j x hx=>?_,fun i j x y hx hy=>s.inj i j x y (hV i x hx).1 (hV j y hy).1,fun j x hx=>s.low j x (hV j x hx).1,fun o x hx=>?_,fun j x hx=>s.l6 j x (hV j x hx).1,hn▸s.bX⟩
 ·obtain⟨h1,h2⟩:=hV j x hx
  obtain⟨k1,k2⟩:=s.obj j x h1
  rw[hv]
  refine⟨k1,k2.mono (Fz.le_refl g) (Nat.le_refl _) (fun _ _=>rfl) k1 fun hl=>?_⟩
  rcases hT (σ j).1 with h|⟨i,y,hi,hy,kJ,he⟩
  ·exact h
  have:=s.inj i j y x hy h1 kJ hl he
  subst this;exact absurd hi h2
 rcases hT o with h|⟨i,y,hi,hy,kJ,he⟩
 ·rw[h];exact s.fz o x hx
 have:=s.l6 i y hy kJ
 rw[he,hx] at this;cases this
theorem eS.xmm {σs:Sg}{gs:Fz}{vhs:af}{hs:ai}{cF bo:aL}{ed aY:bf}{V V2:af}{T H2:ai}{ids:List Nat}(a0:eS N b lo gs σs vhs hs cF h g σ ed vh)
  (hn:T.next=h.next) (hv:V.next=vh.next) (hV:∀j x,V.get j=some x→vh.get j=some x∧j∉ids)
  (hid:∀i∈ids,∃x,vh.get i=some x∧x.live=true)
  (hT:∀o,T.get o=h.get o∨∃i,i∈ids∧(σ i).1=o)
  (a:eS N vh.next lo g σ V T bo h' g' aU aY aq)
  (h2n:H2.next=h'.next) (h2:∀o,(∃i,i∈ids∧(σ i).1=o∧H2.get o=h.get o)∨((∀i∈ids,(σ i).1≠o)∧H2.get o=h'.get o))
  (TL:V2.next=aq.next) (Bg:∀j x,V2.get j=some x→(j∈ids∧vh.get j=some x)∨(j∉ids∧aq.get j=some x)) :
  eS N b lo gs σs vhs hs bo H2 g' aU aY V2:=by
 have s:=a0.s
 have lt:∀i x,vh.get i=some x→i<vh.next:=fun i x hx=>(s.obj i x hx).1
 have fy:∀i,i<vh.next→aU i=σ i:=a.agree
 have wB:∀j z,aq.get j=some z→z.live=true→∀i∈ids,(aU j).1≠(σ i).1:=fun j z hz cz i hi he=>by
  obtain⟨x,hx,hl⟩:=hid i hi
  obtain⟨k,u,k1,k2,k3⟩:=a.f.own j z hz cz (by rw[he,hn];exact(s.obj i x hx).2.lt hl)
  obtain⟨k4,k5⟩:=hV k u k1
  have:=s.inj k i u x k4 hx k2 hl (k3.trans he)
  subst this;exact k5 hi
 have A3:∀i∈ids,g' (σ i).1=none:=fun i hi=>by
  obtain⟨x,hx,hl⟩:=hid i hi
  cases hg:g' (σ i).1 with
  |none=>rfl
  |some z=>
   rcases a.own _ z hg (by rw[hn];exact(s.obj i x hx).2.lt hl) with h1|⟨k,u,k1,k2,k3⟩
   ·rw[s.l6 i x hx hl] at h1;cases h1
   obtain⟨k4,k5⟩:=hV k u k1
   have:=s.inj k i u x k4 hx k2 hl k3
   subst this;exact absurd hi k5
 have fO:∀j x,j∈ids→vh.get j=some x→x.live=true→H2.get (σ j).1=h.get (σ j).1:=fun j x hj hx hl=>by
  rcases h2 (σ j).1 with⟨i,hi,he,h3⟩|⟨h3,_⟩
  ·exact h3
  exact absurd rfl (h3 j hj)
 refine⟨?_,a.len,⟨fun j x hx=>?_,fun j k x y hx hy vU kJ he=>?_,fun j x hx hl=>?_,fun o x hx=>?_,fun j x hx hl=>?_,h2n▸a.s.bX⟩,Fz.le_trans a0.le a.le,fun i hi=>(fy i (Nat.lt_of_lt_of_le hi a0.base)).trans (a0.agree i hi),
  ⟨h2n▸(Nat.le_trans a0.f.next (hn▸a.f.next)),fun o ho iK=>?_,fun j x hx hl a8=>?_⟩,TL▸(Nat.le_trans a0.base a.base),fun o x hx ho=>?_⟩
 ·rw[TL];exact a.t
 ·rw[TL]
  rcases Bg j x hx with⟨hj,hx⟩|⟨hj,hx⟩
  ·obtain⟨k1,k2⟩:=s.obj j x hx
   exact⟨Nat.lt_of_lt_of_le k1 a.base,k2.mono a.le a.base fy k1 fun hl=>fO j x hj hx hl⟩
  obtain⟨k1,k2⟩:=a.s.obj j x hx
  refine⟨k1,k2.mono (Fz.le_refl g') (Nat.le_refl _) (fun _ _=>rfl) k1 fun hl=>?_⟩
  rcases h2 (aU j).1 with⟨i,hi,he,h3⟩|⟨_,h3⟩
  ·exact absurd he.symm (wB j x hx hl i hi)
  exact h3
 ·rcases Bg j x hx with⟨hj,hx⟩|⟨hj,hx⟩<;>rcases Bg k y hy with⟨hk,hy⟩|⟨hk,hy⟩
  ·rw[fy j (lt j x hx),fy k (lt k y hy)] at he;exact s.inj j k x y hx hy vU kJ he
  ·rw[fy j (lt j x hx)] at he;exact absurd he.symm (wB k y hy kJ j hj)
  ·rw[fy k (lt k y hy)] at he;exact absurd he (wB j x hx vU k hk)
  exact a.s.inj j k x y hx hy vU kJ he
 ·rcases Bg j x hx with⟨hj,hx⟩|⟨hj,hx⟩
  ·rw[fy j (lt j x hx)];exact s.low j x hx hl
  exact a.s.low j x hx hl
 ·rcases h2 o with⟨i,hi,he,h3⟩|⟨_,h3⟩
  ·subst he;rw[A3 i hi] at hx;cases hx
  rw[h3];exact a.s.fz o x hx
 ·rcases Bg j x hx with⟨hj,hx⟩|⟨hj,hx⟩
  ·rw[fy j (lt j x hx)];exact A3 j hj
  exact a.s.l6 j x hx hl
 ·have h3:=a0.f.iN o ho iK
  have a8:o<h.next:=Nat.lt_of_lt_of_le ho a0.f.next
  rcases h2 o with⟨i,hi,he,h4⟩|⟨h4,h5⟩
  ·rw[h4,h3]
  rw[h5,a.f.iN o (by rw[hn];exact a8) fun j x hx hl he=>?_]
  ·rcases hT o with h6|⟨i,hi,he⟩
   ·rw[h6,h3]
   exact absurd he (h4 i hi)
  obtain⟨k,u,k1,k2,k3⟩:=a0.f.own j x (hV j x hx).1 hl (by rw[he];exact ho)
  exact iK k u k1 k2 (k3.trans he)
 ·rcases Bg j x hx with⟨hj,hx⟩|⟨hj,hx⟩
  ·rw[fy j (lt j x hx)] at a8 ⊢;exact a0.f.own j x hx hl a8
  obtain⟨k,u,k1,k2,k3⟩:=a.f.own j x hx hl (by rw[hn];exact Nat.lt_of_lt_of_le a8 a0.f.next)
  obtain⟨q,w,q1,q2,q3⟩:=a0.f.own k u (hV k u k1).1 k2 (by rw[k3];exact a8)
  exact⟨q,w,q1,q2,q3.trans k3⟩
 rcases a.own o x hx (by rw[hn];exact Nat.lt_of_lt_of_le ho a0.f.next) with h3|⟨k,u,k1,k2,k3⟩
 ·exact a0.own o x h3 ho
 obtain⟨q,w,q1,q2,q3⟩:=a0.f.own k u (hV k u k1).1 k2 (by rw[k3];exact ho)
 exact .inr ⟨q,w,q1,q2,q3.trans k3⟩
def dN (P:Program)(ah:bf)(vh:af):Op→Option (PV×aO)
 |.alloc t=>(fI P t).map fun z=>(.ptr vh.next 0,.box z)
 |.box _ x=>(ct ah x).map fun v=>(.ptr vh.next 0,.box v.cells)
 |.buildSlice t n parts=>match jB ah parts.toList with
  |some l=>match jQ P ⟨vh.next,[]⟩ t n l with
   |some (v,aZ)=>match aZ.get vh.next with
    |some x=>some (v,x)
    |none=>none
   |none=>none
  |none=>none
 |.makeSlice t l c=>match ct ah l,ct ah c with
  |some a,some b=>match jR P ⟨vh.next,[]⟩ t a b with
   |some (v,aZ)=>match aZ.get vh.next with
    |some x=>some (v,x)
    |none=>none
   |none=>none
  |_,_=>none
 |_=>none
theorem z9z {ts:aL}(ht:VT g σ vh.next ah ts){op:Op}{v:PV}{x:aO}(hv:dN P ah vh op=some (v,x))(id:Nat):∃v' y,lq P ts id op=some (v',y)∧x.live=true∧
  ∀(eG:Sg) (h2:ai),eG vh.next=(id,0,0)→(∀i,i<vh.next→eG i=σ i)→h2.get id=some y→VR g eG (vh.next+1) v v'∧vH g eG (vh.next+1) h2 vh.next x:=by
 cases op<;>simp only[dN] at hv<;>try (cases hv;done)
 case alloc t=>
  obtain⟨z,h1,h2⟩:=er hv
  simp only[bO] at h2
  obtain⟨rfl,rfl⟩:=h2
  obtain⟨z',k1,k2⟩:=AP (g:=g) h1
  refine⟨_,_,by simp only[lq,k1];rfl,rfl,fun eG h2 e1 e2 e3=>⟨?_,0,z',by rw[e1];exact e3,by rw[e1],k2.vr⟩⟩
  have:=VR.ptr (g:=g) (σ:=eG) (n:=vh.next+1) vh.next 0 id 0 0 (by omega) e1
  simpa using this
 case box t y=>
  obtain⟨u,h1,h2⟩:=er hv
  simp only[bO] at h2
  obtain⟨rfl,rfl⟩:=h2
  obtain⟨u',k1,k2⟩:=fX ht h1
  refine⟨_,_,by simp only[lq,k1];rfl,rfl,fun eG h2 e1 e2 e3=>⟨?_,0,u'.cells.toList,by rw[e1];exact e3,by rw[e1],k2.cells.Fm (Fz.le_refl g) (Nat.le_succ _) e2⟩⟩
  have:=VR.ptr (g:=g) (σ:=eG) (n:=vh.next+1) vh.next 0 id 0 0 (by omega) e1
  simpa using this
 case buildSlice t len parts=>
  split at hv
  ·rename_i l hl
   obtain⟨l',k1,k2⟩:=MK ht hl
   split at hv
   ·rename_i v0 aZ hb
    unfold jQ at hb
    split at hb
    ·rename_i e n2 mw
     split at hb
     ·rename_i z ag hz fy
      obtain⟨z',h1,h2⟩:=AP (g:=g) hz
      cases AB:(Nat.beq z.length n2&&Nat.ble (len*n2) 16777216&&Nat.blt 0 n2) with
      |false=>rw[AB] at hb;cases hb
      |true=>
       rw[AB] at hb
       simp only[aQ] at hb
       split at hb
       ·rename_i cs hf
        cases ha:PV.az cs with
        |false=>rw[ha] at hb;cases hb
        |true=>
         rw[ha] at hb
         simp only[aQ,aB,bO] at hb
         obtain⟨rfl,rfl⟩:=hb
         have uf:(af.alloc ⟨vh.next,[]⟩ (.arr ag n2 cs)).get vh.next=some (.arr ag n2 cs):=by rw[af.lf];simp
         rw[uf] at hv
         simp only[aB,bO] at hv
         obtain⟨rfl,rfl⟩:=hv
         obtain⟨au,h4,h5⟩:=Ja k2 (Ho h2.vr len) hf
         have sK:(Nat.beq z'.length n2&&Nat.ble (len*n2) 16777216&&Nat.blt 0 n2)=true:=by rw[← h2.1];exact AB
         simp only[bW,Nat.blt_eq,Nat.ble_eq] at AB
         have hlen:len≤len*n2:=Nat.le_mul_of_pos_right _ AB.2
         have dC:(16777216:Nat)<aC:=by decide
         refine⟨_,_,by simp only[lq,k1,mw,h1,sK,aQ,h4];rfl,rfl,fun eG h3 e1 e2 e3=>⟨?_,AB.2,0,au,by rw[e1];exact e3,by rw[e1],h5.aD ha⟩⟩
         have:=VR.own (g:=g) (σ:=eG) (n:=vh.next+1) vh.next 0 len len id 0 0 (by omega) e1 (Nat.le_refl _) (by omega)
         simpa using this
       cases hb
     cases hb
    cases hb
   cases hv
  cases hv
 case makeSlice t lx cx=>
  split at hv
  ·rename_i la ca St Gi
   obtain⟨l',q1,q2⟩:=fX ht St
   obtain⟨c',q3,q4⟩:=fX ht Gi
   split at hv
   ·rename_i v0 aZ hb
    unfold jR at hb
    split at hb
    ·rename_i l c e n mw
     have:=q2.aD rfl;cases this
     have:=q4.aD rfl;cases this
     split at hb
     ·rename_i z bytes ag hz rI fy
      obtain⟨z',h1,h2⟩:=AP (g:=g) hz
      cases AB:(decide (0≤l∧l≤c∧c≤4294967296)&&Nat.beq z.length n&&Nat.ble bytes 4096&&Nat.blt 0 n) with
      |false=>rw[AB] at hb;cases hb
      |true=>
       rw[AB] at hb
       simp only[aQ,aB,bO] at hb
       obtain⟨rfl,rfl⟩:=hb
       have uf:(af.alloc ⟨vh.next,[]⟩ (.arr ag n (cp z c.toNat))).get vh.next=some (.arr ag n (cp z c.toNat)):=by rw[af.lf];simp
       rw[uf] at hv
       simp only[aB,bO] at hv
       obtain⟨rfl,rfl⟩:=hv
       simp only[bW,decide_eq_true_eq,Nat.blt_eq,Nat.ble_eq] at AB
       obtain⟨⟨⟨⟨eM,cr,nq⟩,wD⟩,PJ⟩,Jb⟩:=AB
       have Hb:z'.length=n:=by rw[← h2.1];simpa using wD
       cases l with
       |negSucc l=>omega
       |ofNat l=>
        cases c with
        |negSucc c=>omega
        |ofNat c=>
         have e1:l≤c:=by have:(l:Int)≤(c:Int):=cr;omega
         have e2:c≤4294967296:=by have:(c:Int)≤4294967296:=nq;omega
         have e3:bytes*c≤4096*4294967296:=Nat.mul_le_mul PJ e2
         have dM:(Nat.beq z'.length n&&Nat.ble l c&&Nat.ble (bytes*c) 281474976710656&&Nat.blt 0 n&&Nat.ble c 281474976710656)=true:=by
          simp only[bW,Nat.ble_eq,Nat.blt_eq]
          exact⟨⟨⟨⟨by rw[Hb];exact Nat.beq_refl n,e1⟩,by omega⟩,Jb⟩,by omega⟩
         have dC:(4294967296:Nat)<aC:=by decide
         refine⟨_,_,by simp only[lq,q1,q3,mw,h1,rI,dM,aQ];rfl,rfl,fun eG h3 k1 k2 k3=>⟨?_,Jb,0,dJ z' c,by rw[k1];exact k3,by rw[k1],Ho h2 c⟩⟩
         have:=VR.own (g:=g) (σ:=eG) (n:=vh.next+1) vh.next 0 l c id 0 0 (by omega) k1 e1 (by omega)
         simpa using this
     cases hb
    cases hb
   cases hv
  cases hv
end
theorem vx {base:Nat}{M:Nat→Bool}{h:ai}:∀fl:List (Nat×bn),(j6 base M fl h).next=h.next
 |[]=>rfl
 |(i,x)::r=>by
  simp only[j6]
  cases M i<;>simp[vx r]
theorem C8 {base:Nat}{M:Nat→Bool}{h:ai}{o:Nat}:∀ {fl:List (Nat×bn)},(∀q∈fl,base+q.1<h.next)→(∀q∈fl,M q.1=true→base+q.1≠o)→(j6 base M fl h).get o=h.get o
 |[],_,_=>rfl
 |(i,x)::r,hl,hq=>by
  have ih:=C8 (base:=base) (M:=M) (h:=h) (o:=o) (fl:=r) (fun q hm=>hl q (List.mem_cons_of_mem _ hm)) fun q hm=>hq q (List.mem_cons_of_mem _ hm)
  simp only[j6]
  cases hM:M i with
  |false=>simpa using ih
  |true=>
   have h1:=hl (i,x) List.mem_cons_self
   rw[aQ,ai.eT _ _ _ _ (by rw[vx];exact h1),if_neg fun he=>hq (i,x) List.mem_cons_self hM he.symm,ih]
theorem LV {base:Nat}{M:Nat→Bool}{h:ai}:∀ {fl:List (Nat×bn)},(∀q∈fl,base+q.1<h.next)→(fl.map (·.1)).Nodup→∀q∈fl,M q.1=true→(j6 base M fl h).get (base+q.1)=some q.2
 |[],_,_,q,hq,_=>by cases hq
 |(i,x)::r,hl,hn,q,hq,hM=>by
  rw[List.map_cons,List.nodup_cons] at hn
  have hr:∀q∈r,base+q.1<h.next:=fun q hm=>hl q (List.mem_cons_of_mem _ hm)
  have h1:=hl (i,x) List.mem_cons_self
  simp only[j6]
  rcases List.mem_cons.1 hq with rfl|hq
  ·rw[hM,aQ,ai.eT _ _ _ _ (by rw[vx];exact h1),if_pos rfl]
  have ih:=LV (base:=base) (M:=M) hr hn.2 q hq hM
  cases Pk:M i with
  |false=>simpa using ih
  |true=>
   have db:base+q.1≠base+i:=fun he=>hn.1 (by
    have:q.1=i:=by omega
    exact List.mem_map.2 ⟨q,hq,this⟩)
   rw[aQ,ai.eT _ _ _ _ (by rw[vx];exact h1),if_neg db,ih]
def dG (ms:List Nat)(k:Nat)(dE:List (Nat×Nat)):List (Nat×Nat):=dE.filter fun p=>!bm ms p.1 k
def b6 (ms:List Nat)(k:Nat)(dE:List (Nat×Nat)):List Nat:=(dG ms k dE).map (·.2)
def iO (ye:af):List Nat→af→af
 |[],vh=>vh
 |i::r,vh=>match ye.get i with
  |some x=>(iO ye r vh).back i x
  |none=>iO ye r vh
theorem TM (ye:af):∀(l:List Nat) (vh:af),(iO ye l vh).next=vh.next
 |[],_=>rfl
 |i::r,vh=>by
  simp only[iO]
  split
  ·exact TM ye r vh
  exact TM ye r vh
theorem zs9 (ye:af):∀(l:List Nat) (vh:af),(∀i∈l,∃x,ye.get i=some x)→∀j x,(iO ye l vh).get j=some x→(j∈l∧ye.get j=some x)∨(j∉l∧vh.get j=some x)
 |[],vh,_,j,x,h=>.inr ⟨by simp,h⟩
 |i::r,vh,hl,j,x,h=>by
  obtain⟨y,hy⟩:=hl i List.mem_cons_self
  simp only[iO,hy,af.yd] at h
  by_cases hj:j=i
  ·subst hj;simp at h;subst h;exact .inl ⟨List.mem_cons_self,hy⟩
  simp[hj] at h
  rcases zs9 ye r vh (fun k hk=>hl k (List.mem_cons_of_mem _ hk)) j x h with⟨h1,h2⟩|⟨h1,h2⟩
  ·exact .inl ⟨List.mem_cons_of_mem _ h1,h2⟩
  exact .inr ⟨by simp[hj,h1],h2⟩
structure FlA (base:Nat) (aU:Sg) (aq:af) (h':ai) (dE:List (Nat×Nat)) (fl:List (Nat×bn)):Prop where
  ms:dE.map (·.1)=fl.map (·.1)
  nd:(fl.map (·.1)).Nodup
  place:∀p∈dE,(aU p.2).1=base+p.1∧∃x,aq.get p.2=some x∧x.live=true
  free:∀q∈fl,h'.get (base+q.1)=none∧base+q.1<h'.next
def mL (P:Program)(N b:Nat)(ops:Array Oper)(ms W As:List Nat)(K:bf→af→Prop):List jo→List Nat→List (Nat×Nat)→List Nat→bf→af→Prop
 |[],_,_,_,ah,vh=>K ah vh
 |.op m::r,todo,dE,Ar,ah,vh=>
  match ops[m]? with
  |none=>False
  |some o=>match fQ ops o ah with
   |none=>False
   |some false=>jH N o.dst=true∧mL P N b ops ms W As K r (kZ ops todo o.dst) dE Ar (bA ah o.dst (.bz [])) vh
   |some true=>bif W.contains m then sF P N vh.next ops o todo (fun fD aF aZ=>mL P N b ops ms W As K r fD (dG ms m dE) Ar aF (iO vh (b6 ms m dE) aZ)) ah (fJ (b6 ms m dE) vh)
    else bif Ar.contains m then As.contains m=true∧jH N o.dst=true∧∃v x,dN P ah vh o.op=some (v,x)∧mL P N b ops ms W As K r (kZ ops todo o.dst) ((m,vh.next)::dE) (Ar.filter fun k=>!Nat.beq k m) (bA ah o.dst v) (vh.alloc x)
    else As.contains m=false∧xH o.op=true∧jH N o.dst=true∧∃v,dz P ah (fJ (b6 ms m dE) vh) o.op=some (v,fJ (b6 ms m dE) vh)∧
     mL P N b ops ms W As K r (bif Bo o&&dE.isEmpty then m::kZ ops todo o.dst else kZ ops todo o.dst) dE Ar (bA ah o.dst v) vh
 |.ck m::r,todo,dE,Ar,ah,vh=>
  match ops[m]? with
  |none=>False
  |some o=>(todo.contains m=true∨o.dst.isSome=true∧fQ ops o ah=some false)∧mL P N b ops ms W As K r todo dE Ar ah vh
section
variable {P:Program} {N b lo:Nat} {ops:Array Oper} {g g':Fz} {σ aU:Sg} {vh aq:af} {hs h':ai} {base:Nat} {ms W As:List Nat}
theorem z0n {k:Nat}{dE:List (Nat×Nat)}{i:Nat}(h:i∈b6 ms k dE):∃p∈dE,p.2=i∧bm ms p.1 k=false:=by
 unfold b6 dG at h
 obtain⟨p,h1,h2⟩:=List.mem_map.1 h
 obtain⟨h3,h4⟩:=List.mem_filter.1 h1
 exact⟨p,h3,h2,by simpa using h4⟩
theorem z9e {k:Nat}{dE:List (Nat×Nat)}{p:Nat×Nat}(h:p∈dE)(hb:bm ms p.1 k=false):p.2∈b6 ms k dE:=
 List.mem_map.2 ⟨p,List.mem_filter.2 ⟨h,by simp[hb]⟩,rfl⟩
theorem xgz {dE:List (Nat×Nat)}{fl:List (Nat×bn)}(hm:dE.map (·.1)=fl.map (·.1)){q:Nat×bn}(hq:q∈fl):∃p∈dE,p.1=q.1:=by
 have:q.1∈dE.map (·.1):=by rw[hm];exact List.mem_map_of_mem hq
 obtain⟨p,h1,h2⟩:=List.mem_map.1 this
 exact⟨p,h1,h2⟩
theorem xjq {dE:List (Nat×Nat)}{fl:List (Nat×bn)}(hm:dE.map (·.1)=fl.map (·.1)){p:Nat×Nat}(hp:p∈dE):∃q∈fl,q.1=p.1:=by
 have:p.1∈fl.map (·.1):=by rw[← hm];exact List.mem_map_of_mem hp
 obtain⟨q,h1,h2⟩:=List.mem_map.1 this
 exact⟨q,h1,h2⟩
theorem z4h {dE:List (Nat×Nat)}{fl:List (Nat×bn)}(f:FlA base aU aq h' dE fl)(k:Nat)(o:Nat) :
  (j6 base (fun i=>bm ms i k) fl h').get o=(j6 base (fun _=>true) fl h').get o∨∃i,i∈b6 ms k dE∧(aU i).1=o:=by
 have hl:∀q∈fl,base+q.1<h'.next:=fun q hq=>(f.free q hq).2
 by_cases hq:∃q∈fl,base+q.1=o
 ·obtain⟨q,hq,rfl⟩:=hq
  obtain⟨p,hp,BR⟩:=xgz f.ms hq
  cases hb:bm ms q.1 k with
  |true=>exact .inl (by rw[LV (M:=fun i=>bm ms i k) hl f.nd q hq hb,LV (M:=fun _=>true) hl f.nd q hq rfl])
  |false=>exact .inr ⟨p.2,z9e hp (BR▸hb),by rw[(f.place p hp).1,BR]⟩
 refine .inl ?_
 have h1:∀q∈fl,base+q.1≠o:=fun q hm he=>hq ⟨q,hm,he⟩
 rw[C8 hl fun q hm _=>h1 q hm,C8 hl fun q hm _=>h1 q hm]
theorem Ir (hd:∀d∈(ops.toList.filterMap (·.dst)),d<N){K:bf→af→Prop}(tQ:hs.next≤base)(cY:lo≤hs.next):∀(items:List jo) (todo:List Nat) (dE:List (Nat×Nat)) (Ar:List Nat) (bo:aL) (fl:List (Nat×bn)) (h':ai) (g':Fz) (aU:Sg) (aY:bf) (aq:af),
  eS N b lo g σ vh hs bo (j6 base (fun _=>true) fl h') g' aU aY aq→FlA base aU aq h' dE fl→(∀j∈Ar,h'.get (base+j)=none∧base+j<h'.next∧j∉fl.map (·.1))→
  (∀m∈todo,vY P lo ops bo h' m)→mL P N b ops ms W As K items todo dE Ar aY aq→AL P lo ops base ms W As (r8 N b lo g σ vh hs K) items bo fl h'
 |[],todo,dE,Ar,bo,fl,h',g',aU,aY,aq,a,f,Ex,jA,k=>⟨g',aU,aY,aq,a,k⟩
 |.op m::r,todo,dE,Ar,bo,fl,h',g',aU,aY,aq,a,f,Ex,jA,k=>by
  simp only[mL] at k
  have hl:∀q∈fl,base+q.1<h'.next:=fun q hq=>(f.free q hq).2
  have AD:h'.sub (j6 base (fun i=>bm ms i m) fl h'):=fun o x hx=>by
   rw[C8 hl fun q hq _ he=>by have:=(f.free q hq).1;rw[he,hx] at this;cases this];exact hx
  cases ho:ops[m]? with
  |none=>rw[ho] at k;exact k.elim
  |some o=>
   rw[ho] at k
   simp only at k
   refine⟨o,ho,?_⟩
   split at k
   ·exact k.elim
   ·rename_i hw
    rw[Et (a.len▸hd) a.t hw]
    simp only[bx]
    obtain⟨g1,g2⟩:=vt (Fz.le_refl g') (Nat.le_refl _) (fun _ _=>rfl) a.t o.dst (a.len▸k.1) (.fr _ _ vX)
    refine Ir hd tQ cY r _ dE Ar _ fl h' g' aU _ aq ⟨g1,g2.trans a.len,a.s,a.le,a.agree,a.f,a.base,a.own⟩ f Ex (fun m hm=>?_) k.2
    simp only[kZ,List.mem_filter] at hm
    exact(jA m hm.1).put _ (fun _ _ hx=>hx) hm.2
   rename_i hw
   rw[Et (a.len▸hd) a.t hw]
   simp only[aQ]
   have C9:∀i∈b6 ms m dE,∃x,aq.get i=some x∧x.live=true:=fun i hi=>by
    obtain⟨p,hp,rfl,_⟩:=z0n hi
    exact(f.place p hp).2
   have hTn:(j6 base (fun i=>bm ms i m) fl h').next=(j6 base (fun _=>true) fl h').next:=by rw[vx,vx]
   have Ih:∀j x,(fJ (b6 ms m dE) aq).get j=some x→aq.get j=some x∧j∉b6 ms m dE:=fun j x hx=>let ⟨h1,h2⟩:=vZ _ _ j x hx;⟨h2,h1⟩
   have sT:VS lo g' aU (fJ (b6 ms m dE) aq) (j6 base (fun i=>bm ms i m) fl h'):=a.s.TK hTn (Bq _ _) Ih fun o=>by
    rcases z4h (ms:=ms) f m o with h|⟨i,hi,he⟩
    ·exact .inl h
    obtain⟨x,hx,vU⟩:=C9 i hi
    exact .inr ⟨i,x,hi,hx,vU,he⟩
   have tT:VT g' aU (fJ (b6 ms m dE) aq).next aY bo:=by rw[Bq];exact a.t
   cases hW:W.contains m with
   |true=>
    rw[hW] at k
    simp only[aQ] at k ⊢
    intro mC fy
    refine(k lo g' aU _ bo tT a.len sT (by rw[Bq];exact Nat.le_refl _) (fun q hq=>?_) mC fy).mono fun pY h2 ⟨v',e,fD,GR,g2,eG,aF,aZ,c,k2⟩=>⟨v',e,?_⟩
    ·obtain⟨o2,d2,u,h1,c1,c2,c3,c4,c5⟩:=jA q hq
     obtain⟨_,e2⟩:=Dt c3 c5
     exact⟨o2,d2,u,_,c1,c2,c3,c4,e2 _ AD⟩
    have GV:∀q∈fl.filter (fun p=>!bm ms p.1 m),q∈fl∧bm ms q.1 m=false:=fun q hq=>by
     obtain⟨h1,h2⟩:=List.mem_filter.1 hq
     exact⟨h1,by simpa using h2⟩
    have TN:∀i,i<aq.next→eG i=aU i:=c.agree
    have Ey:∀q∈fl,bm ms q.1 m=false→h2.get (base+q.1)=none∧base+q.1<h2.next:=fun q hq hb=>by
     have h1:=hl q hq
     have hT:(j6 base (fun i=>bm ms i m) fl h').get (base+q.1)=none:=by
      rw[C8 hl fun q' cG hM he=>?_]
      ·exact(f.free q hq).1
      have:q'.1=q.1:=by omega
      rw[this,hb] at hM;cases hM
     refine⟨?_,Nat.lt_of_lt_of_le (by rw[vx];exact h1) c.f.next⟩
     rw[c.f.iN _ (by rw[vx];exact h1) fun i x hx vU he=>?_]
     ·exact hT
     obtain⟨h2,h3⟩:=(sT.obj i x hx)
     have:∃y,(j6 base (fun i=>bm ms i m) fl h').get (aU i).1=some y:=by
      cases x with
      |box cs=>obtain⟨s0,au,q1,_⟩:=h3;exact⟨_,q1⟩
      |arr ag sz cs=>obtain⟨_,s0,au,q1,_⟩:=h3;exact⟨_,q1⟩
      |map es=>obtain⟨bs,q1,_⟩:=h3;exact⟨_,q1⟩
      |eP es=>obtain⟨bs,q1,_⟩:=h3;exact⟨_,q1⟩
      |b9 es=>obtain⟨_,_,_,s0,au,q1,_⟩:=h3;exact⟨_,q1⟩
      |emap es=>obtain⟨bs,q1,_⟩:=h3;exact⟨_,q1⟩
      |loop=>obtain⟨L,q1,_⟩:=h3;exact⟨_,q1⟩
      |grow sz es=>
       obtain⟨_,_,_,oy⟩:=h3
       rcases oy with rfl|⟨s0,au,q1,_⟩
       ·cases vU
       exact⟨_,q1⟩
     obtain⟨y,hy⟩:=this
     rw[he,hT] at hy;cases hy
    have vD:∀q∈fl.filter (fun p=>!bm ms p.1 m),base+q.1<h2.next:=fun q hq=>(Ey q (GV q hq).1 (GV q hq).2).2
    have ndf:((fl.filter (fun p=>!bm ms p.1 m)).map (·.1)).Nodup:=f.nd.sublist (List.filter_sublist.map _)
    refine Ir hd tQ cY r fD (dG ms m dE) Ar _ _ h2 g2 eG aF _ (eS.xmm a hTn (Bq _ _) Ih C9 (z4h f m) c (vx _) (fun o=>?_) (TM _ _ _) (zs9 _ _ _ fun i hi=>let ⟨x,hx,_⟩:=C9 i hi;⟨x,hx⟩)) ⟨?_,ndf,fun p hp=>?_,fun q hq=>Ey q (GV q hq).1 (GV q hq).2⟩ (fun j hj=>?_) GR k2
    ·by_cases hq:∃q∈fl,bm ms q.1 m=false∧base+q.1=o
     ·obtain⟨q,hq,hb,rfl⟩:=hq
      obtain⟨p,hp,BR⟩:=xgz f.ms hq
      refine .inl ⟨p.2,z9e hp (BR▸hb),by rw[(f.place p hp).1,BR],?_⟩
      rw[LV (M:=fun _=>true) hl f.nd q hq rfl,LV (M:=fun _=>true) vD ndf q (List.mem_filter.2 ⟨hq,by simp[hb]⟩) rfl]
     refine .inr ⟨fun i hi he=>?_,?_⟩
     ·obtain⟨p,hp,rfl,hb⟩:=z0n hi
      obtain⟨q,cG,hqp⟩:=xjq f.ms hp
      exact hq ⟨q,cG,by rw[hqp];exact hb,by rw[hqp,← he,(f.place p hp).1]⟩
     exact C8 vD fun q hqm _ he=>hq ⟨q,(GV q hqm).1,(GV q hqm).2,he⟩
    ·have:∀(l:List (Nat×Nat)) (l2:List (Nat×bn)),l.map (·.1)=l2.map (·.1)→(l.filter fun p=>!bm ms p.1 m).map (·.1)=(l2.filter fun p=>!bm ms p.1 m).map (·.1):=by
      intro l
      induction l with
      |nil=>intro l2 h;cases l2 with|nil=>rfl|cons=>simp at h
      |cons p l ih=>
       intro l2 h
       cases l2 with
       |nil=>simp at h
       |cons q l2=>
        simp only[List.map_cons,List.cons.injEq] at h
        simp only[List.filter_cons,h.1]
        cases bm ms q.1 m<;>simp[ih l2 h.2,h.1]
     exact this dE fl f.ms
    ·obtain⟨h1,IA⟩:=List.mem_filter.1 hp
     obtain⟨e1,x,e2,e3⟩:=f.place p h1
     have pa:p.2∈b6 ms m dE:=List.mem_map.2 ⟨p,hp,rfl⟩
     refine⟨by rw[TN _ (a.s.obj p.2 x e2).1];exact e1,x,?_,e3⟩
     have:∀(l:List Nat),p.2∈l→(∀i∈l,∃x,aq.get i=some x)→(iO aq l aZ).get p.2=some x:=by
      intro l
      induction l with
      |nil=>intro h;cases h
      |cons i l ih=>
       intro hm hex
       obtain⟨y,hy⟩:=hex i List.mem_cons_self
       simp only[iO,hy,af.yd]
       by_cases Iq:p.2=i
       ·subst Iq;rw[e2] at hy;injection hy with hy;simp[hy]
       simp only[Iq,if_false]
       exact ih (by rcases List.mem_cons.1 hm with h|h;exact absurd h Iq;exact h) fun k hk=>hex k (List.mem_cons_of_mem _ hk)
     exact this _ pa fun i hi=>let ⟨x,hx,_⟩:=C9 i hi;⟨x,hx⟩
    obtain⟨h1,h3,h4⟩:=Ex j hj
    have hT:(j6 base (fun i=>bm ms i m) fl h').get (base+j)=none:=by
     rw[C8 hl fun q' cG hM he=>?_]
     ·exact h1
     exact h4 (List.mem_map.2 ⟨q',cG,by omega⟩)
    refine⟨?_,Nat.lt_of_lt_of_le (by rw[vx];exact h3) c.f.next,fun hm=>h4 ?_⟩
    ·rw[c.f.iN _ (by rw[vx];exact h3) fun i x hx vU he=>?_]
     ·exact hT
     obtain⟨h5,h6⟩:=(sT.obj i x hx)
     have:∃y,(j6 base (fun i=>bm ms i m) fl h').get (aU i).1=some y:=by
      cases x with
      |box cs=>obtain⟨s0,au,q1,_⟩:=h6;exact⟨_,q1⟩
      |arr ag sz cs=>obtain⟨_,s0,au,q1,_⟩:=h6;exact⟨_,q1⟩
      |map es=>obtain⟨bs,q1,_⟩:=h6;exact⟨_,q1⟩
      |eP es=>obtain⟨bs,q1,_⟩:=h6;exact⟨_,q1⟩
      |b9 es=>obtain⟨_,_,_,s0,au,q1,_⟩:=h6;exact⟨_,q1⟩
      |emap es=>obtain⟨bs,q1,_⟩:=h6;exact⟨_,q1⟩
      |loop=>obtain⟨L,q1,_⟩:=h6;exact⟨_,q1⟩
      |grow sz es=>
       obtain⟨_,_,_,oy⟩:=h6
       rcases oy with rfl|⟨s0,au,q1,_⟩
       ·cases vU
       exact⟨_,q1⟩
     obtain⟨y,hy⟩:=this
     rw[he,hT] at hy;cases hy
    obtain⟨q,hq,rfl⟩:=List.mem_map.1 hm
    exact List.mem_map_of_mem (GV q hq).1
   |false=>
    rw[hW] at k
    simp only[bx] at k ⊢
    cases hA:Ar.contains m with
    |true=>
     rw[hA] at k
     simp only[aQ] at k
     obtain⟨kA,uX,v,x,hv,k2⟩:=k
     rw[kA]
     simp only[aQ]
     have hmA:m∈Ar:=by simpa using hA
     obtain⟨r1,r2,r3⟩:=Ex m hmA
     obtain⟨v',y,e1,e2,e3⟩:=z9z a.t hv (base+m)
     refine⟨v',y,e1,?_⟩
     have cW:∀i,i<aq.next→(aU.put aq.next (base+m,0,0)) i=aU i:=fun i hi=>Sg.AO _ _ (by omega)
     have gQ:∀o,(j6 base (fun _=>true) ((m,y)::fl) h').get o=if o=base+m then some y else (j6 base (fun _=>true) fl h').get o:=fun o=>by
      show ((j6 base (fun _=>true) fl h').put (base+m) (some y)).get o=_
      rw[ai.eT _ _ _ _ (by rw[vx];exact r2)]
     have TO:(j6 base (fun _=>true) fl h').get (base+m)=none:=by
      rw[C8 hl fun q hq _ he=>r3 (List.mem_map.2 ⟨q,hq,by omega⟩)];exact r1
     obtain⟨e4,e5⟩:=e3 (aU.put aq.next (base+m,0,0)) (j6 base (fun _=>true) ((m,y)::fl) h') (Sg.cX _ _ _) cW (by rw[gQ];simp)
     have iK:∀i z,aq.get i=some z→z.live=true→(aU i).1≠base+m:=fun i z hz cz he=>by
      obtain⟨h5,h6⟩:=a.s.obj i z hz
      have:∃y,(j6 base (fun _=>true) fl h').get (aU i).1=some y:=by
       cases z with
       |box cs=>obtain⟨s0,au,q1,_⟩:=h6;exact⟨_,q1⟩
       |arr ag sz cs=>obtain⟨_,s0,au,q1,_⟩:=h6;exact⟨_,q1⟩
       |map es=>obtain⟨bs,q1,_⟩:=h6;exact⟨_,q1⟩
       |eP es=>obtain⟨bs,q1,_⟩:=h6;exact⟨_,q1⟩
       |b9 es=>obtain⟨_,_,_,s0,au,q1,_⟩:=h6;exact⟨_,q1⟩
       |emap es=>obtain⟨bs,q1,_⟩:=h6;exact⟨_,q1⟩
       |loop=>obtain⟨L,q1,_⟩:=h6;exact⟨_,q1⟩
       |grow sz es=>
        obtain⟨_,_,_,oy⟩:=h6
        rcases oy with rfl|⟨s0,au,q1,_⟩
        ·cases cz
        exact⟨_,q1⟩
      obtain⟨u,hu⟩:=this
      rw[he,TO] at hu;cases hu
     have split:∀i z,(aq.alloc x).get i=some z→(i=aq.next∧z=x)∨(i<aq.next∧aq.get i=some z):=fun i z hz=>by
      rw[af.lf] at hz
      by_cases hi:i=aq.next
      ·subst hi;simp at hz;exact .inl ⟨rfl,hz.symm⟩
      simp[hi] at hz;exact .inr ⟨(a.s.obj i z hz).1,hz⟩
     obtain⟨g1,g2⟩:=vt (Fz.le_refl g') (Nat.le_succ aq.next) cW a.t o.dst (a.len▸uX) e4
     refine Ir hd tQ cY r _ _ _ _ ((m,y)::fl) h' g' _ _ (aq.alloc x) ⟨g1,g2.trans a.len,⟨fun i z hz=>?_,fun i j z u hz hu cz vq he=>?_,fun i z hz cz=>?_,fun o z hz=>?_,fun i z hz cz=>?_,?_⟩,a.le,fun i hi=>(cW i (Nat.lt_of_lt_of_le hi a.base)).trans (a.agree i hi),
      ⟨?_,fun o ho TP=>?_,fun i z hz cz a8=>?_⟩,Nat.le_trans a.base (Nat.le_succ _),a.own⟩ ⟨by simp[f.ms],by rw[List.map_cons,List.nodup_cons];exact⟨r3,f.nd⟩,fun p hp=>?_,fun q hq=>?_⟩ (fun j hj=>?_) (fun q hq=>?_) k2
     ·rcases split i z hz with⟨rfl,rfl⟩|⟨hi,hz⟩
      ·exact⟨Nat.lt_succ_self _,e5⟩
      refine⟨Nat.lt_succ_of_lt hi,(a.s.obj i z hz).2.mono (Fz.le_refl g') (Nat.le_succ _) cW hi fun cz=>?_⟩
      rw[gQ,if_neg (iK i z hz cz)]
     ·rcases split i z hz with⟨hi,_⟩|⟨hi,hz⟩<;>rcases split j u hu with⟨hj,_⟩|⟨hj,hu⟩
      ·rw[hi,hj]
      ·rw[hi,Sg.cX,cW j hj] at he;exact absurd he.symm (iK j u hu vq)
      ·rw[hj,Sg.cX,cW i hi] at he;exact absurd he (iK i z hz cz)
      rw[cW i hi,cW j hj] at he;exact a.s.inj i j z u hz hu cz vq he
     ·rcases split i z hz with⟨rfl,rfl⟩|⟨hi,hz⟩
      ·rw[Sg.cX];show lo≤base+m;omega
      rw[cW i hi];exact a.s.low i z hz cz
     ·rw[gQ,if_neg (by rintro rfl;have:=a.s.fz _ z hz;rw[TO] at this;cases this)];exact a.s.fz o z hz
     ·rcases split i z hz with⟨rfl,rfl⟩|⟨hi,hz⟩
      ·rw[Sg.cX]
       cases hg:g' (base+m) with
       |none=>rfl
       |some w=>have:=a.s.fz _ w hg;rw[TO] at this;cases this
      rw[cW i hi];exact a.s.l6 i z hz cz
     ·have:=a.s.bX;rw[vx] at this ⊢;exact this
     ·have:=a.f.next;rw[vx] at this ⊢;exact this
     ·rw[gQ,if_neg (by omega)];exact a.f.iN o ho TP
     ·rcases split i z hz with⟨rfl,rfl⟩|⟨hi,hz⟩
      ·rw[Sg.cX] at a8;simp only at a8;omega
      rw[cW i hi] at a8 ⊢;exact a.f.own i z hz cz a8
     ·rcases List.mem_cons.1 hp with rfl|hp
      ·exact⟨by rw[Sg.cX],x,by rw[af.lf];simp,e2⟩
      obtain⟨q1,z,q2,q3⟩:=f.place p hp
      have hi:=(a.s.obj p.2 z q2).1
      exact⟨by rw[cW _ hi];exact q1,z,by rw[af.lf,if_neg (by omega)];exact q2,q3⟩
     ·rcases List.mem_cons.1 hq with rfl|hq
      ·exact⟨r1,r2⟩
      exact f.free q hq
     ·obtain⟨h1,h2⟩:=List.mem_filter.1 hj
      have MC:j≠m:=by simpa[beq_eq] using h2
      obtain⟨s1,s2,s3⟩:=Ex j h1
      exact⟨s1,s2,by simp only[List.map_cons,List.mem_cons,not_or];exact⟨MC,s3⟩⟩
     simp only[kZ,List.mem_filter] at hq
     exact(jA q hq.1).put _ (fun _ _ hx=>hx) hq.2
    |false=>
     rw[hA] at k
     simp only[bx] at k
     obtain⟨kA,hr,uX,v,hv,k2⟩:=k
     rw[kA]
     simp only[bx]
     obtain⟨v',h1,e1,eG,e2,e3,e4,e5,e6⟩:=GL (lo:=lo) sT tT hv
     obtain⟨e7,_⟩:=Dt hr e1
     subst e7
     rw[Bq] at e6 e2
     have e2':VR g' aU aq.next v v':=e2.mono (Fz.le_refl g') (Nat.le_refl _) fun i hi=>(e6 i hi).symm
     obtain⟨g1,g2⟩:=vt (Fz.le_refl g') (Nat.le_refl _) (fun _ _=>rfl) a.t o.dst (a.len▸uX) e2'
     refine⟨v',_,e1,Ir hd tQ cY r _ dE Ar _ fl h' g' aU _ aq ⟨g1,g2.trans a.len,a.s,a.le,a.agree,a.f,a.base,a.own⟩ f Ex (fun m' hm=>?_) k2⟩
     have jg:m'∈kZ ops todo o.dst→vY P lo ops (bN bo o.dst v') h' m':=fun hm=>by
      simp only[kZ,List.mem_filter] at hm
      exact(jA m' hm.1).put _ (fun _ _ hx=>hx) hm.2
     cases sG:(Bo o&&dE.isEmpty) with
     |false=>rw[sG] at hm;exact jg hm
     |true=>
      rw[sG] at hm
      simp only[aQ,List.mem_cons] at hm
      rcases hm with rfl|hm
      ·rw[bW] at sG
       obtain⟨sG,hem⟩:=sG
       have NP:dE=[]:=by simpa using hem
       have nj:fl=[]:=by have:=f.ms;rw[NP] at this;simpa using this.symm
       subst nj
       unfold Bo at sG
       cases r7:o.dst with
       |none=>rw[r7] at sG;cases sG
       |some d=>
        rw[r7] at sG
        have a8:d<bo.length:=by
         have:=a.len▸uX
         rw[r7] at this
         simpa[jH] using this
        have:=vY.new (P:=P) (lo:=lo) ho r7 a8 hr e1 sG
        rwa [r7] at this
      exact jg hm
 |.ck m::r,todo,dE,Ar,bo,fl,h',g',aU,aY,aq,a,f,Ex,jA,k=>by
  simp only[mL] at k
  have hl:∀q∈fl,base+q.1<h'.next:=fun q hq=>(f.free q hq).2
  have AD:h'.sub (j6 base (fun i=>bm ms i m) fl h'):=fun o x hx=>by
   rw[C8 hl fun q hq _ he=>by have:=(f.free q hq).1;rw[he,hx] at this;cases this];exact hx
  cases ho:ops[m]? with
  |none=>rw[ho] at k;exact k.elim
  |some o=>
   rw[ho] at k
   simp only at k
   obtain⟨k1,k2⟩:=k
   have rest:=Ir hd tQ cY r _ dE Ar bo fl h' g' aU aY aq a f Ex jA k2
   rcases k1 with k1|⟨k1,hw⟩
   ·have hm:m∈todo:=by simpa using k1
    obtain⟨o',d,v,h1,c1,c2,c3,c4,c5⟩:=jA m hm
    rw[ho] at c1;injection c1 with c1;subst c1
    obtain⟨_,e2⟩:=Dt c3 c5
    exact⟨o,d,ho,c2,fun _=>⟨v,_,c4,e2 _ AD⟩,rest⟩
   cases r7:o.dst with
   |none=>rw[r7] at k1;cases k1
   |some d=>exact⟨o,d,ho,r7,fun oS=>(by rw[Et (a.len▸hd) a.t hw] at oS;cases oS),rest⟩
theorem VW.vK {id:Nat}{Q:kU}{ah:bf}{vh:af}{ms W As:List Nat}{items:List jo}(hm:P.follows .mixedOrders=true)(cS:IX ops ms W As=true)(ox:DA As=true)(hc:AM ops ms W As [] W [] items=true)(hd:Bn N ops=true)
  (hAs:As.all (Nat.blt · (pj As ops.size))=true)
  (hs:mL P N b ops ms W As (Q .normal) items [] [] As ah vh):VW P N b (.region id ops true) Q ah vh:=fun lo g σ h ts ht hn s hb=>by
 refine .sched hm cS ox hc ?_
 have hg:=ai.yF (pj As ops.size) h
 have dp:=ai.E5 (pj As ops.size) h
 have s2:VS lo g σ vh (ai.qY (pj As ops.size) h):=⟨fun i x hx=>let ⟨k1,k2⟩:=s.obj i x hx;⟨k1,k2.mono (Fz.le_refl g) (Nat.le_refl _) (fun _ _=>rfl) k1 fun _=>hg _⟩,s.inj,s.low,fun o x hx=>by rw[hg];exact s.fz o x hx,s.l6,by rw[dp];have:=s.bX;omega⟩
 refine Ir (base:=h.next) (TD hd) (Nat.le_refl _) s.bX items [] [] As ts [] _ g σ ah vh ⟨ht,hn,s2,Fz.le_refl g,fun _ _=>rfl,⟨by rw[vx,dp];omega,fun o _ _=>hg o,fun i x hx hl _=>⟨i,x,hx,hl,rfl⟩⟩,hb,e9.refl _ _ _ _⟩
  ⟨rfl,List.nodup_nil,fun p hp=>(by cases hp),fun q hq=>(by cases hq)⟩ (fun j hj=>?_) (fun m hm=>(by cases hm)) hs
 rw[List.all_eq_true] at hAs
 have a8:j<pj As ops.size:=by simpa using hAs j hj
 refine⟨?_,by rw[dp];omega,by simp⟩
 rw[hg]
 cases hq:h.get (h.next+j) with
 |none=>rfl
 |some x=>have:=ai.iE hq;omega
variable {ah:bf} {todo:List Nat} {dE:List (Nat×Nat)} {Ar:List Nat} {K:bf→af→Prop} {m:Nat} {r:List jo} {o:Oper}
theorem mL.rd {v:PV}(ho:ops[m]?=some o)(hw:fQ ops o ah=some true)(hW:W.contains m=false)(hA:Ar.contains m=false)(FC:As.contains m=false)(hr:xH o.op=true)(hd:jH N o.dst=true)
  (hv:dz P ah (fJ (b6 ms m dE) vh) o.op=some (v,fJ (b6 ms m dE) vh)) (hk:mL P N b ops ms W As K r (bif Bo o&&dE.isEmpty then m::kZ ops todo o.dst else kZ ops todo o.dst) dE Ar (bA ah o.dst v) vh) :
  mL P N b ops ms W As K (.op m::r) todo dE Ar ah vh:=by
 simp only[mL,ho,hw,hW,hA,bx]
 exact⟨FC,hr,hd,v,hv,hk⟩
theorem mL.al {v:PV}{x:aO}(ho:ops[m]?=some o)(hw:fQ ops o ah=some true)(hW:W.contains m=false)(hA:Ar.contains m=true)(FC:As.contains m=true)(hd:jH N o.dst=true)
  (hv:dN P ah vh o.op=some (v,x)) (hk:mL P N b ops ms W As K r (kZ ops todo o.dst) ((m,vh.next)::dE) (Ar.filter fun k=>!Nat.beq k m) (bA ah o.dst v) (vh.alloc x)) :
  mL P N b ops ms W As K (.op m::r) todo dE Ar ah vh:=by
 simp only[mL,ho,hw,hW,hA,bx,aQ]
 exact⟨FC,hd,v,x,hv,hk⟩
theorem mL.wr (ho:ops[m]?=some o)(hw:fQ ops o ah=some true)(hW:W.contains m=true)
  (hs:sF P N vh.next ops o todo (fun fD aF aZ=>mL P N b ops ms W As K r fD (dG ms m dE) Ar aF (iO vh (b6 ms m dE) aZ)) ah (fJ (b6 ms m dE) vh)) :
  mL P N b ops ms W As K (.op m::r) todo dE Ar ah vh:=by
 simp only[mL,ho,hw,hW,aQ]
 exact hs
theorem mL.ck (ho:ops[m]?=some o)(hc:todo.contains m=true)(hk:mL P N b ops ms W As K r todo dE Ar ah vh):mL P N b ops ms W As K (.ck m::r) todo dE Ar ah vh:=by
 simp only[mL,ho]
 exact⟨.inl hc,hk⟩
theorem mL.done (hk:K ah vh):mL P N b ops ms W As K [] todo dE Ar ah vh:=hk
end
theorem Alt.ofEq {vh:af}{n2:Nat}{D:Nat→Bool}{ρ:Nat→Nat}{v v2:PV}(hf:v.aD=true)(h:v=v2):Alt vh n2 D ρ v v2:=h▸.same v hf
theorem Alt.A5 {vh:af}{n2:Nat}{D:Nat→Bool}{ρ:Nat→Nat}{v2:PV}(h:v2=.vec []):Alt vh n2 D ρ .aJ v2:=h▸.eH
theorem Alt.qE {vh:af}{n2:Nat}{D:Nat→Bool}{ρ:Nat→Nat}(j n:Nat)(nl:Bool)(hn:n=0):Alt vh n2 D ρ .aJ (.grow j n nl):=hn▸.aJ j nl
section
variable {P:Program} {N b:Nat} {ah:bf} {vh:af}
theorem oh.Kj {o:Oper}{t ek:TypeId}{x y:Operand}{next:bf→af→Prop}(ho:∃pos,o.op=.binOp .eql t x y pos)(ht:P.underlying t=some (.slice ek))(hx:ct ah x=some (.vec []))(hy:ct ah y=some .aJ)(hd:jH N o.dst=true)
  (hn:∀q:Bool,next (bA ah o.dst (.bool q)) vh):oh P N b o next ah vh:=fun lo g σ h ts ph hl s hb=>by
 obtain⟨pos,ho⟩:=ho
 obtain⟨x',k1,k2⟩:=fX ph hx
 obtain⟨y',k3,k4⟩:=fX ph hy
 have:=k4.aD rfl;cases this
 have hq:∃q:Bool,eB P t x' (.slice none 0 0)=some q:=by
  have:=k2.aD rfl
  cases this with
  |ie=>exact⟨true,by simp[eB,ht]⟩
  |et=>exact⟨false,by simp[eB,ht]⟩
  |vec _ o off k s0 sz au=>exact⟨false,by simp[eB,ht]⟩
 obtain⟨q,hq⟩:=hq
 obtain⟨e1,_⟩:=PE (P:=P) hq (fun k x k' y hh=>by have:=hh.2;cases this) (fun x y hh=>by have:=hh.2;cases this)
 obtain⟨g1,g2⟩:=vt (Fz.le_refl g) (Nat.le_refl _) (fun _ _=>rfl) ph o.dst (hl▸hd) (.fr _ _ (.bool q):VR g σ vh.next (.bool q) (.bool q))
 refine .op (v:=.bool q) (h':=h) (by rw[ho];simp only[cV,k1,k3,e1,Option.map_some]) ?_
 exact⟨g,σ,_,vh,⟨g1,g2.trans hl,s,Fz.le_refl g,fun _ _=>rfl,VF.refl _ _ _,hb,e9.refl _ _ _ _⟩,hn q⟩
theorem eN.fresh {f:FuncId}{args es:List PV}{sz:Nat}(hp:eN P f args af.empty fun v aq=>∃i nl,v=.grow i es.length nl∧aq.get i=some (.grow sz es))(hf:PV.az args=true)(db:0<es.length) :
  eN P f args vh fun v aq=>v=.grow vh.next es.length false∧aq=vh.alloc (.grow sz es):=fun lo g σ h aH ha s=>by
 have C6:bp (VR g σ af.empty.next) args aH:=(ha.aD hf).vr
 refine(hp lo g σ h aH C6 (.none s.fz s.bX σ)).mono fun r h' ⟨g',aU,v,aq,h1,h2,h3,h4,h5,h6,h7,i,nl,h8,h9⟩=>?_
 subst h8
 have dL:∀o,o<h.next→h'.get o=h.get o:=fun o ho=>h5.iN o ho fun i x hx=>by cases hx
 have ir:aO.live (.grow sz es)=true:=by
  cases es with
  |nil=>simp at db
  |cons=>rfl
 obtain⟨hi,s5⟩:=h2.obj i _ h9
 have SC:h.next≤(aU i).1:=by
  rcases Nat.lt_or_ge (aU i).1 h.next with a8|SC
  ·obtain⟨j,y,hj,_⟩:=h5.own i _ h9 ir a8
   cases hj
  exact SC
 have hg:∀o x,g' o=some x→o<h.next→∃y,g o=some y:=fun o x hx ho=>by
  rcases h7 o x hx ho with h|⟨i,y,h,_⟩
  ·exact⟨_,h⟩
  cases h
 have cW:∀j,j<vh.next→(σ.put vh.next (aU i)) j=σ j:=fun j hj=>Sg.AO _ _ (by omega)
 have split:∀j z,(vh.alloc (.grow sz es)).get j=some z→(j=vh.next∧z=.grow sz es)∨(j<vh.next∧vh.get j=some z):=fun j z hz=>by
  rw[af.lf] at hz
  by_cases hj:j=vh.next
  ·subst hj;simp at hz;exact .inl ⟨rfl,hz.symm⟩
  simp[hj] at hz;exact .inr ⟨(s.obj j z hz).1,hz⟩
 refine⟨g',σ.put vh.next (aU i),.grow vh.next es.length false,vh.alloc (.grow sz es),?_,⟨fun j z hz=>?_,fun j k z u hz hu cz vq he=>?_,fun j z hz cz=>?_,h2.fz,fun j z hz cz=>?_,h2.bX⟩,h3,cW,⟨h5.next,fun o ho _=>dL o ho,fun j z hz cz a8=>?_⟩,Nat.le_succ _,fun o x hx ho=>.inl (h7 o x hx ho |>.elim id fun⟨i,y,h,_⟩=>by cases h),rfl,rfl⟩
 ·generalize hm:es.length=m at h1 db ⊢
  cases h1 with
  |fr _ _ h=>cases h
  |cB=>omega
  |cC=>omega
  |grow _ _ o a k _ dB hs hn=>exact .grow vh.next m o a k false (Nat.lt_succ_self _) (by rw[Sg.cX];exact hs) hn
 ·rcases split j z hz with⟨rfl,rfl⟩|⟨hj,hz⟩
  ·refine⟨Nat.lt_succ_self _,?_⟩
   obtain⟨q0,q1,q2,q3⟩:=s5
   refine⟨q0,q1,q2,q3.imp_right fun⟨s0,au,k1,k2,k3,k4⟩=>⟨s0,au,by rw[Sg.cX];exact k1,by rw[Sg.cX];exact k2,k3,by rw[Sg.cX];exact k4⟩⟩
  obtain⟨k1,k2⟩:=s.obj j z hz
  exact⟨Nat.lt_succ_of_lt hj,k2.mono h3 (Nat.le_succ _) cW hj fun cz=>dL _ (k2.lt cz)⟩
 ·rcases split j z hz with⟨hj,_⟩|⟨hj,hz⟩<;>rcases split k u hu with⟨hk,_⟩|⟨hk,hu⟩
  ·rw[hj,hk]
  ·rw[hj,Sg.cX,cW k hk] at he
   have:=(s.obj k u hu).2.lt vq;omega
  ·rw[hk,Sg.cX,cW j hj] at he
   have:=(s.obj j z hz).2.lt cz;omega
  rw[cW j hj,cW k hk] at he;exact s.inj j k z u hz hu cz vq he
 ·rcases split j z hz with⟨rfl,rfl⟩|⟨hj,hz⟩
  ·rw[Sg.cX];exact h2.low i _ h9 ir
  rw[cW j hj];exact s.low j z hz cz
 ·rcases split j z hz with⟨rfl,rfl⟩|⟨hj,hz⟩
  ·rw[Sg.cX];exact h2.l6 i _ h9 ir
  rw[cW j hj]
  have hd:=s.l6 j z hz cz
  have a8:=(s.obj j z hz).2.lt cz
  cases qW:g' (σ j).1 with
  |none=>rfl
  |some y=>
   obtain⟨w,hw⟩:=hg _ y qW a8
   rw[hd] at hw;cases hw
 rcases split j z hz with⟨rfl,rfl⟩|⟨hj,hz⟩
 ·rw[Sg.cX] at a8;omega
 rw[cW j hj] at a8 ⊢;exact⟨j,z,hz,cz,rfl⟩
theorem eN.zh {f:FuncId}{args es:List PV}{sz n:Nat}(hn:es.length=n)(hp:eN P f args af.empty fun v aq=>∃i nl,v=.grow i n nl∧aq.get i=some (.grow sz es))(hf:PV.az args=true)(db:0<n) :
  eN P f args vh fun v aq=>v=.grow vh.next n false∧aq=vh.alloc (.grow sz es):=by
 subst hn;exact eN.fresh hp hf db
def LW (P:Program)(ah:bf)(aZ:af)(ops:Array Oper)(todo:List Nat):List Nat→Prop
 |[]=>True
 |m::r=>(todo.contains m=true∧∃om u,ops[m]?=some om∧dz P ah aZ om.op=some (u,aZ))∧LW P ah aZ ops todo r
theorem LW.mem {ah:bf}{aZ:af}{ops:Array Oper}{todo:List Nat}:∀ {l:List Nat},LW P ah aZ ops todo l→∀m∈l,m∈todo∧∃om u,ops[m]?=some om∧dz P ah aZ om.op=some (u,aZ)
 |[],_,m,hm=>by cases hm
 |k::r,h,m,hm=>by
  rcases List.mem_cons.1 hm with rfl|hm
  ·exact⟨by simpa using h.1.1,h.1.2⟩
  exact LW.mem h.2 m hm
theorem cA.ckU {ops:Array Oper}{W todo:List Nat}{K:bf→af→Prop}{m:Nat}{r:List jo}{o:Oper}(ho:ops[m]?=some o)(hw:fQ ops o ah=some false)(hd:o.dst.isSome=true)
  (k:cA P N b ops W K r todo ah vh):cA P N b ops W K (.ck m::r) todo ah vh:=by
 simp only[cA,ho];exact⟨.inr ⟨hd,hw⟩,k⟩
end
theorem VW.join {P:Program}{N b:Nat}{Q:kU}{ah:bf}{vh:af}{x y:Code}{S:Type}(st:S→bf×af)(I:S→Prop)
  (hx:VW P N b x (C0 (fun aY aq=>∃s',I s'∧Rec b aY aq (st s').1 (st s').2) Q) ah vh) (hy:∀s,I s→VW P N b y Q (st s).1 (st s).2):VW P N b (.seq x y) Q ah vh:=
 .seq (hx.mono fun e ah vh hq=>by
  cases e with
  |normal=>obtain⟨s',k1,k2⟩:=hq;exact .rec k2 (hy s' k1)
  |exit id=>exact hq
  |goto l=>exact hq
  |ret=>exact hq
  |panic ch=>exact hq
  |outgrown=>exact hq)
theorem RS {sz:Nat}:∀ {es:List PV} {q:Nat} {e:PV},(∀e∈es,e.cells.length=sz)→es[q]?=some e→((es.flatMap PV.cells).drop (q*sz)).take sz=e.cells∧q*sz+sz≤(es.flatMap PV.cells).length
 |[],q,e,_,h=>by simp at h
 |a::r,0,e,hs,h=>by
  simp at h;subst h
  have:=hs a List.mem_cons_self
  rw[Nat.zero_mul,List.drop_zero,List.flatMap_cons,List.take_append_of_le_length (by omega),← this,List.take_length]
  exact⟨rfl,by rw[List.length_append];omega⟩
 |a::r,q+1,e,hs,h=>by
  have h1:=hs a List.mem_cons_self
  obtain⟨h2,h3⟩:=RS (es:=r) (q:=q) (fun x hx=>hs x (List.mem_cons_of_mem _ hx)) (by simpa using h)
  rw[List.flatMap_cons,Nat.succ_mul,show q*sz+sz=a.cells.length+q*sz by omega,List.drop_append,List.drop_eq_nil_of_le (by omega),List.nil_append,show a.cells.length+q*sz - a.cells.length=q*sz by omega]
  exact⟨h2,by rw[List.length_append];omega⟩
section
variable {P:Program} {N b:Nat} {ah:bf} {vh:af}
end
open Go Go.Proofs
section
variable {P:Program} {N b:Nat} {ah:bf} {vh:af}
end
open Go
section
variable {P:Program} {N b:Nat} {ah:bf} {vh:af}
inductive Deep (vh:af):PV→PV→Prop where
  |bI {v v2:PV} (h:bI vh v=some v2):Deep vh v v2
  |ptr {i off:Nat} {cs pX:List PV} (hg:vh.get i=some (.box cs)) (hz:bG vh cs=some pX) (hle:Nat.ble off pX.length=true):Deep vh (.ptr i off) (.vp (pX.drop off))
end
section
variable {P:Program} {vh:af}
end
section
variable {P:Program} {N b:Nat} {Q:kU} {ah:bf} {vh:af} {pv:Value}
end
section
variable {P:Program} {N b:Nat} {ah:bf} {vh:af}
end
section
variable {P:Program} {lo:Nat} {Q:ow} {ts:aL} {h:ai} {pv:Value}
end
section
variable {P:Program} {N b:Nat} {Q:kU} {ah:bf} {vh:af} {pv:Value}
end
section
variable {P:Program} {vh:af}
theorem VS.Da {lo:Nat}{g:Fz}{σ:Sg}{h:ai}(s:VS lo g σ vh h)(i:Nat):VS lo g σ (vh.drop i) h:=
 ⟨fun j y hy=>s.obj j y (nr hy).2,fun j k y z hy hz=>s.inj j k y z (nr hy).2 (nr hz).2,fun j y hy=>s.low j y (nr hy).2,s.fz,fun j y hy=>s.l6 j y (nr hy).2,s.bX⟩
theorem VS.xml {lo:Nat}{g g':Fz}{σ aU:Sg}{h h':ai}{cI:af}(s:VS lo g σ vh h){i:Nat}{x:aO}(hi:vh.get i=some x)(hl:x.live=true)(h2:VS lo g' aU cI h')(h3:g.le g')(h4:∀i,i<vh.next→aU i=σ i)
  (h5:VF σ (vh.drop i) h aU cI h') (h6:vh.next≤cI.next) (h7:e9 g σ (vh.drop i) h g'):VS lo g' aU (cI.back i x) h'∧VF σ vh h aU (cI.back i x) h'∧e9 g σ vh h g':=by
 obtain⟨dC,hix⟩:=s.obj i x hi
 have a8:=hix.lt hl
 have AE:=h4 i dC
 have db:∀j y,(vh.drop i).get j=some y→y.live=true→(σ j).1≠(σ i).1:=fun j y hy kJ he=>by
  obtain⟨k1,k2⟩:=nr hy
  exact k1 (s.inj j i y x k2 hi kJ hl he)
 have dL:h'.get (σ i).1=h.get (σ i).1:=h5.iN _ a8 db
 have iK:∀j z,cI.get j=some z→z.live=true→(aU j).1≠(σ i).1:=fun j z hz cz he=>by
  obtain⟨k,u,k1,k2,k3⟩:=h5.own j z hz cz (by rw[he];exact a8)
  exact db k u k1 k2 (k3.trans he)
 refine⟨⟨fun j z hz=>?_,fun j k z u hz hu cz vq he=>?_,fun j z hz cz=>?_,h2.fz,fun j z hz cz=>?_,h2.bX⟩,⟨h5.next,fun o ho hn=>h5.iN o ho fun j y hy kJ=>hn j y (nr hy).2 kJ,fun j z hz cz qQ=>?_⟩,fun o z hz ho=>?_⟩
 ·rw[af.yd] at hz
  by_cases hj:j=i
  ·subst hj
   simp at hz;subst hz
   exact⟨Nat.lt_of_lt_of_le dC h6,hix.mono h3 h6 h4 dC fun _=>dL⟩
  simp only[hj,if_false] at hz
  exact h2.obj j z hz
 ·rw[af.yd] at hz hu
  by_cases hj:j=i
  ·subst hj
   by_cases hk:k=j
   ·exact hk.symm
   simp only[hk,if_false] at hu
   exact absurd (he.symm.trans (by rw[AE])) (iK k u hu vq)
  simp only[hj,if_false] at hz
  by_cases hk:k=i
  ·subst hk
   exact absurd (he.trans (by rw[AE])) (iK j z hz cz)
  simp only[hk,if_false] at hu
  exact h2.inj j k z u hz hu cz vq he
 ·rw[af.yd] at hz
  by_cases hj:j=i
  ·subst hj;rw[AE];exact s.low j x hi hl
  simp only[hj,if_false] at hz
  exact h2.low j z hz cz
 ·rw[af.yd] at hz
  by_cases hj:j=i
  ·subst hj
   rw[AE]
   cases qW:g' (σ j).1 with
   |none=>rfl
   |some q=>
    rcases h7 _ q qW a8 with A1|⟨k,u,k1,k2,k3⟩
    ·rw[s.l6 j x hi hl] at A1;cases A1
    exact absurd k3 (db k u k1 k2)
  simp only[hj,if_false] at hz
  exact h2.l6 j z hz cz
 ·rw[af.yd] at hz
  by_cases hj:j=i
  ·subst hj;exact⟨j,x,hi,hl,by rw[AE]⟩
  simp only[hj,if_false] at hz
  obtain⟨k,u,k1,k2,k3⟩:=h5.own j z hz cz qQ
  exact⟨k,u,(nr k1).2,k2,k3⟩
 rcases h7 o z hz ho with A1|⟨k,u,k1,k2,k3⟩
 ·exact .inl A1
 exact .inr ⟨k,u,(nr k1).2,k2,k3⟩
theorem eN.frame {f:FuncId}{args:List PV}{R:PV→af→Prop}{i:Nat}{x:aO}(hi:vh.get i=some x)(hl:x.live=true)(hc:eN P f args (vh.drop i) R):eN P f args vh fun v aq=>∃cI,R v cI∧aq=cI.back i x:=fun lo g σ h aH ha s=>by
 refine(hc lo g σ h aH ha (s.Da i)).mono fun r h' ⟨g',aU,v,cI,h1,h2,h3,h4,h5,h6,h7,h8⟩=>?_
 obtain⟨k1,k2,k3⟩:=s.xml hi hl h2 h3 h4 h5 h6 h7
 exact⟨g',aU,v,cI.back i x,h1,k1,h3,h4,k2,h6,k3,cI,h8,rfl⟩
end
section
variable {P:Program} {N b:Nat} {ah:bf} {vh:af}
end
section
variable {P:Program} {vh:af}
end
section
variable {P:Program} {N b:Nat} {ah:bf} {vh:af}
end
def af.yf (vh:af):List Nat→af
 |[]=>vh
 |i::r=>(vh.yf r).drop i
def LX (l:List Nat):List (Nat×aO)→List (Nat×aO)
 |[]=>[]
 |(j,y)::r=>bif l.contains j then (j,y)::LX l r else LX l r
def af.only (vh:af)(l:List Nat):af:=⟨vh.next,LX l vh.br⟩
theorem af.zx2 {vh:af}{l:List Nat}{j:Nat}{y:aO}(h:(vh.only l).get j=some y):vh.get j=some y∧j∈l:=by
 obtain⟨n,os⟩:=vh
 simp only[af.get,af.only] at h ⊢
 induction os with
 |nil=>simp[LX,bq] at h
 |cons e r ih=>
  obtain⟨i,z⟩:=e
  simp only[LX] at h
  cases hc:l.contains i with
  |true=>
   rw[hc] at h
   simp only[aQ,bq,beq_eq] at h ⊢
   by_cases kx:j=i
   ·subst kx;simp at h ⊢;exact⟨h,by simpa using hc⟩
   simp[kx] at h ⊢;exact ih h
  |false=>
   rw[hc] at h
   simp only[bx,bq,beq_eq] at h ⊢
   have:=ih h
   by_cases kx:j=i
   ·subst kx;rw[← List.contains_iff_mem] at this;rw[hc] at this;exact absurd this.2 (by simp)
   simp[kx];exact this
section
variable {P:Program} {N b lo:Nat} {ah:bf} {vh:af} {g:Fz} {σ:Sg} {h:ai}
theorem VS.xex (s:VS lo g σ vh h):∀l:List Nat,(∀j y,(vh.yf l).get j=some y→vh.get j=some y)∧∃hK:ai,VS lo g σ (vh.yf l) hK∧∀p q,hK.get p=some q→h.get p=some q∧∀i∈l,∀y,vh.get i=some y→y.live=true→p≠(σ i).1
 |[]=>⟨fun _ _ h=>h,h,s,fun p q hq=>⟨hq,fun i hi=>by cases hi⟩⟩
 |i::r=>by
  obtain⟨k0,hK,k1,k2⟩:=VS.xex s r
  have k3:∀j y,(vh.yf (i::r)).get j=some y→vh.get j=some y:=fun j y hy=>k0 j y (nr hy).2
  refine⟨k3,?_⟩
  have soft:(∀y,(vh.yf r).get i=some y→y.live=true→False)→∃hK:ai,VS lo g σ (vh.yf (i::r)) hK∧∀p q,hK.get p=some q→h.get p=some q∧∀j∈i::r,∀y,vh.get j=some y→y.live=true→p≠(σ j).1:=fun iK=>by
   refine⟨hK,k1.Da i,fun p q hq=>⟨(k2 p q hq).1,fun j hj y hy kJ=>?_⟩⟩
   rcases List.mem_cons.1 hj with rfl|hj
   ·by_cases hjr:j∈r
    ·exact(k2 p q hq).2 j hjr y hy kJ
    have same:∀l:List Nat,j∉l→(vh.yf l).get j=vh.get j:=by
     intro l
     induction l with
     |nil=>intro _;rfl
     |cons a l ih=>
      intro hn
      simp only[List.mem_cons,not_or] at hn
      show ((vh.yf l).drop a).get j=_
      rw[af.PB,if_neg hn.1];exact ih hn.2
    exact absurd kJ (fun kJ=>iK y (by rw[same r hjr];exact hy) kJ)
   exact(k2 p q hq).2 j hj y hy kJ
  cases hg:(vh.yf r).get i with
  |none=>exact soft fun y hy=>by rw[hg] at hy;cases hy
  |some y=>
   cases hl:y.live with
   |false=>exact soft fun z hz cz=>by rw[hg] at hz;injection hz with hz;subst hz;rw[hl] at cz;cases cz
   |true=>
    obtain⟨q1,_⟩:=k1.kill hg hl
    have a8:=(k1.obj i y hg).2.lt hl
    refine⟨_,q1,fun p q hq=>?_⟩
    rw[ai.eT _ _ _ _ a8] at hq
    by_cases hp:p=(σ i).1
    ·simp[hp] at hq
    rw[if_neg hp] at hq
    refine⟨(k2 p q hq).1,fun j hj z hz cz=>?_⟩
    rcases List.mem_cons.1 hj with rfl|hj
    ·exact hp
    exact(k2 p q hq).2 j hj z hz cz
theorem sF.F1 {ops:Array Oper}{o:Oper}{todo fD:List Nat}{next:List Nat→bf→af→Prop}(l:List Nat){v v2:PV}{aq aZ:af}(hv:Go.Am.dz P ah vh o.op=some (v,aq))(eZ:Go.Am.dz P ah (vh.only l) o.op=some (v2,aZ))(hd:jH N o.dst=true)
  (ht:LW P ah (vh.yf l) ops todo fD) (hf:fD.all (Ov ops o.dst)=true) (hn:next fD (bA ah o.dst v) aq):sF P N b ops o todo next ah vh:=fun lo g σ h ts rL hl s hb jA mC fy=>by
 obtain⟨v',h',k1,aU,k2,k3,k4,k5,k6⟩:=GL (lo:=lo) s rL hv
 obtain⟨g1,g2⟩:=vt (Fz.le_refl g) k5 k6 rL o.dst (hl▸hd) k2
 refine .op (v:=v') (h':=h') (by rw[E4 (fun x hx=>fy.eval x hx)];exact k1) ⟨v',rfl,fD,fun m hm=>?_,g,aU,_,aq,⟨g1,g2.trans hl,k3,Fz.le_refl g,fun i hi=>k6 i (by omega),k4,by omega,e9.refl _ _ _ _⟩,hn⟩
 obtain⟨h1,om,u,h2,h3⟩:=ht.mem m hm
 obtain⟨o',d,w,h4,c1,c2,c3,c4,c5⟩:=jA m h1
 rw[h2] at c1;injection c1 with c1;subst c1
 obtain⟨_,hK,q1,q2⟩:=s.xex l
 have nx:∀l:List Nat,(vh.yf l).next=vh.next:=by
  intro l
  induction l with
  |nil=>rfl
  |cons a l ih=>exact ih
 have TQ:VT g σ (vh.yf l).next ah ts:=by rw[nx];exact rL
 obtain⟨w',h5,e1,_⟩:=GL (lo:=lo) q1 TQ h3
 obtain⟨e2,e3⟩:=Dt c3 e1
 subst e2
 have TR:h5.sub h:=fun p q hq=>(q2 p q hq).1
 have ew:w'=w:=by
  have:=e3 h TR
  rw[c5] at this
  simp only[aB,bO] at this
  exact this.1.symm
 subst ew
 obtain⟨sO,_⟩:=s.sub (aZ:=vh.only l) rfl fun j y hy=>(af.zx2 hy).1
 obtain⟨v3,Mb,r1,_,_,_,r4,_⟩:=GL (lo:=lo) sO rL eZ
 rw[k1] at r1
 simp only[aB,bO] at r1
 obtain⟨rfl,rfl⟩:=r1
 have Da:h5.sub h':=fun p q hq=>by
  obtain⟨t1,t2⟩:=q2 p q hq
  rw[r4.iN p (ai.iE t1) fun i x hx vU he=>?_]
  ·exact t1
  obtain⟨t3,t4⟩:=af.zx2 hx
  exact t2 i t4 x t3 vU he.symm
 have hc:vY P lo ops ts h5 m:=⟨om,d,w',h5,h2,c2,c3,c4,e1⟩
 exact hc.put v' Da (List.all_eq_true.1 hf m hm)
end
open Go Go.Proofs Go.Shelf Go.Sort
theorem TS {α β:Type}{enc:α→List β}{k:Nat}(hk:∀x,(enc x).length=k):∀(zs:List α) (t:Nat),(zs.flatMap enc)[t]?=(zs[t / k]?).bind fun x=>(enc x)[t % k]?
 |[],t=>by simp
 |a::r,t=>by
  rw[List.flatMap_cons,List.getElem?_append,hk]
  by_cases h:t<k
  ·rw[if_pos h,Nat.div_eq_of_lt h,Nat.mod_eq_of_lt h];rfl
  rw[if_neg h]
  rcases Nat.eq_zero_or_pos k with rfl|h0
  ·rw[TS hk r (t - 0)]
   have e0:∀x:α,enc x=[]:=fun x=>List.eq_nil_of_length_eq_zero (hk x)
   simp only[e0]
   cases hx:r[(t - 0) / 0]?<;>cases hy:(a::r)[t / 0]?<;>rfl
  rw[TS hk r (t - k)]
  have e1:t / k=(t - k) / k+1:=by rw[Nat.div_eq t k,if_pos ⟨h0,by omega⟩]
  have e2:t % k=(t - k) % k:=by rw[Nat.mod_eq t k,if_pos ⟨h0,by omega⟩]
  rw[e1,e2];rfl
theorem HQ {α β:Type}{enc:α→List β}{k:Nat}(hk:∀x,(enc x).length=k):∀zs:List α,(zs.flatMap enc).length=zs.length*k
 |[]=>by simp
 |a::r=>by rw[List.flatMap_cons,List.length_append,hk,HQ hk r,List.length_cons,Nat.succ_mul,Nat.add_comm]
theorem zym {α:Type}[Inhabited α]{enc:α→List Value}{k:Nat}(hk:∀x,(enc x).length=k)(h0:0<k)(zs:List α):(flatK enc k zs.toArray).toList=zs.flatMap enc:=by
 refine List.ext_getElem? fun t=>?_
 rw[TS hk]
 by_cases ht:t<zs.length*k
 ·have hq:t / k<zs.length:=by rw[Nat.div_lt_iff_lt_mul h0];exact ht
  have hr:t % k<(enc zs[t / k]).length:=by rw[hk];exact Nat.mod_lt _ h0
  rw[List.getElem?_eq_getElem hq]
  simp only[Option.bind_some]
  rw[List.getElem?_eq_getElem hr]
  have hs:t<(flatK enc k zs.toArray).toList.length:=by simp;exact ht
  rw[List.getElem?_eq_getElem hs]
  have:=get_flatK enc k zs.toArray t (by simpa using ht)
  rw[getElem!_pos _ t (by simpa using ht)] at this
  rw[Array.getElem_toList,this]
  simp[hq,hr]
 have hq:¬t / k<zs.length:=by rw[Nat.div_lt_iff_lt_mul h0];exact ht
 rw[List.getElem?_eq_none (l:=zs) (by omega)]
 rw[List.getElem?_eq_none (by simp;omega)]
 rfl
section
variable {P:Program} {lo:Nat} {h:ai}
theorem zrw {U:Mu}{w:World}(r:Rel U lo h w){o off s b a C:Nat}{cs:List Value}(d d0:List Value)(hd:∀x∈d,ot x=true)(TT:∀x∈d0,ot x=true)(hlen:d.length=d0.length)
  (hg:h.get o=some (.cells s cs)) (hl:lo≤o) (hm:U o=some (b,a,C)) (n3:∀i x,d0[i]?=some x→cs[off+i]?=some x) (yT:off≤cs.length) :
  Sort.Holds id w b (a+off) d0.toArray∧Rel U lo (h.put o (some (.cells s (ia cs off d)))) (Sort.putRow id w b (a+off) d.toArray)∧
  Frame lo U h w U (h.put o (some (.cells s (ia cs off d)))) (Sort.putRow id w b (a+off) d.toArray):=by
 have s5:=qT r hg hm
 have hH:Sort.Holds id w b (a+off) d0.toArray:=by
  intro j hj
  have mN:j<d0.length:=by simpa using hj
  obtain⟨v',h1,h2⟩:=s5.2.1 (off+j) _ (n3 j d0[j] (by simp[mN]))
  have:=IK (TT _ (List.getElem_mem mN)) h2
  subst this
  refine⟨?_,r.fZ o _ b a C hl hg hm _⟩
  have e:d0.toArray[j]! = d0[j]:=by simp[mN]
  rw[e,Nat.add_assoc];exact h1
 refine⟨hH,?_⟩
 have hle:off+d.length≤cs.length:=by
  rw[hlen]
  rcases Nat.eq_zero_or_pos d0.length with h0|h0
  ·omega
  have:=n3 (d0.length - 1) d0[d0.length - 1] (by simp)
  have:=(List.getElem?_eq_some_iff.1 this).1
  omega
 refine OA r hg hl hm _ (by simp) (fun b' sK=>?_) ⟨by simp;exact s5.1,fun i v hv=>?_,fun hs=>⟨by rw[OC _ _ _ hle];exact(s5.2.2 hs).1,fun i hi=>?_⟩⟩ (fun o'=>by rw[Sort.frozen?_putRow];exact r.fZ o _ b a C hl hg hm o') ⟨rfl,rfl,rfl,fun _=>by first|exact Nat.le_refl _|exact Nat.le_add_right _ _|exact Nat.le_succ _⟩
 ·have:b≠b':=fun h=>sK h.symm
  simp only[Sort.putRow,Sort.mapBlock,Array.getElem?_modify,this,if_false]
 ·rw[LZ _ _ _ hle] at hv
  by_cases hi:off≤i∧i<off+d.length
  ·rw[if_pos hi] at hv
   have hid:i - off<d.length:=by omega
   rw[List.getElem?_eq_getElem hid] at hv
   simp only[aB] at hv
   subst hv
   refine⟨_,?_,.Bv (hd _ (List.getElem_mem hid))⟩
   have:=Sort.cell?_putRow id w b (a+off) d0.toArray d.toArray hH (by simpa using hlen) (i - off) (by simpa using hid)
   have e:a+off+(i - off)=a+i:=by omega
   rw[e] at this
   rw[this]
   simp[hid]
  rw[if_neg hi] at hv
  obtain⟨v',h1,h2⟩:=s5.2.1 i v hv
  refine⟨v',?_,h2⟩
  rw[Sort.cell?_putRow_other]
  ·exact h1
  right;simp only[List.size_toArray];omega
 obtain⟨v',h1⟩:=(s5.2.2 hs).2 i hi
 by_cases hi2:off≤i∧i<off+d.length
 ·have:=Sort.cell?_putRow id w b (a+off) d0.toArray d.toArray hH (by simpa using hlen) (i - off) (by simp;omega)
  have e:a+off+(i - off)=a+i:=by omega
  rw[e] at this
  exact⟨_,this⟩
 refine⟨v',?_⟩
 rw[Sort.cell?_putRow_other]
 ·exact h1
 right;simp only[List.size_toArray];omega
def DQ {α:Type}(cf:α→α→Int)(x y:α):Bool:=!(ltOf cf) y x
theorem qv.z8b {ρ:Ren}(L:SlLaysF0.n6 P ρ){α:Type}[Inhabited α]{k:Nat}(h0:0<k)(aE:∀w,(isAgg (ρ.t 24)).run P w=.ok true w)(zE:∀w,(Go.sizeOf (ρ.t 24)).run P w=.ok k w)(enc:α→List Value)(hk:∀x,(enc x).length=k)(mT:∀x,∀v∈enc x,ot v=true∧v.oneCell'=true)
  (cf:α→α→Int) (hO:SWO (ltOf cf)) (hT:∀x y,ltOf cf x y=false→ltOf cf y x=false→x=y) (g:Nat) (eg:∀args w,(callFunc g args).run P w=.ok (.enter g args) w)
  (GW:∀x y w,Calls P g #[.agg (enc x).toArray,.agg (enc y).toArray] w fun e w'=>e=.returned (.int .i64 (cf x y))∧∃q uF,w'=Sort.grow (w.drewN q) uF)
  {o off s kk:Nat} {cs:List Value} {zs:List α} (hg:h.get o=some (.cells s cs)) (hl:lo≤o) (yT:off≤cs.length) (hz:∀t v,(zs.flatMap enc)[t]?=some v→cs[off+t]?=some v) (dU:zs.length<4611686018427387904) (p8:kk<eU) (sQ:0<zs.length) :
  qv P lo (ρ.f 6) [.slice (some ⟨o,off,none⟩) zs.length kk,.func (.func g) #[] #[]] h fun r h'=>r=.tuple #[]∧h'=h.put o (some (.cells s (ia cs off ((zs.mergeSort (DQ cf)).flatMap enc)))):=by
 refine .MG fun U w bj ha r=>?_
 obtain⟨v',r',sJ,hv,hr⟩:=ha.eJ
 obtain⟨v2,r2,TU,eZ,ky⟩:=hr.eJ
 have:=ky.lV;subst this
 obtain⟨LL,hL⟩:∃LL,zs.length=LL:=⟨_,rfl⟩
 rw[hL] at hv
 have w9:v2=.func (.func g) #[] #[]:=by
  cases eZ with
  |func _ _ _ bu eI hx hy _ _=>
   have h1:bu=#[]:=Array.eq_empty_of_size_eq_zero (by simpa using hx.symm)
   have h2:eI=#[]:=Array.eq_empty_of_size_eq_zero (by simpa using hy.symm)
   rw[h1,h2]
 subst w9
 subst TU
 have j5:bj=#[v',.func (.func g) #[] #[]]:=Array.ext' (by simpa using sJ)
 subst j5
 cases hv with
 |slice _ _ _ _ b a C hm De my=>
  subst hL
  have s5:=qT r hg hm
  have self:∀(l:List α),∀x∈l.flatMap enc,ot x=true:=fun l x hx=>by
   obtain⟨y,_,hy⟩:=List.mem_flatMap.1 hx
   exact(mT y x hy).1
  obtain⟨hH,ky,w9⟩:=zrw r ((zs.mergeSort (DQ cf)).flatMap enc) (zs.flatMap enc) (self _) (self _) (by rw[HQ hk,HQ hk,List.length_mergeSort]) hg hl hm hz yT
  have eF:∀l:List α,(l.flatMap enc).toArray=flatK enc k l.toArray:=fun l=>Array.ext' (by rw[zym hk h0])
  rw[eF] at hH ky w9
  have Fk:zs.toArray.size<4611686018427387904:=by simpa using dU
  have hc:=AnyQ.slices_SortFunc_total L k aE zE enc hk (fun x v hv=>(mT x v hv).2) cf hO g #[] b (a+off) (jz C kk) zs.toArray w eg (fun m os dk _ x y=>GW x y _) hH s5.vy Fk hT
  have TV:zs.toArray.size=zs.length:=by simp
  rw[TV] at hc
  refine hc.mono fun e w' ⟨h1,n,os,h2⟩=>?_
  subst h2
  obtain⟨FV,hf3⟩:=z7z (lo:=lo) os n ky
  exact⟨.tuple #[],_,_,U,h1,.tuple #[] #[] rfl (fun i h=>by simp at h),FV,w9.trans hf3,rfl,rfl⟩
 |cj=>exact absurd p8 (Nat.lt_irrefl _)
 |cK=>omega
end
theorem Ra {α:Type}(l:α→List Int)(zs:List α):(zs.map fun x=>PV.agg ((l x).map (PV.int .i64))).flatMap PV.cells=(zs.flatMap l).map (PV.int .i64):=by
 induction zs with
 |nil=>rfl
 |cons a r ih=>rw[List.map_cons,List.flatMap_cons,ih,List.flatMap_cons,List.map_append];rfl
section
variable {P:Program} {vh:af}
theorem eN.zr1 {ρ:Ren}(L:SlLaysF0.n6 P ρ){α:Type}[Inhabited α]{k:Nat}(h0:0<k)(aE:∀w,(isAgg (ρ.t 24)).run P w=.ok true w)(zE:∀w,(Go.sizeOf (ρ.t 24)).run P w=.ok k w)(l:α→List Int)(hk:∀x,(l x).length=k)
  (cf:α→α→Int) (hO:SWO (ltOf cf)) (hT:∀x y,ltOf cf x y=false→ltOf cf y x=false→x=y) (g:Nat) (eg:∀args w,(callFunc g args).run P w=.ok (.enter g args) w)
  (GW:∀x y w,Calls P g #[.agg ((l x).map (Value.int .i64)).toArray,.agg ((l y).map (Value.int .i64)).toArray] w fun e w'=>e=.returned (.int .i64 (cf x y))∧∃q uF,w'=Sort.grow (w.drewN q) uF)
  {i n:Nat} {nl:Bool} {zs:List α} (hg:vh.get i=some (.grow k (zs.map fun x=>PV.agg ((l x).map (PV.int .i64))))) (hn:zs.length=n) :
  eN P (ρ.f 6) [.grow i n nl,.func g [] []] vh fun r aq=>r=.bz []∧aq=vh.put i (.grow k ((zs.mergeSort (DQ cf)).map fun x=>PV.agg ((l x).map (PV.int .i64)))):=fun lo ga σ h aH ha s=>by
 subst hn
 obtain⟨v',r',rfl,hv,hr⟩:=ha.eJ
 obtain⟨v2,r2,rfl,eZ,ky⟩:=hr.eJ
 have:=ky.lV;subst this
 have w9:v2=.func (.func g) #[] #[]:=by
  have e0:∀(xs:Array Value),([]:List PV).length=xs.size→xs=#[]:=fun xs hx=>Array.eq_empty_of_size_eq_zero (by simpa using hx.symm)
  cases eZ with
  |fr _ _ hf=>
   cases hf with
   |func _ _ _ bu eI hx hy _ _=>rw[e0 _ hx,e0 _ hy]
  |func _ _ _ bu eI hx hy _ _=>rw[e0 _ hx,e0 _ hy]
 subst w9
 obtain⟨hi,W6,fx,dC,oy⟩:=s.obj i _ hg
 have empty:∀ {p:Option Addr} {cap:Nat},v'=.slice p 0 cap→zs.length=0→qv P lo (ρ.f 6) [v',.func (.func g) #[] #[]] h fun r h'=>∃g' aU v aq,VR g' aU aq.next v r∧VS lo g' aU aq h'∧ga.le g'∧(∀i,i<vh.next→aU i=σ i)∧VF σ vh h aU aq h'∧vh.next≤aq.next∧e9 ga σ vh h g'∧v=.bz []∧
   aq=vh.put i (.grow k ((zs.mergeSort (DQ cf)).map fun x=>PV.agg ((l x).map (PV.int .i64)))):=fun {p cap} bg hz=>by
  have hz:=List.eq_nil_of_length_eq_zero hz
  subst hz
  subst bg
  have hs:([]:List α).mergeSort (DQ cf)=[]:=by simp
  rw[hs]
  obtain⟨s1,f1⟩:=s.cX hg
  refine .MG fun U w bj Gi r=>?_
  obtain⟨v2,r2,sJ,Ik,Pm⟩:=Gi.eJ
  obtain⟨v3,r3,TW,ybp,TX⟩:=Pm.eJ
  have:=TX.lV;subst this
  subst TW
  have hsh:∃p' Db,v2=.slice p' 0 Db:=by cases Ik<;>exact⟨_,_,rfl⟩
  obtain⟨p',Db,rfl⟩:=hsh
  have j5:bj=#[.slice p' 0 Db,v3]:=Array.ext' (by simpa using sJ)
  subst j5
  refine(AnyF.slices_SortFunc_none L p' Db v3 w).mono fun e w' ⟨h1,h2⟩=>?_
  subst h2
  exact⟨.tuple #[],_,h,U,h1,.tuple #[] #[] rfl (fun i h=>by simp at h),r,Frame.refl _ _ _ _,ga,σ,.bz [],_,.fr _ _ vX,s1,Fz.le_refl ga,fun _ _=>rfl,f1,Nat.le_refl _,e9.refl _ _ _ _,rfl,rfl⟩
 rcases oy with wV|⟨s0,au,h1,h2,h3,h4⟩
 ·have hz:zs.length=0:=by have:=congrArg List.length wV;simpa using this
  have mW:zs=[]:=List.eq_nil_of_length_eq_zero hz
  subst mW
  cases hv with
  |fr _ _ h=>cases h
  |cB=>exact empty rfl rfl
  |cC=>exact empty rfl rfl
  |grow _ _ _ _ _ _ _ _ hn=>simp at hn
 rw[Ra] at h3
 have sJ:=bp.ints h3
 generalize hm:zs.length=m at hv
 cases hv with
 |fr _ _ h=>cases h
 |cB=>exact empty rfl hm
 |cC=>exact empty rfl hm
 |grow _ _ o a kk _ dB hs hn=>
  subst hm
  have ir:(aO.grow k (zs.map fun x=>PV.agg ((l x).map (PV.int .i64)))).live=true:=by
   cases zs with
   |nil=>simp at hn
   |cons=>rfl
  have bS:=s.low i _ hg ir
  rw[hs] at h1 h2 h4 bS;simp only at h1 h2 h4 bS;subst h2
  subst sJ
  have Cl:zs.length<4611686018427387904:=by
   have h6:(zs.map fun x=>PV.agg ((l x).map (PV.int .i64))).length<4611686018427387904:=dC
   rw[List.length_map] at h6
   exact h6
  have eY:kk<eU:=by
   show kk<9223372036854775808
   rcases h4 with⟨rfl,_⟩|rfl
   ·decide
   rw[List.length_map];omega
  have tR:∀zs:List α,zs.flatMap (fun x=>(l x).map (Value.int .i64))=(zs.flatMap l).map (Value.int .i64):=fun zs=>by rw[List.map_flatMap]
  have hS:=qv.z8b (P:=P) (h:=h) (lo:=lo) L h0 aE zE (fun x=>(l x).map (Value.int .i64)) (fun x=>by simp[hk]) (fun x v hv=>by obtain⟨n,_,rfl⟩:=List.mem_map.1 hv;exact⟨rfl,rfl⟩) cf hO hT g eg GW (off:=0) (kk:=kk) (zs:=zs) h1 bS (Nat.zero_le _) (fun t x hx=>by rw[tR] at hx;simpa using hx) Cl eY hn
  refine hS.mono fun r h' ⟨e1,e2⟩=>?_
  obtain⟨ms,vP⟩:∃ms,zs.mergeSort (DQ cf)=ms:=⟨_,rfl⟩
  have hlen:ms.length=zs.length:=by rw[← vP];exact List.length_mergeSort zs
  rw[vP] at e2 ⊢
  rw[tR] at e2
  have da:((ms.flatMap l).map (Value.int .i64)).length=((zs.flatMap l).map (Value.int .i64)).length:=by rw[List.length_map,List.length_map,HQ hk,HQ hk,hlen]
  have TY:ia ((zs.flatMap l).map (Value.int .i64)) 0 ((ms.flatMap l).map (Value.int .i64))=(ms.flatMap l).map (Value.int .i64):=by
   unfold ia
   rw[da];simp
  rw[TY] at e2
  subst e1;subst e2
  have hw:=s.write hg ir (x':=.grow k (ms.map fun x=>PV.agg ((l x).map (PV.int .i64)))) (.cells s0 ((ms.flatMap l).map (Value.int .i64)))
   ⟨W6,fun e he=>(by obtain⟨x,_,rfl⟩:=List.mem_map.1 he;show ((l x).map (PV.int .i64)).length=k;rw[List.length_map,hk]),by rw[List.length_map,hlen];exact Cl,.inr ⟨s0,_,by rw[ai.eT _ _ _ _ (by rw[hs];exact ai.iE h1),if_pos rfl],by rw[hs],by rw[Ra];exact bp.Rb _,by
    rw[hs];simp only[List.length_map,hlen] at h4 ⊢;exact h4⟩⟩
  rw[hs] at hw
  exact⟨ga,σ,.bz [],_,.fr _ _ vX,hw.1,Fz.le_refl ga,fun _ _=>rfl,hw.2,Nat.le_refl _,e9.refl _ _ _ _,rfl,rfl⟩
end
theorem Bs.grown {w w':World}(hd:bE.dr)(h:Bs w w'):∃q uF,w'=Sort.grow (w.drewN q) uF:=by
 obtain⟨⟨c1,c2,c3,c4⟩,hs,hk⟩:=h
 have c4:=c4 hd
 refine⟨w'.drawn - w.drawn,w'.heap.extract w.heap.size w'.heap.size,?_⟩
 obtain⟨vz,tp',dr',uF,ou'⟩:=w'
 obtain⟨hp,tp,dr,os,ou⟩:=w
 simp only at c1 c2 c3 c4 hs hk
 subst c1;subst c2;subst c3
 unfold Sort.grow World.drewN
 simp only[World.mk.injEq,and_true,true_and]
 refine⟨Array.ext_getElem? fun i=>?_,by omega⟩
 rw[Array.getElem?_append]
 split
 ·rename_i hi;exact hk i hi
 rename_i hi
 rw[Array.getElem?_extract]
 split
 ·congr 1;omega
 rw[Array.getElem?_eq_none (by omega)]
omit [bE] in
theorem aI.xiz {P:Program}{f:FuncId}{args:List PV}{k:IntKind}{n:Int}(hp:@aI bE.no P f args fun r=>r=.int k n){w:World}{bj:Array Value}(hl:args.length=bj.size)
  (ha:∀(i:Nat) v v',args[i]?=some v→bj[i]?=some v'→CV w v v'):Calls P f bj w fun e w'=>e=.returned (.int k n)∧@Bs bE.no w w':=by
 letI:bE:=bE.no
 have e0:∀o x,ai.empty.get o=some x→False:=fun o x hx=>by rw[ai.T2] at hx;cases hx
 have r0:Rel (fun _=>none) ai.empty.next ai.empty w:=⟨fun o x hx=>(e0 o x hx).elim,fun o o' x x' b a C a' C' _ hx=>(e0 o x hx).elim,fun o x hx=>(by cases hx),fun o x b a C _ hx=>(e0 o x hx).elim,Nat.le_refl _,⟨fun b hb=>absurd hb (Nat.not_lt_zero _),Nat.zero_le _,fun o x b a C _ hx=>(e0 o x hx).elim⟩⟩
 obtain⟨U,h,us,m,r,f1,v1⟩:=LR (l':=bj.toList) (by simpa using hl) (fun i v v' hv bg=>(ha i v v' hv (by simpa using bg)).zwe) _ _ r0
 have hc:qv P h.next f us h _:=hp h.next h.get (fun _=>(0,0,0)) h us ⟨f1.1,fun i v v' hv bg=>.fr _ _ (f1.2 i v v' hv bg)⟩ (VS.none (fun _ _ hx=>hx) (Nat.le_refl _) _)
 refine Calls.mono (callsIn_wide.1 (hc Fence.wide Ux rfl 0 U w bj v1 r)) fun e w' ⟨r',v,h',aV,k1,k2,k3,k4,g',aU,pv,aq,k5,_,_,_,_,_,_,k6,k7⟩=>?_
 subst k7
 cases k5 with
 |fr _ _ hf=>
  cases hf
  cases k2
  exact⟨k1,k4.calm,k4.size,fun b hb=>k4.kept b hb (by rintro⟨o,x,a,C,g1,g2,_⟩;have:=ai.iE g2;omega)⟩
omit [bE] in
theorem CV.ints {w:World}(l:List Int):CV w (.agg (l.map (PV.int .i64))) (.agg (l.map (Value.int .i64)).toArray):=
 .agg _ _ (by simp) fun i v v' hv bg=>by
  rw[List.getElem?_map] at hv
  simp only[List.getElem?_toArray,List.getElem?_map] at bg
  cases hi:l[i]? with
  |none=>rw[hi] at hv;cases hv
  |some x=>
   rw[hi] at hv bg
   simp only[Option.map_some,aB] at hv bg
   subst hv;subst bg
   exact .int _ _
omit [bE] in
theorem aI.cmp {P:Program}{f:FuncId}{a b:List Int}{n:Int}(hp:@aI bE.no P f [.agg (a.map (PV.int .i64)),.agg (b.map (PV.int .i64))] fun r=>r=.int .i64 n)(w:World) :
  Calls P f #[.agg (a.map (Value.int .i64)).toArray,.agg (b.map (Value.int .i64)).toArray] w fun e w'=>e=.returned (.int .i64 n)∧∃q uF,w'=Sort.grow (w.drewN q) uF:=
 (aI.xiz hp (w:=w) (bj:=#[.agg (a.map (Value.int .i64)).toArray,.agg (b.map (Value.int .i64)).toArray]) rfl fun i v v' hv bg=>by
  match i,hv,bg with
  |0,hv,bg=>simp at hv bg;subst hv;subst bg;simpa using CV.ints (w:=w) a
  |1,hv,bg=>simp at hv bg;subst hv;subst bg;simpa using CV.ints (w:=w) b
  |i+2,hv,_=>simp at hv).mono fun e w' ⟨h1,h2⟩=>letI:bE:=bE.no;⟨h1,Bs.grown trivial h2⟩
def oG (sz:Nat)(es:List PV):Prop:=∀e∈es,∃cs,e=.agg cs∧cs.length=sz
theorem oG.map {α:Type}{sz:Nat}{f:α→PV}{g:α→List PV}(hf:∀x,f x=.agg (g x))(hg:∀x,(g x).length=sz)(l:List α):oG sz (l.map f):=fun e he=>by
 obtain⟨x,_,rfl⟩:=List.mem_map.1 he
 exact⟨g x,hf x,hg x⟩
theorem oG.len {sz:Nat}:∀ {es:List PV},oG sz es→(es.flatMap PV.cells).length=es.length*sz
 |[],_=>by simp
 |e::r,h=>by
  obtain⟨cs,rfl,hc⟩:=h _ List.mem_cons_self
  have:=oG.len (es:=r) fun x hx=>h x (List.mem_cons_of_mem _ hx)
  rw[List.flatMap_cons,List.length_append,this,List.length_cons,Nat.succ_mul]
  show cs.length+_=_
  omega
theorem TZ {sz:Nat}:∀ {es:List PV},oG sz es→∀r:List PV,chunk true sz es.length (es.flatMap PV.cells++r)=es
 |[],_,r=>rfl
 |e::l,h,r=>by
  obtain⟨cs,rfl,hc⟩:=h _ List.mem_cons_self
  have ih:=TZ (es:=l) (fun x hx=>h x (List.mem_cons_of_mem _ hx)) r
  simp only[chunk,aQ] at ih ⊢
  rw[List.length_cons,List.range_succ_eq_map,List.map_cons,List.map_map,List.flatMap_cons]
  have e0:(PV.agg cs).cells=cs:=rfl
  rw[e0,List.append_assoc]
  congr 1
  ·rw[Nat.zero_mul,List.drop_zero,List.take_left' hc]
  have:((fun i=>PV.agg (((cs++(l.flatMap PV.cells++r)).drop (i*sz)).take sz))∘Nat.succ)=fun i=>PV.agg (((l.flatMap PV.cells++r).drop (i*sz)).take sz):=by
   funext i
   simp only[Function.comp]
   rw[show i.succ*sz=cs.length+i*sz by rw[Nat.succ_mul,hc];omega,List.drop_append,List.drop_eq_nil_of_le (by omega),Nat.add_sub_cancel_left,List.nil_append]
  rw[this];exact ih
section
variable {vh:af}
theorem zj4 {i n k sz:Nat}{es r:List PV}(hg:vh.get i=some (.arr true sz (es.flatMap PV.cells++r)))(he:oG sz es)(hn:es.length=n):gE vh sz (.own i 0 n k)=some es:=by
 subst hn
 have hl:=he.len
 have h1:Nat.ble (0+es.length*sz) (es.flatMap PV.cells++r).length=true:=by rw[Nat.ble_eq,List.length_append,hl];omega
 simp only[gE,hg,List.drop_zero,h1,Bool.true_or,Bool.and_true,beq_eq,decide_true,aQ,TZ he r]
theorem Nw {i n sz:Nat}{es r:List PV}(hg:vh.get i=some (.arr true sz (es.flatMap PV.cells++r)))(he:oG sz es)(hn:es.length=n):gE vh sz (.sub i 0 n)=some es:=by
 subst hn
 have hl:=he.len
 have h1:Nat.ble (0+es.length*sz) (es.flatMap PV.cells++r).length=true:=by rw[Nat.ble_eq,List.length_append,hl];omega
 simp only[gE,hg,List.drop_zero,h1,Bool.true_or,Bool.and_true,beq_eq,decide_true,aQ,TZ he r]
theorem z0v {P:Program}{t e:TypeId}{i n k sz:Nat}{es:List PV}{z:List PV}(ht:jh P t=some (e,sz))(h0:0<sz)(he:oG sz es)(hs:nU sz es=true)(h1:nV es=true)(hz:z.length=sz)(hn:es.length=n)(hg:vh.get i=some (.arr true sz (cp z n))) :
  cJ P vh t (.own i 0 n k) (.vec es)=some (.int .i64 n,vh.put i (.arr true sz (es.flatMap PV.cells))):=by
 subst hn
 have hl:=he.len
 have hp:∀m,(cp z m).length=m*sz:=fun m=>by
  induction m with
  |zero=>simp[cp]
  |succ m ih=>unfold cp at ih ⊢;rw[List.replicate_succ,List.flatten_cons,List.length_append,ih,hz,Nat.succ_mul];omega
 have hv:gE vh sz (.vec es)=some es:=by simp only[gE,hs,aQ]
 have h2:gR (cp z es.length) 0 (es.flatMap PV.cells)=es.flatMap PV.cells:=by
  unfold gR
  rw[List.take_zero,List.nil_append,List.drop_eq_nil_of_le (by rw[hp,hl];omega),List.append_nil]
 have h3:Nat.blt 0 sz=true:=by rw[Nat.blt_eq];exact h0
 have h4:Nat.ble (0+es.length*sz) (cp z es.length).length=true:=by rw[Nat.ble_eq,hp];omega
 simp only[cJ,ht,hv,hg,List.take_length,h3,h4,h1,Bool.and_true,aQ,h2]
 congr 3
 simp
end
theorem z1r {U:Mu}{lo:Nat}{h:ai}{w w':World}(hd:¬bE.dr)(r:Rel U lo h w)(b:Go.RowKit.Below w.heap.size w w'):Rel U lo h w'∧Frame lo U h w U h w':=by
 have hk:=b.block
 refine Rel.Oy r (fun o x hx=>?_) r.inj r.rm (fun o x b' a C hl hx hm off=>?_) r.bX ⟨Mu.le_refl _,b.size,Nat.le_refl _,fun k my _=>hk k my,fun _ _ h=>h,fun _ _=>rfl,fun _ _=>rfl,fun _ _ h=>h,⟨b.os,b.output,b.tape,fun h=>absurd h hd⟩⟩
 ·obtain⟨b',a,C,h1,h2⟩:=r.br o x hx
  exact⟨b',a,C,h1,h2.kept (hk _ h2.vy)⟩
 rw[Bu (hk _ (qT r hx hm).vy)]
 exact r.fZ o x b' a C hl hx hm off
theorem aI.world {P:Program}{f:FuncId}{args:List PV}{v:PV}{u:Value}(hd:¬bE.dr)(hv:∀g,FR g v u)(hs:ot u=true)(hF:v.aD=true)
  (hc:∀lo g σ h aH U w bj,bp (VR g σ 0) args aH→VS lo g σ af.empty h→bB U aH bj.toList→Rel U lo h w→Calls P f bj w fun e w'=>e=.returned u∧Go.RowKit.Below w.heap.size w w') :
  aI P f args fun r=>r=v:=fun lo g σ h aH ha s=>qv.MG fun U w bj hr r=>
 (hc lo g σ h aH U w bj ha s hr r).mono fun e w' ⟨he,hb⟩=>
  let ⟨r',f'⟩:=z1r hd r hb
  ⟨u,u,h,U,he,.Bv hs,r',f',g,σ,v,af.empty,.fr _ _ (hv _),s,Fz.le_refl g,fun _ _=>rfl,VF.refl _ _ _,Nat.le_refl _,e9.refl _ _ _ _,hF,rfl⟩
theorem FR.ints {g:Fz}{l:List Int}{v:Value}(h:FR g (.agg (l.map (.int .i64))) v):v=.agg (l.map (Value.int .i64)).toArray:=by
 cases h with
 |agg cs au hs hr=>
  congr 1
  apply Array.ext
  ·simpa using hs.symm
  intro i h1 h2
  have h3:i<l.length:=by simpa using h2
  have h4:=hr i (.int .i64 l[i]) au[i] (by simp[h3]) (by simp[h1])
  generalize hu:au[i]=u at h4
  cases h4
  simp
theorem VR.ints {g:Fz}{σ:Sg}{n:Nat}{l:List Int}{v:Value}(h:VR g σ n (.agg (l.map (.int .i64))) v):v=.agg (l.map (Value.int .i64)).toArray:=by
 cases h with
 |fr _ _ h=>exact h.ints
 |agg cs au hs hr=>
  congr 1
  apply Array.ext
  ·simpa using hs.symm
  intro i h1 h2
  have h3:i<l.length:=by simpa using h2
  have h4:=hr i (.int .i64 l[i]) au[i] (by simp[h3]) (by simp[h1])
  generalize hu:au[i]=u at h4
  cases h4 with
  |fr _ _ h=>cases h;simp
theorem zzk (l:List Int):ot (.agg (l.map (Value.int .i64)).toArray)=true:=by
 unfold ot
 simp[xy]
end Go.Am
end
section
namespace Go.Am
open Go Go.Proofs
section
variable [bE]
theorem aI.xjl {P:Program}{vh:af}{f:FuncId}{args cD:List PV}{R:PV→Prop}(hp:aI P f cD R)(rH:bG vh args=some cD):C5 P f args vh fun v aq=>aq=fJ (PV.bT args) vh∧R v:=fun lo g σ h aH ha s=>by
 have hA:=GU vh (fun i=>(PV.bT args).contains i) args cD (fun i hi=>by simpa using hi) rH
 have C6:=aK.ok s hA ha
 have hF:PV.az cD=true:=GP vh args cD rH
 have hle:=xt (D:=fun i=>(PV.bT args).contains i) s
 have hS:VS lo (g.more σ vh h fun i=>(PV.bT args).contains i) σ (fJ (PV.bT args) vh) h:=by
  refine⟨fun j y hy=>?_,fun j k y z hy hz=>s.inj j k y z (vZ _ _ _ _ hy).2 (vZ _ _ _ _ hz).2,fun j y hy=>s.low j y (vZ _ _ _ _ hy).2,LI s,fun j y hy hl=>?_,s.bX⟩
  ·obtain⟨k1,k2⟩:=s.obj j y (vZ _ _ _ _ hy).2
   rw[Bq]
   exact⟨k1,k2.mono hle (Nat.le_refl _) (fun _ _=>rfl) k1 fun _=>rfl⟩
  obtain⟨h1,h2⟩:=vZ _ _ _ _ hy
  unfold Fz.more
  rw[if_neg]
  ·exact s.l6 j y h2 hl
  rintro⟨i,z,k1,k2,k3,k4⟩
  have:=s.inj i j z y k2 h2 k3 hl k4
  subst this
  exact h1 (by simpa using k1)
 have LP:VF σ vh h σ (fJ (PV.bT args) vh) h:=⟨Nat.le_refl _,fun _ _ _=>rfl,fun j y hy hl _=>⟨j,y,(vZ _ _ _ _ hy).2,hl,rfl⟩⟩
 refine((hp.Ev (vh:=fJ (PV.bT args) vh) hF) lo _ σ h aH (C6.aD hF).vr hS).mono fun r h' ⟨h0,g',aU,v,aq,h1,h2,h3,h4,h5,h6,h7,h8⟩=>?_
 rw[Bq] at h4 h6
 exact⟨h0,g',aU,v,aq,h1,h2,Fz.le_trans hle h3,h4,LP.trans h5,h6,Ot.trans LP h7,h8⟩
theorem sF.M5 {P:Program}{N b:Nat}{ah:bf}{vh:af}{ops:Array Oper}{todo:List Nat}{o:Oper}{next:List Nat→bf→af→Prop}{fo:Operand}{args:Array Operand}{aT:Array TypeId}{f:FuncId}{xs ys l cD:List PV}{R:PV→Prop}(ho:o.op=.call ⟨.value fo,args,aT⟩)
  (hf:ct ah fo=some (.func f xs ys)) (hl:gf ah args.toList=some l) (eD:∀cs w,(callFunc f cs).run P w=.ok (.enter f cs) w) (hd:jH N o.dst=true)
  (hz:bG vh (xs++l++ys)=some cD) (hp:aI P f cD R) (hn:∀r,R r→next (kZ ops todo o.dst) (bA ah o.dst r) (fJ (PV.bT (xs++l++ys)) vh)):sF P N b ops o todo next ah vh:=
 .Ev ho hf hl eD hd ((hp.xjl hz).mono fun r aq ⟨h1,h2⟩=>h1▸hn r h2)
end
end Go.Am
end
