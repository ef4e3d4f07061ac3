/-
 What is used in the proof of a statement (part Vm2); no condition.
-/
import Derived.Shelf.SortM.SortNone
import Derived.SizedLaws
import Derived.ReadAgain
import Derived.ChangeArms
import Derived.ChangeSame
import Derived.Test.YtmgglkdilpglgaaGreatVm1
import Derived.Test.YtmgglkdilpglgaaGreatAm3
import Derived.Test.YtmgglkdilpglgaaGreatAm2
set_option linter.all false
set_option maxHeartbeats 40000000
set_option maxRecDepth 100000
/-
 The value machine, part O: the library's sort.
-/
section
namespace Go.Am
theorem zeh (l:List Int):(l.map (PV.int .i64)).flatMap PV.cells=l.map (PV.int .i64):=by
 induction l with
 |nil=>rfl
 |cons a r ih=>simp only[List.map_cons,List.flatMap_cons,ih];rfl
theorem PRs.ints {g:Fz}:∀ {l:List Int} {l':List Value},PRs (FR g) (l.map (PV.int .i64)) l'→l'=l.map (Value.int .i64)
 |[],l',h=>h.zbr
 |a::r,l',h=>by
  obtain⟨v',r',rfl,h1,h2⟩:=h.zas
  cases h1
  rw[PRs.ints h2];rfl
theorem PRs.zqe {g:Fz}:∀l:List Int,PRs (FR g) (l.map (PV.int .i64)) (l.map (Value.int .i64))
 |[]=>.nil
 |a::r=>.cons (.int _ _) (PRs.zqe r)
section
variable {P:Program} {vh:zab}
theorem zar.ztv {ρ:Go.Shelf.Ren}(Ly:Go.Proofs.SlLaysM.n5 P ρ){i n:Nat}{nl:Bool}{zs:List Int}(hg:vh.get i=some (.grow 1 (zs.map (PV.int .i64))))(hn:zs.length=n) :
  zar P (ρ.f 5) [.grow i n nl] vh fun r vh'=>r=.tup []∧vh'=vh.put i (.grow 1 ((zs.mergeSort fun x y=>decide (x≤y)).map (PV.int .i64))):=fun lo g σ h args' ha s=>by
 subst hn
 obtain⟨v',r',rfl,hv,hr⟩:=ha.zas
 have:=hr.zbr;subst this
 obtain⟨hi,h0,hcl,hin,hor⟩:=s.obj i _ hg
 have empty:∀ {p:Option Addr} {cap:Nat},v'=.slice p 0 cap→zs.length=0→zbx P lo (ρ.f 5) [v'] h fun r h'=>∃g' σ' v vh',VR g' σ' vh'.next v r∧VS lo g' σ' vh' h'∧g.le g'∧(∀i,i<vh.next→σ' i=σ i)∧VF σ vh h σ' vh' h'∧vh.next≤vh'.next∧GOwn g σ vh h g'∧v=.tup []∧
   vh'=vh.put i (.grow 1 ((zs.mergeSort fun x y=>decide (x≤y)).map (PV.int .i64))):=fun {p cap} hv' hz=>by
  have hz:=List.eq_nil_of_length_eq_zero hz
  subst hz
  subst hv'
  have hs:([]:List Int).mergeSort (fun x y=>decide (x≤y))=[]:=by simp
  rw[hs]
  obtain⟨s1,f1⟩:=s.zae hg
  refine .zt5 fun μ w cargs hca r=>?_
  obtain⟨v2,r2,hcs,hvr,hrr⟩:=hca.zas
  have:=hrr.zbr;subst this
  have hsh:∃p' cap',v2=.slice p' 0 cap':=by cases hvr<;>exact⟨_,_,rfl⟩
  obtain⟨p',cap',rfl⟩:=hsh
  have hargs:cargs=#[.slice p' 0 cap']:=Array.ext' (by simpa using hcs)
  subst hargs
  refine(Go.Proofs.AnyM.slices_Sort_int_none Ly p' cap' w).mono fun e w' ⟨h1,h2⟩=>?_
  subst h2
  exact⟨.tuple #[],_,h,μ,h1,.tuple #[] #[] rfl (fun i h=>by simp at h),r,Frame.refl _ _ _ _,g,σ,.tup [],_,.fr _ _ zdf,s1,Fz.le_refl g,fun _ _=>rfl,f1,Nat.le_refl _,GOwn.refl _ _ _ _,rfl,rfl⟩
 rcases hor with hnil|⟨s0,cs',h1,h2,h3,h4⟩
 ·have hz:zs.length=0:=by have:=congrArg List.length hnil;simpa using this
  have hz0:zs=[]:=List.eq_nil_of_length_eq_zero hz
  subst hz0
  cases hv with
  |fr _ _ h=>cases h
  |growN=>exact empty rfl rfl
  |grow0=>exact empty rfl rfl
  |grow _ _ _ _ _ _ _ _ hn=>simp at hn
 rw[zeh] at h3
 have hcs:=PRs.ints h3
 generalize hm:zs.length=m at hv
 cases hv with
 |fr _ _ h=>cases h
 |growN=>exact empty rfl hm
 |grow0=>exact empty rfl hm
 |grow _ _ o a k _ hi' hs hn=>
  subst hm
  have hlive:(VObj.grow 1 (zs.map (PV.int .i64))).live=true:=by
   cases zs with
   |nil=>simp at hn
   |cons=>rfl
  have hlow:=s.low i _ hg hlive
  rw[hs] at h1 h2 h4 hlow;simp only at h1 h2 h4 hlow;subst h2
  subst hcs
  have hin':zs.length<4611686018427387904:=by have:(zs.map (PV.int .i64)).length<4611686018427387904:=hin;simpa using this
  have hku:k<unk:=by
   show k<9223372036854775808
   rcases h4 with⟨rfl,_⟩|rfl
   ·decide
   have:(zs.map (PV.int .i64)).length<4611686018427387904:=hin
   omega
  have hS:=zbx.zub (P:=P) (h:=h) (lo:=lo) Ly (off:=0) (k:=k) h1 hlow (Nat.zero_le _) (fun i x hx=>by simp[hx]) hin' hku hn
  refine hS.mono fun r h' ⟨e1,e2⟩=>?_
  have hlen:(zs.mergeSort fun x y=>decide (x≤y)).length=zs.length:=List.length_mergeSort zs
  have hspl:zbs (zs.map (Value.int .i64)) 0 ((zs.mergeSort fun x y=>decide (x≤y)).map (.int .i64))=(zs.mergeSort fun x y=>decide (x≤y)).map (.int .i64):=by
   unfold zbs
   simp[hlen]
  rw[hspl] at e2
  subst e1;subst e2
  have hw:=s.write hg hlive (x':=.grow 1 ((zs.mergeSort fun x y=>decide (x≤y)).map (PV.int .i64))) (.cells s0 ((zs.mergeSort fun x y=>decide (x≤y)).map (.int .i64)))
   ⟨h0,fun e he=>(by obtain⟨x,_,rfl⟩:=List.mem_map.1 he;rfl),by simp[hlen];simpa using hin,.inr ⟨s0,_,by rw[zaa.zap _ _ _ _ (by rw[hs];exact zaa.zal h1),if_pos rfl],by rw[hs],by rw[zeh];exact PRs.zqe _,by
    rw[hs];simp only[List.length_map,hlen] at h4 ⊢;exact h4⟩⟩
  rw[hs] at hw
  exact⟨g,σ,.tup [],_,.fr _ _ zdf,hw.1,Fz.le_refl g,fun _ _=>rfl,hw.2,Nat.le_refl _,GOwn.refl _ _ _ _,rfl,rfl⟩
end
end Go.Am
end
/-
 The value machine, part P: ranges over maps.
-/
section
namespace Go.Am
theorem AOps.mono {P:Program}{lo:Nat}{ops:Array Oper}{K K':Tmps→zaa→Prop}(hk:∀ts h,K ts h→K' ts h):∀ {l:List Nat} {ts:Tmps} {h:zaa},AOps P lo ops K l ts h→AOps P lo ops K' l ts h
 |[],ts,h,ho=>hk ts h ho
 |i::r,ts,h,ho=>by
  simp only[AOps] at ho ⊢
  cases hq:ops[i]? with
  |none=>rw[hq] at ho;exact AOps.mono hk ho
  |some o=>
   rw[hq] at ho
   simp only at ho ⊢
   by_cases hw:Region.wanted o (zaq ops ts)=true
   ·rw[if_pos hw] at ho ⊢;exact zee.mono ho fun ts h=>AOps.mono hk
   rw[if_neg hw] at ho ⊢;exact AOps.mono hk ho
section
variable {P:Program} {N i j tI tN tB tE:Nat} {o1 o2 o3:Oper} {ops2:Array Oper} {body:Code} {id1 id2:Nat}
end
end Go.Am
end
/-
 The value machine, part Q: the entry. What the caller handed over, read as values.
-/
section
namespace Go.Am
inductive CV (w:World):PV→Value→Prop where
  |bool (b:Bool):CV w (.bool b) (.bool b)
  |int (k:IntKind) (n:Int):CV w (.int k n) (.int k n)
  |str (s:ByteArray):CV w (.str s) (.string s)
  |nilIface:CV w .nilIface .nilIface
  |vecN:CV w (.vec []) (.slice none 0 0)
  |vec0 (p:Addr) (k:Nat):CV w (.vec []) (.slice (some p) 0 k)
  |vec (es:List PV) (b off k sz:Nat) (cs:List Value) (hk:es.length≤k) (hl:es.length<inex) (h0:0<sz) (hsz:∀e∈es,e.cells.length=sz) (hb:b<w.heap.size)
      (hc:∀(n:Nat) v',cs[n]?=some v'→w.cell? ⟨b,off+n,none⟩=some v') (hlen:cs.length=(es.flatMap PV.cells).length)
      (r:∀(n:Nat) v v',(es.flatMap PV.cells)[n]?=some v→cs[n]?=some v'→CV w v v'):CV w (.vec es) (.slice (some ⟨b,off,none⟩) es.length k)
  |agg (cs:List PV) (cs':Array Value) (hs:cs.length=cs'.size) (r:∀(i:Nat) v v',cs[i]?=some v→cs'[i]?=some v'→CV w v v'):CV w (.agg cs) (.agg cs')
structure More (μ:Mu) (h:zaa) (μ':Mu) (h':zaa):Prop where
  le:μ.le μ'
  sub:∀o x,h.get o=some x→h'.get o=some x
theorem More.refl (μ:Mu)(h:zaa):More μ h μ h:=⟨Mu.le_refl μ,fun _ _ h=>h⟩
theorem More.trans {μ μ1 μ2:Mu}{h h1 h2:zaa}(a:More μ h μ1 h1)(b:More μ1 h1 μ2 h2):More μ h μ2 h2:=⟨Mu.le_trans a.le b.le,fun o x hx=>b.sub o x (a.sub o x hx)⟩
def zug (w:World)(v:PV)(v':Value):Prop:=
 ∀μ h,Rel μ h.next h w→∃μ' h' u,More μ h μ' h'∧Rel μ' h'.next h' w∧FR h'.get v u∧RelV μ' u v'
theorem zhy {w:World}:∀ {l:List PV} {l':List Value},l.length=l'.length→(∀(i:Nat) v v',l[i]?=some v→l'[i]?=some v'→zug w v v')→
  ∀μ h,Rel μ h.next h w→∃μ' h' us,More μ h μ' h'∧Rel μ' h'.next h' w∧PRs (FR h'.get) l us∧zau μ' us l'
 |[],[],_,_,μ,h,r=>⟨μ,h,[],More.refl μ h,r,⟨rfl,fun i v v' hv=>by simp at hv⟩,.nil _⟩
 |[],_::_,hl,_,_,_,_=>by simp at hl
 |_::_,[],hl,_,_,_,_=>by simp at hl
 |x::l,x'::l',hl,hr,μ,h,r=>by
  obtain⟨μ1,h1,u,m1,r1,f1,v1⟩:=hr 0 x x' rfl rfl μ h r
  obtain⟨μ2,h2,us,m2,r2,f2,v2⟩:=zhy (l:=l) (l':=l') (by simpa using hl) (fun i v v' hv hv'=>hr (i+1) v v' (by simpa using hv) (by simpa using hv')) μ1 h1 r1
  refine⟨μ2,h2,u::us,m1.trans m2,r2,⟨by simp[f2.1],fun i v v' hv hv'=>?_⟩,.cons (v1.mono m2.le) v2⟩
  cases i with
  |zero=>simp at hv hv';subst hv;subst hv';exact f1.mono m2.sub
  |succ i=>exact f2.2 i v v' (by simpa using hv) (by simpa using hv')
theorem zpn {w:World}{μ:Mu}{h:zaa}(r:Rel μ h.next h w){b off C:Nat}{us cs:List Value}(hb:b<w.heap.size)(hv:zau μ us cs)(hc:∀(n:Nat) v',cs[n]?=some v'→w.cell? ⟨b,off+n,none⟩=some v') :
  More μ h (μ.put h.next (b,off,C)) (h.alloc (.cells 0 us))∧Rel (μ.put h.next (b,off,C)) (h.alloc (.cells 0 us)).next (h.alloc (.cells 0 us)) w:=by
 have hle:=r.zki (b,off,C)
 refine⟨⟨hle,fun o x hx=>?_⟩,⟨fun o x hx=>?_,fun o o' x x' b1 a1 C1 a2 C2 hl hx=>?_,fun o x hx=>?_,fun o x b1 a1 C1 hl hx=>?_,Nat.le_refl _⟩⟩
 ·rw[zaa.zaj,if_neg (by have:=zaa.zal hx;omega)];exact hx
 ·rw[zaa.zaj] at hx
  by_cases ho:o=h.next
  ·simp[ho] at hx
   subst hx;subst ho
   refine⟨b,off,C,Mu.zae _ _ _,hb,fun i v hi=>?_,fun h=>absurd h (Nat.lt_irrefl _)⟩
   obtain⟨v',h1,h2⟩:=hv.2 i v hi
   exact⟨v',hc i v' h1,h2.mono hle⟩
  simp[ho] at hx
  obtain⟨b1,a1,C1,h1,h2⟩:=r.objs o x hx
  exact⟨b1,a1,C1,hle _ _ h1,h2.mono hle⟩
 ·have:=zaa.zal hx;omega
 ·by_cases ho:o=h.next
  ·subst ho;simp
  rw[Mu.zan _ ho] at hx
  have:=r.dom o x hx
  simp;omega
 have:=zaa.zal hx;omega
theorem CV.z0e {w:World}{v:PV}{v':Value}(hc:CV w v v'):zug w v v':=by
 induction hc with
 |bool b=>exact fun μ h r=>⟨μ,h,_,.refl _ _,r,.bool b,.bool b⟩
 |int k n=>exact fun μ h r=>⟨μ,h,_,.refl _ _,r,.int k n,.int k n⟩
 |str s=>exact fun μ h r=>⟨μ,h,_,.refl _ _,r,.str s,.string s⟩
 |nilIface=>exact fun μ h r=>⟨μ,h,_,.refl _ _,r,.nilIface,.nilIface⟩
 |vecN=>exact fun μ h r=>⟨μ,h,_,.refl _ _,r,.vecN,.sliceNil⟩
 |vec0 p k=>exact fun μ h r=>⟨μ,h,_,.refl _ _,r,.vec0 0 0 unk,.sliceZ _ _ _⟩
 |vec es b off k sz cs hk hl h0 hsz hb hcell hlen _ ih=>
  intro μ h r
  obtain⟨μ1,h1,us,m1,r1,f1,v1⟩:=zhy hlen.symm ih μ h r
  have hx:∃C kk,zch C kk=k∧kk≤inex∧es.length≤kk:=by
   by_cases hki:k<inex
   ·exact⟨0,k,by simp[zch,hki],Nat.le_of_lt hki,hk⟩
   exact⟨k,inex,by simp[zch],Nat.le_refl _,Nat.le_of_lt hl⟩
  obtain⟨C,kk,e1,e2,e3⟩:=hx
  obtain⟨m2,r2⟩:=zpn (C:=C) r1 hb v1 hcell
  refine⟨_,_,.slice (some ⟨h1.next,0,none⟩) es.length kk,m1.trans m2,r2,?_,?_⟩
  ·refine .vec es h1.next 0 kk 0 sz us e3 ?_ (by rw[zaa.zaj];simp) h0 (fun i e he=>hsz e (List.mem_of_getElem? he)) ?_ (fun i e j v v' he hv hv'=>?_)
   ·simp only[inex] at hl e2;simp only[unk];omega
   ·have:=f1.1
    rw[zdl hsz] at this
    omega
   exact(zg4 (R:=FR h1.get) hsz f1 i e j v v' he hv (by simpa using hv')).mono m2.sub
  have:=RelV.slice (μ:=μ1.put h1.next (b,off,C)) h1.next 0 es.length kk b off C (Mu.zae _ _ _) (by rw[e1];exact hk) (by simp only[inex] at e2;simp only[unk];omega)
  rw[e1] at this
  exact this
 |agg cs cs' hs _ ih=>
  intro μ h r
  obtain⟨μ1,h1,us,m1,r1,f1,v1⟩:=zhy (l':=cs'.toList) (by simpa using hs) (fun i v v' hv hv'=>ih i v v' hv (by simpa using hv')) μ h r
  refine⟨μ1,h1,.agg us.toArray,m1,r1,.agg cs us.toArray (by simpa using f1.1) (fun i v v' hv hv'=>f1.2 i v v' hv (by simpa using hv')),?_⟩
  refine .agg us.toArray cs' (by have:=v1.1;simpa using this) (fun i hi hi'=>?_)
  obtain⟨u',k1,k2⟩:=v1.2 i us[i] (by simp at hi ⊢)
  have:cs'[i]=u':=by simpa[hi'] using k1
  rw[this];simpa using k2
def zg1 (w w':World):Prop:=Calm w w'∧w.heap.size≤w'.heap.size∧∀b,b<w.heap.size→w'.heap[b]?=w.heap[b]?
theorem zao.enter {P:Program}{f:FuncId}{args:List PV}{t:Bool}(hp:zao P f args fun r=>r=.bool t){w:World}{cargs:Array Value}(hl:args.length=cargs.size)
  (ha:∀(i:Nat) v v',args[i]?=some v→cargs[i]?=some v'→CV w v v'):Calls P f cargs w fun e w'=>e=.returned (.bool t)∧zg1 w w':=by
 have e0:∀o x,zaa.empty.get o=some x→False:=fun o x hx=>by rw[zaa.zm9] at hx;cases hx
 have r0:Rel (fun _=>none) zaa.empty.next zaa.empty w:=⟨fun o x hx=>(e0 o x hx).elim,fun o o' x x' b a C a' C' _ hx=>(e0 o x hx).elim,fun o x hx=>(by cases hx),fun o x b a C _ hx=>(e0 o x hx).elim,Nat.le_refl _⟩
 obtain⟨μ,h,us,m,r,f1,v1⟩:=zhy (l':=cargs.toList) (by simpa using hl) (fun i v v' hv hv'=>(ha i v v' hv (by simpa using hv')).z0e) _ _ r0
 have hc:zbx P h.next f us h _:=hp h.next h.get (fun _=>(0,0,0)) h us ⟨f1.1,fun i v v' hv hv'=>.fr _ _ (f1.2 i v v' hv hv')⟩ (VS.none (fun _ _ hx=>hx) (Nat.le_refl _) _)
 refine Calls.mono (callsIn_wide.1 (hc Fence.wide zxo rfl 0 μ w cargs v1 r)) fun e w' ⟨r',v,h',μ',k1,k2,k3,k4,g',σ',pv,vh',k5,_,_,_,_,_,_,k6,k7⟩=>?_
 subst k7
 cases k5 with
 |fr _ _ hf=>
  cases hf
  cases k2
  exact⟨k1,k4.calm,k4.size,fun b hb=>k4.kept b hb (by rintro⟨o,x,a,C,g1,g2,_⟩;have:=zaa.zal g2;omega)⟩
end Go.Am
end
/-
 The value machine, part R: what the statement's reading of an argument says of its value.
-/
section
namespace Go.Am
section
variable {H:Type} {enc:TypeId×Value→H} {P:Program} {w:World}
def Reads (enc:TypeId×Value→H)(P:Program)(w:World)(t:TypeId)(Q:PV→Prop):Prop:=
 ∀n cs x,DataW.trod enc P w 0 (fun _=>true) true n t cs=some x→(∀m∈x.1.weights P t,m≤reachBytes)→∃p:PV,p.cells.length=P.cellsOf t∧PRs (CV w) p.cells cs∧Q p
theorem Reads.mono {t:TypeId}{Q Q':PV→Prop}(h:Reads enc P w t Q)(hq:∀p,Q p→Q' p):Reads enc P w t Q':=fun n cs x hx hm=>let ⟨p,h1,h2,h3⟩:=h n cs x hx hm;⟨p,h1,h2,hq p h3⟩
theorem zyd {t:TypeId}{k:IntKind}(ht:P.underlying t=some (.int k))(hc:P.cellsOf t=1):Reads enc P w t fun p=>∃n,p=.int k n∧(Lit.int k n).wf=true:=by
 intro n cs x hx _
 cases n with
 |zero=>simp[DataW.trod] at hx
 |succ n=>
  unfold DataW.trod at hx
  rw[ht] at hx
  split at hx<;>simp_all
  obtain⟨⟨rfl,hw⟩,_⟩:=hx
  exact⟨_,rfl,.cons (.int _ _) .nil,_,rfl,hw⟩
theorem zrz {e:TypeId}{l:List (DataW H)}{d:DataW H}(hd:d∈l):∀m∈d.weights P e,m∈DataW.weightsAll P e l:=by
 induction l with
 |nil=>cases hd
 |cons a r ih=>
  intro m hm
  simp only[DataW.weightsAll,List.mem_append]
  rcases List.mem_cons.1 hd with rfl|hd
  ·exact .inl hm
  exact .inr (ih hd m hm)
theorem zwk {a:Addr}{v:Value}(h:w.cell? a=some v):a.spot=none:=by
 cases hs:a.spot with
 |none=>rfl
 |some s=>
  simp only[World.cell?] at h
  split at h
  ·simp[hs] at h
  cases h
theorem zrl {t e:TypeId}{Q:PV→Prop}(ht:P.underlying t=some (.slice e))(hc:P.cellsOf t=1)(h0:0<P.cellsOf e)(hby:0<P.bytesOf e)(he:Reads enc P w e Q) :
  Reads enc P w t fun p=>∃es,p=.vec es∧(∀x∈es,Q x)∧es.length<inex∧es.length*P.bytesOf e≤reachBytes:=by
 intro n cs x hx hm
 rcases DataW.trod_slice ht hx with⟨rfl,rfl⟩|⟨a,len,cap,elems,rest,n',_,rfl,rfl,_,hlc,_,hlen,hel,_,_⟩
 ·exact⟨.vec [],by rw[hc];rfl,.cons .vecN .nil,[],rfl,fun x h=>(by cases h),by decide,by simp⟩
 simp only[DataW.weights,ht] at hm
 have hwt:len*P.bytesOf e≤reachBytes:=by
  have:=hm _ (List.mem_cons_self ..)
  simp only[List.length_map,hlen] at this
  exact Nat.le_trans (Nat.mul_le_mul_right _ (Nat.le_add_right _ _)) this
 have hbound:len<inex:=by
  have:=hm _ (List.mem_cons_self ..)
  simp only[List.length_map,hlen] at this
  have h2:len≤(len+rest.length)*P.bytesOf e:=Nat.le_trans (Nat.le_add_right _ _) (Nat.le_mul_of_pos_right _ hby)
  have:=reachBytes_lt
  simp only[inex];omega
 rcases Nat.eq_zero_or_pos len with h00|hpos
 ·subst h00
  exact⟨.vec [],by rw[hc];rfl,.cons (.vec0 a cap) .nil,[],rfl,fun x h=>(by cases h),by decide,by simp⟩
 have at0:∀i,i<len→∃c y,w.cells? 0 (a.add (i*P.cellsOf e)) (P.cellsOf e)=some c∧DataW.trod enc P w 0 (fun _=>true) true n' e c=some y∧elems[i]?=some y:=fun i hi=>by
  have h1:=hel i hi
  rw[List.getElem?_eq_getElem (by omega)] at h1
  obtain⟨c,h2,h3⟩:=Option.bind_eq_some_iff.1 h1
  exact⟨c,_,h2,h3,by rw[List.getElem?_eq_getElem (by omega)]⟩
 have hspot:a.spot=none:=by
  obtain⟨c,y,h1,_,_⟩:=at0 0 hpos
  obtain⟨_,h2,h3⟩:=World.cells?_some h1
  have h4:=h3 0 h0
  rw[List.getElem?_eq_getElem (by omega)] at h4
  have:=zwk h4
  simpa[Addr.add] using this
 obtain⟨b,off,sp⟩:=a
 simp only at hspot
 subst hspot
 have build:∀m,m≤len→∃(es:List PV) (cc:List Value),es.length=m∧(∀p∈es,p.cells.length=P.cellsOf e∧Q p)∧PRs (CV w) (es.flatMap PV.cells) cc∧(∀(k:Nat) v',cc[k]?=some v'→w.cell? ⟨b,off+k,none⟩=some v'):=by
  intro m
  induction m with
  |zero=>exact fun _=>⟨[],[],rfl,fun p h=>(by cases h),.nil,fun k v' h=>by simp at h⟩
  |succ m ih=>
   intro hm1
   obtain⟨es,cc,h1,h2,h3,h4⟩:=ih (by omega)
   obtain⟨c,y,k1,k2,k3⟩:=at0 m (by omega)
   obtain⟨p,p1,p2,p3⟩:=he n' c y k2 (fun q hq=>hm q (List.mem_cons_of_mem _ (List.mem_append_left _ (zrz (List.mem_map.2 ⟨y,List.mem_of_getElem? k3,rfl⟩) q hq))))
   obtain⟨_,g2,g3⟩:=World.cells?_some k1
   have hlen2:cc.length=m*P.cellsOf e:=by rw[← h3.1,zdl (fun x hx=>(h2 x hx).1),h1]
   refine⟨es++[p],cc++c,by simp[h1],fun x hx=>?_,by simpa using h3.append p2,fun k v' hk=>?_⟩
   ·rcases List.mem_append.1 hx with hx|hx
    ·exact h2 x hx
    simp at hx;subst hx;exact⟨p1,p3⟩
   by_cases hkc:k<cc.length
   ·rw[List.getElem?_append_left hkc] at hk;exact h4 k v' hk
   rw[List.getElem?_append_right (by omega)] at hk
   have hlt:=(List.getElem?_eq_some_iff.1 hk).1
   have:=g3 (k - cc.length) (by omega)
   rw[zdp,zdp,hk] at this
   rw[← this]
   congr 2
   omega
 obtain⟨es,cc,h1,h2,h3,h4⟩:=build len (Nat.le_refl _)
 have hb:b<w.heap.size:=by
  obtain⟨c,y,k1,_,_⟩:=at0 0 hpos
  have:=World.cells?_block k1 h0
  simpa[Addr.add] using this
 refine⟨.vec es,by rw[hc];rfl,.cons ?_ .nil,es,rfl,fun x hx=>(h2 x hx).2,by omega,by rw[h1];exact hwt⟩
 subst h1
 exact .vec es b off cap (P.cellsOf e) cc hlc hbound h0 (fun p hp=>(h2 p hp).1) hb h4 h3.1.symm (fun k v v' hv hv'=>h3.2 k v v' hv hv')
theorem zm0 {t e:TypeId}{Q:PV→Prop}(ht:P.underlying t=some (.slice e))(hc:P.cellsOf t=1)(h0:0<P.cellsOf e)(hby:0<P.bytesOf e)(he:Reads enc P w e Q) :
 Reads enc P w t fun p=>∃es,p=.vec es∧(∀x∈es,Q x)∧es.length<inex:=(zrl ht hc h0 hby he).mono fun p ⟨es,h1,h2,h3,_⟩=>⟨es,h1,h2,h3⟩
def total (P:Program):List Field→Nat
 |[]=>0
 |f::r=>P.cellsOf f.type+total P r
def zod (P:Program):Nat→List Field→Bool
 |_,[]=>true
 |off,f::r=>decide (f.offset=off)&&zod P (off+P.cellsOf f.type) r
theorem zlq {n:Nat}{cs:List Value}:∀(fs:List Field) (off:Nat) (Qs:List (PV→Prop)) (xs:List (DataW H×List MemPlace)),fs.length=Qs.length→(∀(i:Nat) f Q,fs[i]?=some f→Qs[i]?=some Q→Reads enc P w f.type Q)→zod P off fs=true→
  xs.length=fs.length→off+total P fs≤cs.length→
  (∀(i:Nat) (f:Field),fs[i]?=some f→DataW.trod enc P w 0 (fun _=>true) true n f.type ((cs.drop f.offset).take (P.cellsOf f.type))=xs[i]?)→
  (∀m∈DataW.weightsEach P (fs.map (·.type)) (xs.map (·.1)),m≤reachBytes)→
  ∃ps:List PV,ps.length=fs.length∧(ps.flatMap PV.cells).length=total P fs∧PRs (CV w) (ps.flatMap PV.cells) ((cs.drop off).take (total P fs))∧∀(i:Nat) Q p,Qs[i]?=some Q→ps[i]?=some p→Q p
 |[],off,Qs,xs,hQ,_,_,_,_,_,_=>⟨[],rfl,rfl,by simp only[total,List.take_zero];exact .nil,fun i Q p _ hp=>by simp at hp⟩
 |f::fs,off,[],xs,hQ,_,_,_,_,_,_=>by simp at hQ
 |f::fs,off,Q::Qs,[],_,_,_,hx,_,_,_=>by simp at hx
 |f::fs,off,Q::Qs,x::xs,hQ,hr,hcg,hx,htot,htr,hm=>by
  simp only[zod,xf3,decide_eq_true_eq] at hcg
  obtain⟨ho,hcg⟩:=hcg
  simp only[total] at htot
  simp only[List.map_cons,DataW.weightsEach,List.mem_append] at hm
  have t0:=htr 0 f rfl
  simp only[List.getElem?_cons_zero] at t0
  obtain⟨p,p1,p2,p3⟩:=hr 0 f Q rfl rfl n _ x t0 (fun m h=>hm m (.inl h))
  obtain⟨ps,h1,h2,h3,h4⟩:=zlq (n:=n) (cs:=cs) fs (off+P.cellsOf f.type) Qs xs (by simpa using hQ) (fun i f Q hf hq=>hr (i+1) f Q (by simpa using hf) (by simpa using hq)) hcg (by simpa using hx) (by omega)
   (fun i f' hf=>by have:=htr (i+1) f' (by simpa using hf);simpa using this) (fun m h=>hm m (.inr h))
  refine⟨p::ps,by simp[h1],by simp[total,h2,p1],?_,fun i Q' p' hq hp=>?_⟩
  ·have e1:(cs.drop off).take (total P (f::fs))=(cs.drop f.offset).take (P.cellsOf f.type)++(cs.drop (off+P.cellsOf f.type)).take (total P fs):=by
    subst ho
    rw[total,List.take_add,List.drop_drop]
   rw[e1,List.flatMap_cons]
   exact p2.append h3
  cases i with
  |zero=>simp at hq hp;subst hq;subst hp;exact p3
  |succ i=>exact h4 i Q' p' (by simpa using hq) (by simpa using hp)
theorem zlt {t:TypeId}{fs:Array Field}(Qs:List (PV→Prop))(ht:P.underlying t=some (.struct fs))(hQ:fs.toList.length=Qs.length)(hr:∀(i:Nat) f Q,fs.toList[i]?=some f→Qs[i]?=some Q→Reads enc P w f.type Q)
  (hcg:zod P 0 fs.toList=true) (htot:total P fs.toList=P.cellsOf t):Reads enc P w t fun p=>∃ps:List PV,p=.agg (ps.flatMap PV.cells)∧ps.length=Qs.length∧∀(i:Nat) Q p,Qs[i]?=some Q→ps[i]?=some p→Q p:=by
 intro n cs x hx hm
 obtain⟨xs,n',_,rfl,hl,hlen,hf⟩:=DataW.trod_struct ht hx
 simp only[DataW.weights,ht] at hm
 obtain⟨ps,h1,h2,h3,h4⟩:=zlq (n:=n') (cs:=cs) fs.toList 0 Qs xs hQ hr hcg (by simpa using hlen) (by rw[htot];omega) (fun i f hfi=>hf i f (by simpa using hfi)) hm
 refine⟨.agg (ps.flatMap PV.cells),by rw[← htot];exact h2,?_,ps,rfl,by rw[h1,hQ],h4⟩
 have e:(cs.drop 0).take (total P fs.toList)=cs:=by rw[htot,← hl];simp
 rw[e] at h3
 exact h3
end
end Go.Am
end
/-
 The value machine, part S: a call that touches nothing leaves the arguments as they read.
-/
section
namespace Go.Am
open Go.ChangeShapes Go.WideShapes
section
variable {H:Type} {enc:TypeId×Value→H} {P:Program} {w w':World}
theorem zg1.sameAt (u:zg1 w w'){p:MemPlace}(hp:p.block<w.heap.size):w.sameAt w' p:=by
 cases p with
 |cell b off=>exact zhm (u.2.2 b hp)
 |map b=>exact u.2.2 b hp
theorem zg1.keptBut (u:zg1 w w')(may:MemPlace→Prop):w.keptBut w' may:=by
 refine⟨u.1.1,u.1.2,fun i hi=>?_⟩
 rw[u.2.2 i hi]
 cases w.heap[i]? with
 |none=>rfl
 |some o=>cases o<;>first|exact⟨rfl,rfl,rfl,fun _ _=>rfl⟩|exact .inr ⟨rfl,rfl⟩|rfl
theorem zko {base:Nat}{spare:Nat→Bool}{held:Bool}:∀ {ts:List TypeId} {vs:List Value} {ds:List (DataW H)} {ps:List MemPlace},DataW.TrodAll enc P w base spare held ts vs ds ps→(∀p∈ps,w.sameAt w' p)→
  DataW.TrodAll enc P w' base spare held ts vs ds ps
 |[],_,_,_,h,_=>by
  obtain⟨rfl,rfl,rfl⟩:=trodAll_nil h
  exact trodAll_mk0
 |_::_,_,_,_,h,hs=>by
  obtain⟨v,vs1,d,ds1,a,b,rfl,rfl,rfl,⟨n,h1⟩,h2⟩:=trodAll_cons h
  exact⟨a,b,⟨n,DataW.trod_carry n _ _ _ h1 (fun p hp=>hs p (List.mem_append_left _ hp))⟩,zko h2 (fun p hp=>hs p (List.mem_append_right _ hp)),rfl⟩
theorem zn1 {T:TypeId→Prop}(K:Kids P T)(hz:∀t e,T t→P.underlying t=some (.slice e)→0<P.cellsOf e){f:Func}(hT:∀t∈f.params.toList,T t){s:ChangeSpec}{apart fresh handsOn:Bool}{args:Array Value}{v:Value}
  {ds gs:List (DataW H)} {before:List MemPlace} (hW:DataW.Whole enc P f.params.toList s.vars apart w args.toList ds gs before) (hvars:s.vars=[])
  (hres:∀(b:Nat) (sp:Nat→Bool) (hd:Bool),DataW.TrodAll enc P w' b sp hd f.resultTypes.toList (v.resultList f.resultTypes.size) (s.fn H (ds++gs)).results [])
  (hargs:(s.fn H (ds++gs)).args=ds) (hv:(s.fn H (ds++gs)).vars=[]) (hu:zg1 w w'):s.post enc P f apart fresh handsOn false w args v w':=by
 have hlt:=hW.lt
 refine⟨ds,gs,before,[],before,[],hW,hres _ _ _,?_,by rw[hvars,hv];rfl,hu.keptBut _,fun h=>by cases h⟩
 obtain⟨p,q,h1,h2,rfl,_,_⟩:=hW
 rw[hvars] at h2
 obtain⟨_,rfl⟩:=trodVars_none h2
 rw[List.append_nil] at hlt ⊢
 rw[hargs]
 exact DataW.TrodAll.respare K hz hT (zko h1 (fun x hx=>hu.sameAt (hlt x hx))) (fun x hx=>by simpa using hlt x hx)
def zqp (enc:TypeId×Value→H)(P:Program)(w:World)(base:Nat)(t:TypeId)(Q:PV→Prop):Prop:=
 ∀v d p,Value.okWide P w .any base t v→DataW.Trod enc P w 0 (fun _=>true) true t v d p→(∀m∈d.weights P t,m≤reachBytes)→∃pv:PV,CV w pv v∧Q pv
theorem zrf {base:Nat}{t:TypeId}{Q:PV→Prop}(hv:∀v,Value.okWide P w .any base t v→v.cells=#[v])(hq:∀p,Q p→p.cells=[p])(hr:Reads enc P w t Q):zqp enc P w base t Q:=by
 intro v d p hok ⟨n,hn⟩ hm
 obtain⟨pv,_,h2,h3⟩:=hr n _ _ hn hm
 rw[hq pv h3,hv v hok] at h2
 exact⟨pv,h2.2 0 _ _ rfl rfl,h3⟩
theorem zxt {base:Nat}{t:TypeId}{k:IntKind}{Q:PV→Prop}(ht:P.underlying t=some (.int k))(hq:∀p,Q p→p.cells=[p])(hr:Reads enc P w t Q):zqp enc P w base t Q:=
 zrf (fun v h=>by obtain⟨n,rfl⟩:=okWide_int ht h;rfl) hq hr
theorem zrc {base:Nat}{t:TypeId}{fs:Array Field}{Q:PV→Prop}(ht:P.underlying t=some (.struct fs))(hq:∀p,Q p→∃cs,p=.agg cs)(hr:Reads enc P w t Q):zqp enc P w base t Q:=by
 intro v d p hok ⟨n,hn⟩ hm
 obtain⟨cs,rfl,_⟩:=okWide_struct ht hok
 obtain⟨pv,_,h2,h3⟩:=hr n _ _ hn hm
 obtain⟨ps,rfl⟩:=hq pv h3
 exact⟨_,.agg ps cs (by have:=h2.1;simpa[PV.cells,Value.cells] using this) (fun i v v' hv hv'=>h2.2 i v v' hv (by simpa[Value.cells] using hv')),h3⟩
theorem zw1 {base:Nat}:∀ {ts:List TypeId} (Qs:List (PV→Prop)) {vs:List Value} {ds:List (DataW H)} {ps:List MemPlace},ts.length=Qs.length→(∀(i:Nat) t Q,ts[i]?=some t→Qs[i]?=some Q→zqp enc P w base t Q)→
  (∀(i:Nat) t v,ts[i]?=some t→vs[i]?=some v→Value.okWide P w .any base t v)→DataW.TrodAll enc P w 0 (fun _=>true) true ts vs ds ps→(∀m∈DataW.weightsEach P ts ds,m≤reachBytes)→
  ∃pvs:List PV,pvs.length=Qs.length∧PRs (CV w) pvs vs∧∀(i:Nat) Q p,Qs[i]?=some Q→pvs[i]?=some p→Q p
 |[],[],_,_,_,_,_,_,h,_=>by
  obtain⟨rfl,rfl,rfl⟩:=trodAll_nil h
  exact⟨[],rfl,.nil,fun i Q p _ hp=>by simp at hp⟩
 |[],_::_,_,_,_,hl,_,_,_,_=>by simp at hl
 |_::_,[],_,_,_,hl,_,_,_,_=>by simp at hl
 |t::ts,Q::Qs,_,_,_,hl,ha,hok,h,hm=>by
  obtain⟨v,vs1,d,ds1,a,b,rfl,rfl,rfl,h1,h2⟩:=trodAll_cons h
  simp only[DataW.weightsEach,List.mem_append] at hm
  obtain⟨p,k1,k2⟩:=ha 0 t Q rfl rfl v d a (hok 0 t v rfl rfl) h1 (fun m hx=>hm m (.inl hx))
  obtain⟨pvs,k3,k4,k5⟩:=zw1 (base:=base) Qs (by simpa using hl) (fun i t Q ht hq=>ha (i+1) t Q (by simpa using ht) (by simpa using hq)) (fun i t v ht hv=>hok (i+1) t v (by simpa using ht) (by simpa using hv)) h2 (fun m hx=>hm m (.inr hx))
  refine⟨p::pvs,by simp[k3],k4.cons k1,fun i Q' p' hq hp=>?_⟩
  cases i with
  |zero=>simp at hq hp;subst hq;subst hp;exact k2
  |succ i=>exact k5 i Q' p' (by simpa using hq) (by simpa using hp)
theorem zqq {T:TypeId→Prop}(K:Kids P T)(hz:∀t e,T t→P.underlying t=some (.slice e)→0<P.cellsOf e){fid:FuncId}{f:Func}(hT:∀t∈f.params.toList,T t){tb:TypeId}(hb:P.underlying tb=some .bool)(hrt:f.resultTypes=#[tb])
  {s:ChangeSpec} (hvars:s.vars=[]) {base:Nat} {args:Array Value} {ds gs:List (DataW H)} {before:List MemPlace}
  (hval:∀(j:Nat) t v,f.params[j]?=some t→args[j]?=some v→Value.okWide P w .any base t v) (hW:DataW.Whole enc P f.params.toList s.vars false w args.toList ds gs before)
  (hsz:(DataW.weightsEach P (f.params.toList++s.plain.varTypes P) (ds++gs)).all (·≤reachBytes)=true) (hvt:s.plain.varTypes P=[])
  (hspec:∀l:List (DataW H),l.length=f.params.toList.length→s.fn H l={ results:=[.lit (.bool true)],args:=l })
  (Qs:List (PV→Prop)) (hQ:f.params.toList.length=Qs.length) (ha:∀(i:Nat) t Q,f.params.toList[i]?=some t→Qs[i]?=some Q→zqp enc P w base t Q)
  (walk:∀pvs:List PV,pvs.length=Qs.length→(∀(i:Nat) Q p,Qs[i]?=some Q→pvs[i]?=some p→Q p)→zao P fid pvs fun r=>r=.bool true) :
  Calls P fid args w fun e w'=>∃v,e=.returned v∧s.post enc P f false true false false w args v w':=by
 have hW':=hW
 obtain⟨p,q,h1,h2,rfl,_,_⟩:=hW
 rw[hvars] at h2
 obtain⟨rfl,rfl⟩:=trodVars_none h2
 rw[hvt,List.append_nil,List.append_nil] at hsz
 have hds:ds.length=f.params.toList.length:=by
  have:∀ {ts:List TypeId} {vs:List Value} {ds:List (DataW H)} {ps:List MemPlace},DataW.TrodAll enc P w 0 (fun _=>true) true ts vs ds ps→ds.length=ts.length:=by
   intro ts
   induction ts with
   |nil=>intro vs ds ps h;obtain⟨_,rfl,_⟩:=trodAll_nil h;rfl
   |cons t ts ih=>intro vs ds ps h;obtain⟨_,_,_,_,_,_,_,rfl,_,_,h⟩:=trodAll_cons h;simp[ih h]
  exact this h1
 obtain⟨pvs,k1,k2,k3⟩:=zw1 (base:=base) Qs hQ ha (fun i t v ht hv=>hval i t v (by simpa using ht) (by simpa using hv)) h1 (fun m hm=>by simpa using List.all_eq_true.1 hsz m hm)
 refine((walk pvs k1 k3).enter (w:=w) (cargs:=args) (by have:=k2.1;simpa using this) (fun i v v' hv hv'=>k2.2 i v v' hv (by simpa using hv'))).mono fun e w' ⟨he,hu⟩=>⟨_,he,?_⟩
 have hs:=hspec (ds++[]) (by simpa using hds)
 refine zn1 K hz hT hW' hvars (fun b sp hd=>?_) (by rw[hs];simp) (by rw[hs]) hu
 rw[hs,hrt]
 exact trodAll_mk1 (v:=.bool true) (p:=[]) ⟨1,by simp[Value.cells,DataW.trod,hb]⟩
end
end Go.Am
end
/-
 The value machine, part T: a closed call that was evaluated.
-/
section
namespace Go.Am
theorem zao.of_closed {P:Program}{f:FuncId}{b:Bool}(hc:zbx P 0 f [] zaa.empty fun r _=>r=.bool b):zao P f [] fun r=>r=.bool b:=by
 intro lo g σ h args' ha s
 have e:args'=[]:=ha.zbr
 subst e
 have h1:zbx P 0 f [] zaa.empty fun r _=>zcr r=true∧r=.bool b:=hc.mono fun r h' hr=>by subst hr;exact⟨rfl,rfl⟩
 refine(zbx.closed h1 lo h).mono fun r h' ⟨hr,hh⟩=>?_
 subst hr;subst hh
 exact⟨g,σ,.bool b,zab.empty,.fr _ _ (.bool b),s,Fz.le_refl g,fun _ _=>rfl,VF.refl _ _ _,Nat.le_refl _,GOwn.refl _ _ _ _,rfl,rfl⟩
end Go.Am
end
/-
 The value machine, part U: ranges over functions.
-/
section
namespace Go.Am
def zab.back (vh:zab)(i:Nat)(x:VObj):zab:=⟨vh.next,(i,x)::vh.objs⟩
theorem zab.zbw (vh:zab)(i j:Nat)(x:VObj):(vh.back i x).get j=if j=i then some x else vh.get j:=by
 simp only[zab.get,zab.back,zbl,beq_eq]
 by_cases h:j=i<;>simp[h]
section
variable {P:Program} {N b:Nat} {Q:zdz} {vts:VTs} {vh:zab} {lo:Nat} {g:Fz} {σ:Sg} {h:zaa}
theorem SimR.back {N0:Nat}{ts':Tmps}{h':zaa}{g':Fz}{σ':Sg}{vts':VTs}{vh':zab}(s:VS lo g σ vh h){i:Nat}{x x':VObj}{y:AObj}(hx:vh.get i=some x)(hl:x.live=true)
  (a:SimR N0 vh.next lo g σ (vh.drop i) (h.put (σ i).1 none) ts' h' g' σ' vts' vh') (hx':VRO g' σ' vh'.next (h'.put (σ i).1 (some y)) i x') :
  VS lo g' σ' (vh'.back i x') (h'.put (σ i).1 (some y))∧VF σ vh h σ' (vh'.back i x') (h'.put (σ i).1 (some y))∧GOwn g σ vh h g':=by
 have hlt:=(s.obj i x hx).2.lt hl
 have hi:=(s.obj i x hx).1
 have hσ:σ' i=σ i:=a.agree i hi
 have hlt':(σ i).1<h'.next:=Nat.lt_of_lt_of_le hlt a.f.next
 have hno:∀j z,vh'.get j=some z→z.live=true→(σ' j).1≠(σ i).1:=fun j z hz hlz he=>by
  obtain⟨k,u,k1,k2,k3⟩:=a.f.own j z hz hlz (by rw[he];exact hlt)
  obtain⟨k4,k5⟩:=za0 k1
  exact k4 (s.inj k i u x k5 hx k2 hl (k3.trans he))
 have hgn:g' (σ i).1=none:=by
  cases hg:g' (σ i).1 with
  |none=>rfl
  |some z=>
   rcases a.own _ z hg hlt with h1|⟨k,u,k1,k2,k3⟩
   ·rw[s.dis i x hx hl] at h1;cases h1
   obtain⟨k4,k5⟩:=za0 k1
   exact absurd (s.inj k i u x k5 hx k2 hl k3) k4
 have hput:∀p,(h'.put (σ i).1 (some y)).get p=if p=(σ i).1 then some y else h'.get p:=fun p=>zaa.zap _ _ _ _ hlt'
 refine⟨⟨fun j z hz=>?_,fun j k z u hz hu hlz hlu he=>?_,fun j z hz hlz=>?_,fun p z hz=>?_,fun j z hz hlz=>?_,a.s.lole⟩,⟨a.f.next,fun p hp hn=>?_,fun j z hz hlz hlt2=>?_⟩,fun p z hz hp=>?_⟩
 ·rw[zab.zbw] at hz
  by_cases hj:j=i
  ·subst hj;simp at hz;subst hz;exact⟨Nat.lt_of_lt_of_le hi a.base,hx'⟩
  simp[hj] at hz
  obtain⟨k1,k2⟩:=a.s.obj j z hz
  exact⟨k1,k2.mono (Fz.le_refl g') (Nat.le_refl _) (fun _ _=>rfl) k1 fun hlz=>by rw[hput,if_neg (hno j z hz hlz)]⟩
 ·rw[zab.zbw] at hz hu
  by_cases hj:j=i<;>by_cases hk:k=i
  ·rw[hj,hk]
  ·simp[hk] at hu;subst hj;rw[hσ] at he;exact absurd he.symm (hno k u hu hlu)
  ·simp[hj] at hz;subst hk;rw[hσ] at he;exact absurd he (hno j z hz hlz)
  simp[hj] at hz;simp[hk] at hu;exact a.s.inj j k z u hz hu hlz hlu he
 ·rw[zab.zbw] at hz
  by_cases hj:j=i
  ·subst hj;rw[hσ];exact s.low j x hx hl
  simp[hj] at hz;exact a.s.low j z hz hlz
 ·rw[hput,if_neg (by rintro rfl;rw[hgn] at hz;cases hz)];exact a.s.fz p z hz
 ·rw[zab.zbw] at hz
  by_cases hj:j=i
  ·subst hj;rw[hσ];exact hgn
  simp[hj] at hz;exact a.s.dis j z hz hlz
 ·have hpi:p≠(σ i).1:=fun he=>hn i x hx hl he.symm
  rw[hput,if_neg hpi,a.f.pres p hp fun j z hz hlz=>hn j z (za0 hz).2 hlz,zaa.zap _ _ _ _ hlt,if_neg hpi]
 ·rw[zab.zbw] at hz
  by_cases hj:j=i
  ·subst hj;exact⟨j,x,hx,hl,by rw[hσ]⟩
  simp[hj] at hz
  obtain⟨k,u,k1,k2,k3⟩:=a.f.own j z hz hlz hlt2
  exact⟨k,u,(za0 k1).2,k2,k3⟩
 rcases a.own p z hz hp with h1|⟨k,u,k1,k2,k3⟩
 ·exact .inl h1
 exact .inr ⟨k,u,(za0 k1).2,k2,k3⟩
def zc7 (vts:VTs):List (Tmp×PV)→VTs
 |[]=>vts
 |(t,v)::r=>zc7 ((t,v)::vts) r
theorem zou {n:Nat}:∀ {ps:List Tmp} {l:List PV} {l':List Value} {vts:VTs} {ts:Tmps},VT g σ n vts ts→PRs (VR g σ n) l l'→(∀t∈ps,t<ts.length)→
  VT g σ n (zc7 vts (ps.zip l)) (zdv ts (ps.zip l'))∧(zdv ts (ps.zip l')).length=ts.length
 |[],_,_,_,_,ht,_,_=>by exact⟨by simpa[zc7,zdv] using ht,by simp[zdv]⟩
 |p::ps,[],l',vts,ts,ht,hl,_=>by
  have:=hl.zbr;subst this
  exact⟨by simpa[zc7,zdv] using ht,by simp[zdv]⟩
 |p::ps,v::l,l',vts,ts,ht,hl,hp=>by
  obtain⟨v',r',rfl,h1,h2⟩:=hl.zas
  simp only[List.zip_cons_cons,zc7,zdv]
  have hlt:=hp p List.mem_cons_self
  obtain⟨k1,k2⟩:=zou (ps:=ps) (l:=l) (l':=r') (vts:=(p,v)::vts) (ts:=ts.set p v') (fun t u hu=>by
   simp only[tget,beq_eq] at hu
   by_cases htp:t=p
   ·subst htp;simp at hu;subst hu
    rw[List.getD_eq_getElem?_getD,List.getElem?_set_self hlt];exact h1
   simp[htp] at hu
   rw[List.getD_eq_getElem?_getD,List.getElem?_set_ne (fun h=>htp h.symm),← List.getD_eq_getElem?_getD];exact ht t u hu) h2 (fun t hm=>by simp;exact hp t (List.mem_cons_of_mem _ hm))
  exact⟨k1,by simpa using k2⟩
def z4e (N0:Nat)(ps:Array Tmp)(assign body:Code)(vts0:VTs)(i:Nat)(K:Bool→zab→Prop):zdz
 |.normal,_,vh'=>K true (vh'.back i (.loop N0 ps assign body vts0 none))
 |.ret,_,vh'=>K false (vh'.back i (.loop N0 ps assign body vts0 (some .ret)))
 |.exit id,_,vh'=>K false (vh'.back i (.loop N0 ps assign body vts0 (some (.exit id))))
 |_,_,_=>False
theorem zds.yield {o:Oper}{fo:Operand}{args:Array Operand}{aT:Array TypeId}{i N0:Nat}{ps:Array Tmp}{assign body:Code}{vts0:VTs}{l:List PV}{next:VTs→zab→Prop}(ho:o.op=.call ⟨.value fo,args,aT⟩)
  (hf:za1 vts fo=some (.yld i)) (hl:zca vts args.toList=some l) (hg:vh.get i=some (.loop N0 ps assign body vts0 none)) (hlen:l.length=ps.size) (hps:ps.toList.all (Nat.blt · N0)=true) (hd:zb8 N o.dst=true)
  (hc:VW P N0 vh.next assign (zvw (VW P N0 vh.next body (z4e N0 ps assign body vts0 i fun bb vh'=>next (tput vts o.dst (.bool bb)) vh')) (fun _ _ _=>False)) (zc7 vts0 (ps.toList.zip l)) (vh.drop i)) :
  zds P N b o next vts vh:=fun lo g σ h ts ht hn s hb=>by
 obtain⟨f',k1,k2⟩:=zak ht hf
 obtain⟨l',k3,k4⟩:=zd6 ht hl
 obtain⟨hi,L,q1,q2,q3,q4,q5,q6⟩:=s.obj i _ hg
 have hfv:f'=.func (.yield (σ i).1) #[] #[]:=by
  cases k2 with
  |fr _ _ h=>cases h
  |yld _ o a k hi' hs=>rw[hs]
 subst hfv
 subst q2;subst q3;subst q4
 have hll:VObj.live (.loop N0 L.params L.assign L.body vts0 none)=true:=rfl
 obtain⟨sk,_⟩:=s.kill hg hll
 have hpl:∀t∈L.params.toList,t<L.ts.length:=fun t htm=>by
  rw[List.all_eq_true] at hps
  rw[q5];simpa using hps t htm
 obtain⟨e1,e2⟩:=zou (g:=g) (σ:=σ) (n:=vh.next) (ps:=L.params.toList) q6 k4 hpl
 refine .yield ho k1 k3 q1 (s.low i _ hg hll) (by rw[← hlen,k4.1]) ?_
 have run:=hc lo g σ (h.put (σ i).1 none) _ e1 (e2.trans q5) sk (Nat.le_refl _)
 have fin:∀(jump:Option Code) (ts2:Tmps) (h2:zaa) (g2:Fz) (σ2:Sg) (vts2:VTs) (vh2:zab),SimR N0 vh.next lo g σ (vh.drop i) (h.put (σ i).1 none) ts2 h2 g2 σ2 vts2 vh2→
   next (tput vts o.dst (.bool jump.isNone)) (vh2.back i (.loop N0 L.params L.assign L.body vts0 jump))→Sim N b lo g σ vh h next (aput ts o.dst (.bool jump.isNone)) (h2.put (σ i).1 (some (.loop L jump))):=by
  intro jump ts2 h2 g2 σ2 vts2 vh2 a hk
  have hσ:σ2 i=σ i:=a.agree i hi
  have hlt2:(σ i).1<h2.next:=Nat.lt_of_lt_of_le ((s.obj i _ hg).2.lt hll) a.f.next
  obtain⟨r1,r2,r3⟩:=SimR.back (x':=.loop N0 L.params L.assign L.body vts0 jump) (y:=.loop L jump) s hg hll a ⟨L,by rw[hσ,zaa.zap _ _ _ _ hlt2];simp,rfl,rfl,rfl,q5,q6.mono a.le a.base a.agree⟩
  obtain⟨t1,t2⟩:=zc1 a.le a.base a.agree ht o.dst (hn▸hd) (.fr _ _ (.bool jump.isNone):VR g2 σ2 vh2.next (.bool jump.isNone) (.bool jump.isNone))
  exact⟨g2,σ2,_,vh2.back i (.loop N0 L.params L.assign L.body vts0 jump),⟨t1,t2.trans hn,r1,a.le,fun j hj=>a.agree j (by omega),r2,Nat.le_trans hb a.base,r3⟩,hk⟩
 refine run.mono fun e ts1 h1 hs=>?_
 cases e with
 |normal=>
  obtain⟨g1,σ1,vts1,vh1,a1,hW⟩:=hs
  refine(hW lo g1 σ1 h1 ts1 a1.t a1.len a1.s a1.base).mono fun e ts2 h2 hs2=>?_
  cases e with
  |normal=>obtain⟨g2,σ2,vts2,vh2,a2,hk⟩:=hs2;exact fin none _ _ _ _ _ _ (a1.trans a2) hk
  |ret=>obtain⟨g2,σ2,vts2,vh2,a2,hk⟩:=hs2;exact fin (some .ret) _ _ _ _ _ _ (a1.trans a2) hk
  |exit id=>obtain⟨g2,σ2,vts2,vh2,a2,hk⟩:=hs2;exact fin (some (.exit id)) _ _ _ _ _ _ (a1.trans a2) hk
  |goto l=>obtain⟨_,_,_,_,_,hk⟩:=hs2;exact hk.elim
  |panic ch=>obtain⟨_,_,_,_,_,hk⟩:=hs2;exact hk.elim
  |outgrown=>obtain⟨_,_,_,_,_,hk⟩:=hs2;exact hk.elim
 |exit id=>obtain⟨_,_,_,_,_,hk⟩:=hs;exact hk.elim
 |goto l=>obtain⟨_,_,_,_,_,hk⟩:=hs;exact hk.elim
 |ret=>obtain⟨_,_,_,_,_,hk⟩:=hs;exact hk.elim
 |panic ch=>obtain⟨_,_,_,_,_,hk⟩:=hs;exact hk.elim
 |outgrown=>obtain⟨_,_,_,_,_,hk⟩:=hs;exact hk.elim
@[irreducible] def zo3 (i:Nat)(vts:VTs)(Q:zdz)(vh':zab):Prop:=match vh'.get i with
 |some (.loop _ _ _ _ _ none)=>Q .normal vts (vh'.drop i)
 |some (.loop _ _ _ _ _ (some .ret))=>Q .ret vts (vh'.drop i)
 |some (.loop _ _ _ _ _ (some (.exit id)))=>Q (.exit id) vts (vh'.drop i)
 |_=>False
def z6t (i:Nat)(vts:VTs)(Q:zdz):zdz
 |.normal,_,vh'=>zo3 i vts Q vh'
 |.ret,_,vh'=>zo3 i vts Q vh'
 |_,_,_=>False
theorem zsl {i:Nat}{vts vts2:VTs}{Q:zdz}{vh':zab}{N2:Nat}{ps2:Array Tmp}{a2 b2:Code}(h:vh'.get i=some (.loop N2 ps2 a2 b2 vts2 none))(k:Q .normal vts (vh'.drop i)):zo3 i vts Q vh':=by
 unfold zo3;rw[h];exact k
theorem z3w {n m:Nat}{args:List PV}{args':List Value}(ha:PRs (VR g σ n) args args'):VT g σ n (zc5 0 args) (args'++List.replicate m Go.undef):=fun t v hv=>by
 rw[zhj] at hv
 simp at hv
 obtain⟨v',h1,h2⟩:=ha.get hv
 have hlt:t<args'.length:=by
  rcases Nat.lt_or_ge t args'.length with h|h
  ·exact h
  rw[List.getElem?_eq_none h] at h1;cases h1
 have:(args'++List.replicate m Go.undef).getD t Go.undef=v':=by
  rw[List.getD,List.getElem?_append_left hlt,h1];rfl
 rw[this];exact h2
theorem VW.rangeFunc {g0:Operand}{ps:Array Tmp}{assign body:Code}{f:FuncId}{fn:Func}{c:Code}{xs ys:List PV}(hg:za1 vts g0=some (.func f xs ys))(hcf:∀cs w,(callFunc f cs).run P w=.ok (.enter f cs) w)
  (hf:P.funcs[f]?=some fn) (hb:fn.body=some c) (hr:fn.results=#[]) (hn:Nat.ble (xs.length+1+ys.length) fn.ntmps=true)
  (hc:VW P fn.ntmps (vh.next+1) c (z6t vh.next vts Q) (zc5 0 (xs++[.yld vh.next]++ys)) (vh.alloc (.loop N ps assign body vts none))):VW P N b (.rangeFunc g0 ps assign body) Q vts vh:=fun lo g σ h ts ht hN s hbn=>by
 obtain⟨f',k1,k2⟩:=zak ht hg
 obtain⟨xs',ys',rfl,hx,hy⟩:=zd9 k2
 have hσ1:∀i,i<vh.next→(σ.put vh.next (h.next,0,0)) i=σ i:=fun i hi=>Sg.zgm _ _ (by omega)
 obtain⟨s1,f1⟩:=s.alloc (x:=.loop N ps assign body vts none) (.loop ⟨ps,assign,body,ts,0⟩ none) 0 ⟨⟨ps,assign,body,ts,0⟩,by rw[Sg.zae,zaa.zaj];simp,rfl,rfl,rfl,hN,ht.mono (Fz.le_refl g) (Nat.le_succ _) hσ1⟩
 have ha:PRs (VR g (σ.put vh.next (h.next,0,0)) (vh.next+1)) (xs++[.yld vh.next]++ys) (xs'.toList++[Value.func (.yield h.next) #[] #[]]++ys'.toList):=
  ((hx.zp1 (Fz.le_refl g) (Nat.le_succ _) hσ1).append (.cons (.yld vh.next h.next 0 0 (Nat.lt_succ_self _) (Sg.zae _ _ _)) .nil)).append (hy.zp1 (Fz.le_refl g) (Nat.le_succ _) hσ1)
 refine .rangeFunc 0 k1 hcf (.zag hf hb ?_)
 have hlen:((xs'.toList++[Value.func (.yield h.next) #[] #[]]++ys'.toList)++List.replicate (fn.ntmps - (xs'.toList++[Value.func (.yield h.next) #[] #[]]++ys'.toList).length) Go.undef).length=fn.ntmps:=by
  have h1:=ha.1
  have h2:xs.length+1+ys.length≤fn.ntmps:=by simpa using hn
  simp at h1 ⊢;omega
 refine(hc lo g _ _ _ (z3w ha) hlen s1 (Nat.le_refl _)).mono fun e ts' h' ⟨g',σ',vts',vh',a,k⟩=>?_
 have fin:zo3 vh.next vts Q vh'→∃l,zbv P ts' h' fn.results.toList=some l∧∃L jump,h'.get h.next=some (.loop L jump)∧match jump with
    |none=>Sim N b lo g σ vh h (Q .normal) ts (h'.put h.next none)
    |some c=>AW P lo c (fun e=>Sim N b lo g σ vh h (Q e)) ts (h'.put h.next none):=fun hend=>by
  refine⟨[],by rw[hr];rfl,?_⟩
  have hag:σ' vh.next=(h.next,0,0):=(a.agree vh.next (Nat.lt_succ_self _)).trans (Sg.zae _ _ _)
  have hag2:∀i,i<vh.next→σ' i=σ i:=fun i hi=>(a.agree i (by omega)).trans (hσ1 i hi)
  have hnn:vh.next≤vh'.next:=Nat.le_trans (Nat.le_succ _) a.base
  have done:∀ {N2 ps2 a2 b2 vts2 jump},vh'.get vh.next=some (.loop N2 ps2 a2 b2 vts2 jump)→∀ {K:VTs→zab→Prop},K vts (vh'.drop vh.next)→Sim N b lo g σ vh h K ts (h'.put h.next none):=fun hgv K hK=>by
   have:=a.s.kill hgv rfl
   rw[hag] at this
   exact⟨g',σ',vts,vh'.drop vh.next,⟨ht.mono a.le hnn hag2,hN,this.1,a.le,fun i hi=>hag2 i (by omega),(f1.trans a.f).trans this.2,Nat.le_trans hbn hnn,(GOwn.refl g σ vh h).trans f1 a.own⟩,hK⟩
  have obj:∀ {N2 ps2 a2 b2 vts2 jump},vh'.get vh.next=some (.loop N2 ps2 a2 b2 vts2 jump)→∃L,h'.get h.next=some (.loop L jump):=fun hgv=>by
   obtain⟨_,L,q1,_⟩:=a.s.obj _ _ hgv
   rw[hag] at q1
   exact⟨L,q1⟩
  unfold zo3 at hend
  split at hend
  ·rename_i hgv;obtain⟨L,hL⟩:=obj hgv;exact⟨L,none,hL,done hgv hend⟩
  ·rename_i hgv;obtain⟨L,hL⟩:=obj hgv;exact⟨L,some .ret,hL,.ret (done hgv hend)⟩
  ·rename_i id hgv;obtain⟨L,hL⟩:=obj hgv;exact⟨L,some (.exit id),hL,.exit (done hgv hend)⟩
  exact hend.elim
 cases e with
 |normal=>exact fin k
 |ret=>exact fin k
 |exit id=>exact k.elim
 |goto l=>exact k.elim
 |panic ch=>exact k.elim
 |outgrown=>exact k.elim
end
end Go.Am
end
/-
 The value machine, part V: stretches whose order is drawn, with objects that float.
-/
section
namespace Go.Am
section
variable {P:Program} {N b lo:Nat} {Q:zdz} {vts:VTs} {vh vh':zab} {g g':Fz} {σ σ':Sg} {h h':zaa}
theorem VS.hide (s:VS lo g σ vh h){T:zaa}{V:zab}{ids:List Nat}(hn:T.next=h.next)(hv:V.next=vh.next)(hV:∀j x,V.get j=some x→vh.get j=some x∧j∉ids)
  (hT:∀o,T.get o=h.get o∨∃i x,i∈ids∧vh.get i=some x∧x.live=true∧(σ i).1=o):VS lo g σ V T:=by
 refine⟨fun j x hx=>?_,fun i j x y hx hy=>s.inj i j x y (hV i x hx).1 (hV j y hy).1,fun j x hx=>s.low j x (hV j x hx).1,fun o x hx=>?_,fun j x hx=>s.dis j x (hV j x hx).1,hn▸s.lole⟩
 ·obtain⟨h1,h2⟩:=hV j x hx
  obtain⟨k1,k2⟩:=s.obj j x h1
  rw[hv]
  refine⟨k1,k2.mono (Fz.le_refl g) (Nat.le_refl _) (fun _ _=>rfl) k1 fun hl=>?_⟩
  rcases hT (σ j).1 with h|⟨i,y,hi,hy,hly,he⟩
  ·exact h
  have:=s.inj i j y x hy h1 hly hl he
  subst this;exact absurd hi h2
 rcases hT o with h|⟨i,y,hi,hy,hly,he⟩
 ·rw[h];exact s.fz o x hx
 have:=s.dis i y hy hly
 rw[he,hx] at this;cases this
theorem SimR.xbv {σs:Sg}{gs:Fz}{vhs:zab}{hs:zaa}{ts0 ts':Tmps}{vts0 vts':VTs}{V V2:zab}{T H2:zaa}{ids:List Nat}(a0:SimR N b lo gs σs vhs hs ts0 h g σ vts0 vh)
  (hn:T.next=h.next) (hv:V.next=vh.next) (hV:∀j x,V.get j=some x→vh.get j=some x∧j∉ids)
  (hid:∀i∈ids,∃x,vh.get i=some x∧x.live=true)
  (hT:∀o,T.get o=h.get o∨∃i,i∈ids∧(σ i).1=o)
  (a:SimR N vh.next lo g σ V T ts' h' g' σ' vts' vh')
  (h2n:H2.next=h'.next) (h2:∀o,(∃i,i∈ids∧(σ i).1=o∧H2.get o=h.get o)∨((∀i∈ids,(σ i).1≠o)∧H2.get o=h'.get o))
  (v2n:V2.next=vh'.next) (hV2:∀j x,V2.get j=some x→(j∈ids∧vh.get j=some x)∨(j∉ids∧vh'.get j=some x)) :
  SimR N b lo gs σs vhs hs ts' H2 g' σ' vts' V2:=by
 have s:=a0.s
 have lt:∀i x,vh.get i=some x→i<vh.next:=fun i x hx=>(s.obj i x hx).1
 have hag:∀i,i<vh.next→σ' i=σ i:=a.agree
 have hown:∀j z,vh'.get j=some z→z.live=true→∀i∈ids,(σ' j).1≠(σ i).1:=fun j z hz hlz i hi he=>by
  obtain⟨x,hx,hl⟩:=hid i hi
  obtain⟨k,u,k1,k2,k3⟩:=a.f.own j z hz hlz (by rw[he,hn];exact(s.obj i x hx).2.lt hl)
  obtain⟨k4,k5⟩:=hV k u k1
  have:=s.inj k i u x k4 hx k2 hl (k3.trans he)
  subst this;exact k5 hi
 have hgn:∀i∈ids,g' (σ i).1=none:=fun i hi=>by
  obtain⟨x,hx,hl⟩:=hid i hi
  cases hg:g' (σ i).1 with
  |none=>rfl
  |some z=>
   rcases a.own _ z hg (by rw[hn];exact(s.obj i x hx).2.lt hl) with h1|⟨k,u,k1,k2,k3⟩
   ·rw[s.dis i x hx hl] at h1;cases h1
   obtain⟨k4,k5⟩:=hV k u k1
   have:=s.inj k i u x k4 hx k2 hl k3
   subst this;exact absurd hi k5
 have hsame:∀j x,j∈ids→vh.get j=some x→x.live=true→H2.get (σ j).1=h.get (σ j).1:=fun j x hj hx hl=>by
  rcases h2 (σ j).1 with⟨i,hi,he,h3⟩|⟨h3,_⟩
  ·exact h3
  exact absurd rfl (h3 j hj)
 refine⟨?_,a.len,⟨fun j x hx=>?_,fun j k x y hx hy hlx hly he=>?_,fun j x hx hl=>?_,fun o x hx=>?_,fun j x hx hl=>?_,h2n▸a.s.lole⟩,Fz.le_trans a0.le a.le,fun i hi=>(hag i (Nat.lt_of_lt_of_le hi a0.base)).trans (a0.agree i hi),
  ⟨h2n▸(Nat.le_trans a0.f.next (hn▸a.f.next)),fun o ho hno=>?_,fun j x hx hl hlt=>?_⟩,v2n▸(Nat.le_trans a0.base a.base),fun o x hx ho=>?_⟩
 ·rw[v2n];exact a.t
 ·rw[v2n]
  rcases hV2 j x hx with⟨hj,hx⟩|⟨hj,hx⟩
  ·obtain⟨k1,k2⟩:=s.obj j x hx
   exact⟨Nat.lt_of_lt_of_le k1 a.base,k2.mono a.le a.base hag k1 fun hl=>hsame j x hj hx hl⟩
  obtain⟨k1,k2⟩:=a.s.obj j x hx
  refine⟨k1,k2.mono (Fz.le_refl g') (Nat.le_refl _) (fun _ _=>rfl) k1 fun hl=>?_⟩
  rcases h2 (σ' j).1 with⟨i,hi,he,h3⟩|⟨_,h3⟩
  ·exact absurd he.symm (hown j x hx hl i hi)
  exact h3
 ·rcases hV2 j x hx with⟨hj,hx⟩|⟨hj,hx⟩<;>rcases hV2 k y hy with⟨hk,hy⟩|⟨hk,hy⟩
  ·rw[hag j (lt j x hx),hag k (lt k y hy)] at he;exact s.inj j k x y hx hy hlx hly he
  ·rw[hag j (lt j x hx)] at he;exact absurd he.symm (hown k y hy hly j hj)
  ·rw[hag k (lt k y hy)] at he;exact absurd he (hown j x hx hlx k hk)
  exact a.s.inj j k x y hx hy hlx hly he
 ·rcases hV2 j x hx with⟨hj,hx⟩|⟨hj,hx⟩
  ·rw[hag j (lt j x hx)];exact s.low j x hx hl
  exact a.s.low j x hx hl
 ·rcases h2 o with⟨i,hi,he,h3⟩|⟨_,h3⟩
  ·subst he;rw[hgn i hi] at hx;cases hx
  rw[h3];exact a.s.fz o x hx
 ·rcases hV2 j x hx with⟨hj,hx⟩|⟨hj,hx⟩
  ·rw[hag j (lt j x hx)];exact hgn j hj
  exact a.s.dis j x hx hl
 ·have h3:=a0.f.pres o ho hno
  have hlt:o<h.next:=Nat.lt_of_lt_of_le ho a0.f.next
  rcases h2 o with⟨i,hi,he,h4⟩|⟨h4,h5⟩
  ·rw[h4,h3]
  rw[h5,a.f.pres o (by rw[hn];exact hlt) fun j x hx hl he=>?_]
  ·rcases hT o with h6|⟨i,hi,he⟩
   ·rw[h6,h3]
   exact absurd he (h4 i hi)
  obtain⟨k,u,k1,k2,k3⟩:=a0.f.own j x (hV j x hx).1 hl (by rw[he];exact ho)
  exact hno k u k1 k2 (k3.trans he)
 ·rcases hV2 j x hx with⟨hj,hx⟩|⟨hj,hx⟩
  ·rw[hag j (lt j x hx)] at hlt ⊢;exact a0.f.own j x hx hl hlt
  obtain⟨k,u,k1,k2,k3⟩:=a.f.own j x hx hl (by rw[hn];exact Nat.lt_of_lt_of_le hlt a0.f.next)
  obtain⟨q,w,q1,q2,q3⟩:=a0.f.own k u (hV k u k1).1 k2 (by rw[k3];exact hlt)
  exact⟨q,w,q1,q2,q3.trans k3⟩
 rcases a.own o x hx (by rw[hn];exact Nat.lt_of_lt_of_le ho a0.f.next) with h3|⟨k,u,k1,k2,k3⟩
 ·exact a0.own o x h3 ho
 obtain⟨q,w,q1,q2,q3⟩:=a0.f.own k u (hV k u k1).1 k2 (by rw[k3];exact ho)
 exact .inr ⟨q,w,q1,q2,q3.trans k3⟩
def vopA (P:Program)(vts:VTs)(vh:zab):Op→Option (PV×VObj)
 |.alloc t=>(zbm P t).map fun z=>(.ptr vh.next 0,.box z)
 |.box _ x=>(za1 vts x).map fun v=>(.ptr vh.next 0,.box v.cells)
 |.buildSlice t n parts=>match zeg vts parts.toList with
  |some l=>match zbb P ⟨vh.next,[]⟩ t n l with
   |some (v,vh2)=>match vh2.get vh.next with
    |some x=>some (v,x)
    |none=>none
   |none=>none
  |none=>none
 |.makeSlice t l c=>match za1 vts l,za1 vts c with
  |some a,some b=>match zbo P ⟨vh.next,[]⟩ t a b with
   |some (v,vh2)=>match vh2.get vh.next with
    |some x=>some (v,x)
    |none=>none
   |none=>none
  |_,_=>none
 |_=>none
theorem z2l {ts:Tmps}(ht:VT g σ vh.next vts ts){op:Op}{v:PV}{x:VObj}(hv:vopA P vts vh op=some (v,x))(id:Nat):∃v' y,aopA P ts id op=some (v',y)∧x.live=true∧
  ∀(σ2:Sg) (h2:zaa),σ2 vh.next=(id,0,0)→(∀i,i<vh.next→σ2 i=σ i)→h2.get id=some y→VR g σ2 (vh.next+1) v v'∧VRO g σ2 (vh.next+1) h2 vh.next x:=by
 cases op<;>simp only[vopA] at hv<;>try (cases hv;done)
 case alloc t=>
  obtain⟨z,h1,h2⟩:=zaf hv
  simp only[xfz] at h2
  obtain⟨rfl,rfl⟩:=h2
  obtain⟨z',k1,k2⟩:=zdq (g:=g) h1
  refine⟨_,_,by simp only[aopA,k1];rfl,rfl,fun σ2 h2 e1 e2 e3=>⟨?_,0,z',by rw[e1];exact e3,by rw[e1],k2.vr⟩⟩
  have:=VR.ptr (g:=g) (σ:=σ2) (n:=vh.next+1) vh.next 0 id 0 0 (by omega) e1
  simpa using this
 case box t y=>
  obtain⟨u,h1,h2⟩:=zaf hv
  simp only[xfz] at h2
  obtain⟨rfl,rfl⟩:=h2
  obtain⟨u',k1,k2⟩:=zak ht h1
  refine⟨_,_,by simp only[aopA,k1];rfl,rfl,fun σ2 h2 e1 e2 e3=>⟨?_,0,u'.cells.toList,by rw[e1];exact e3,by rw[e1],k2.cells.zp1 (Fz.le_refl g) (Nat.le_succ _) e2⟩⟩
  have:=VR.ptr (g:=g) (σ:=σ2) (n:=vh.next+1) vh.next 0 id 0 0 (by omega) e1
  simpa using this
 case buildSlice t len parts=>
  split at hv
  ·rename_i l hl
   obtain⟨l',k1,k2⟩:=zkn ht hl
   split at hv
   ·rename_i v0 vh2 hb
    unfold zbb at hb
    split at hb
    ·rename_i e n2 hte
     split at hb
     ·rename_i z ag hz hag
      obtain⟨z',h1,h2⟩:=zdq (g:=g) hz
      cases hbb:(Nat.beq z.length n2&&Nat.ble (len*n2) 16777216&&Nat.blt 0 n2) with
      |false=>rw[hbb] at hb;cases hb
      |true=>
       rw[hbb] at hb
       simp only[xf1] at hb
       split at hb
       ·rename_i cs hf
        cases ha:PV.allF cs with
        |false=>rw[ha] at hb;cases hb
        |true=>
         rw[ha] at hb
         simp only[xf1,xfy,xfz] at hb
         obtain⟨rfl,rfl⟩:=hb
         have hg0:(zab.alloc ⟨vh.next,[]⟩ (.arr ag n2 cs)).get vh.next=some (.arr ag n2 cs):=by rw[zab.zaj];simp
         rw[hg0] at hv
         simp only[xfy,xfz] at hv
         obtain⟨rfl,rfl⟩:=hv
         obtain⟨cs',h4,h5⟩:=zkq k2 (zi3 h2.vr len) hf
         have hb':(Nat.beq z'.length n2&&Nat.ble (len*n2) 16777216&&Nat.blt 0 n2)=true:=by rw[← h2.1];exact hbb
         simp only[xf3,Nat.blt_eq,Nat.ble_eq] at hbb
         have hlen:len≤len*n2:=Nat.le_mul_of_pos_right _ hbb.2
         have hin:(16777216:Nat)<inex:=by decide
         refine⟨_,_,by simp only[aopA,k1,hte,h1,hb',xf1,h4];rfl,rfl,fun σ2 h3 e1 e2 e3=>⟨?_,hbb.2,0,cs',by rw[e1];exact e3,by rw[e1],h5.isF ha⟩⟩
         have:=VR.own (g:=g) (σ:=σ2) (n:=vh.next+1) vh.next 0 len len id 0 0 (by omega) e1 (Nat.le_refl _) (by omega)
         simpa using this
       cases hb
     cases hb
    cases hb
   cases hv
  cases hv
 case makeSlice t lx cx=>
  split at hv
  ·rename_i la ca hla hca
   obtain⟨l',q1,q2⟩:=zak ht hla
   obtain⟨c',q3,q4⟩:=zak ht hca
   split at hv
   ·rename_i v0 vh2 hb
    unfold zbo at hb
    split at hb
    ·rename_i l c e n hte
     have:=q2.isF rfl;cases this
     have:=q4.isF rfl;cases this
     split at hb
     ·rename_i z bytes ag hz hby hag
      obtain⟨z',h1,h2⟩:=zdq (g:=g) hz
      cases hbb:(decide (0≤l∧l≤c∧c≤4294967296)&&Nat.beq z.length n&&Nat.ble bytes 4096&&Nat.blt 0 n) with
      |false=>rw[hbb] at hb;cases hb
      |true=>
       rw[hbb] at hb
       simp only[xf1,xfy,xfz] at hb
       obtain⟨rfl,rfl⟩:=hb
       have hg0:(zab.alloc ⟨vh.next,[]⟩ (.arr ag n (zgg z c.toNat))).get vh.next=some (.arr ag n (zgg z c.toNat)):=by rw[zab.zaj];simp
       rw[hg0] at hv
       simp only[xfy,xfz] at hv
       obtain⟨rfl,rfl⟩:=hv
       simp only[xf3,decide_eq_true_eq,Nat.blt_eq,Nat.ble_eq] at hbb
       obtain⟨⟨⟨⟨hb1,hb2,hb3⟩,hb4⟩,hb5⟩,hb6⟩:=hbb
       have hzl:z'.length=n:=by rw[← h2.1];simpa using hb4
       cases l with
       |negSucc l=>omega
       |ofNat l=>
        cases c with
        |negSucc c=>omega
        |ofNat c=>
         have e1:l≤c:=by have:(l:Int)≤(c:Int):=hb2;omega
         have e2:c≤4294967296:=by have:(c:Int)≤4294967296:=hb3;omega
         have e3:bytes*c≤4096*4294967296:=Nat.mul_le_mul hb5 e2
         have hcond:(Nat.beq z'.length n&&Nat.ble l c&&Nat.ble (bytes*c) 281474976710656&&Nat.blt 0 n&&Nat.ble c 281474976710656)=true:=by
          simp only[xf3,Nat.ble_eq,Nat.blt_eq]
          exact⟨⟨⟨⟨by rw[hzl];exact Nat.beq_refl n,e1⟩,by omega⟩,hb6⟩,by omega⟩
         have hin:(4294967296:Nat)<inex:=by decide
         refine⟨_,_,by simp only[aopA,q1,q3,hte,h1,hby,hcond,xf1];rfl,rfl,fun σ2 h3 k1 k2 k3=>⟨?_,hb6,0,reps z' c,by rw[k1];exact k3,by rw[k1],zi3 h2 c⟩⟩
         have:=VR.own (g:=g) (σ:=σ2) (n:=vh.next+1) vh.next 0 l c id 0 0 (by omega) k1 e1 (by omega)
         simpa using this
     cases hb
    cases hb
   cases hv
  cases hv
end
end Go.Am
end
/-
 The value machine, part W: schedules with objects that float.
-/
section
namespace Go.Am
theorem zb2 {base:Nat}{M:Nat→Bool}{h:zaa}:∀fl:List (Nat×AObj),(zcg base M fl h).next=h.next
 |[]=>rfl
 |(i,x)::r=>by
  simp only[zcg]
  cases M i<;>simp[zb2 r]
theorem zeu {base:Nat}{M:Nat→Bool}{h:zaa}{o:Nat}:∀ {fl:List (Nat×AObj)},(∀q∈fl,base+q.1<h.next)→(∀q∈fl,M q.1=true→base+q.1≠o)→(zcg base M fl h).get o=h.get o
 |[],_,_=>rfl
 |(i,x)::r,hl,hq=>by
  have ih:=zeu (base:=base) (M:=M) (h:=h) (o:=o) (fl:=r) (fun q hm=>hl q (List.mem_cons_of_mem _ hm)) fun q hm=>hq q (List.mem_cons_of_mem _ hm)
  simp only[zcg]
  cases hM:M i with
  |false=>simpa using ih
  |true=>
   have h1:=hl (i,x) List.mem_cons_self
   rw[xf1,zaa.zap _ _ _ _ (by rw[zb2];exact h1),if_neg fun he=>hq (i,x) List.mem_cons_self hM he.symm,ih]
theorem zks {base:Nat}{M:Nat→Bool}{h:zaa}:∀ {fl:List (Nat×AObj)},(∀q∈fl,base+q.1<h.next)→(fl.map (·.1)).Nodup→∀q∈fl,M q.1=true→(zcg base M fl h).get (base+q.1)=some q.2
 |[],_,_,q,hq,_=>by cases hq
 |(i,x)::r,hl,hn,q,hq,hM=>by
  rw[List.map_cons,List.nodup_cons] at hn
  have hr:∀q∈r,base+q.1<h.next:=fun q hm=>hl q (List.mem_cons_of_mem _ hm)
  have h1:=hl (i,x) List.mem_cons_self
  simp only[zcg]
  rcases List.mem_cons.1 hq with rfl|hq
  ·rw[hM,xf1,zaa.zap _ _ _ _ (by rw[zb2];exact h1),if_pos rfl]
  have ih:=zks (base:=base) (M:=M) hr hn.2 q hq hM
  cases hMi:M i with
  |false=>simpa using ih
  |true=>
   have hne:base+q.1≠base+i:=fun he=>hn.1 (by
    have:q.1=i:=by omega
    exact List.mem_map.2 ⟨q,hq,this⟩)
   rw[xf1,zaa.zap _ _ _ _ (by rw[zb2];exact h1),if_neg hne,ih]
def hidF (ms:List Nat)(k:Nat)(vfl:List (Nat×Nat)):List (Nat×Nat):=vfl.filter fun p=>!bm ms p.1 k
def hidI (ms:List Nat)(k:Nat)(vfl:List (Nat×Nat)):List Nat:=(hidF ms k vfl).map (·.2)
def zgd (vh0:zab):List Nat→zab→zab
 |[],vh=>vh
 |i::r,vh=>match vh0.get i with
  |some x=>(zgd vh0 r vh).back i x
  |none=>zgd vh0 r vh
theorem zlj (vh0:zab):∀(l:List Nat) (vh:zab),(zgd vh0 l vh).next=vh.next
 |[],_=>rfl
 |i::r,vh=>by
  simp only[zgd]
  split
  ·exact zlj vh0 r vh
  exact zlj vh0 r vh
theorem zri (vh0:zab):∀(l:List Nat) (vh:zab),(∀i∈l,∃x,vh0.get i=some x)→∀j x,(zgd vh0 l vh).get j=some x→(j∈l∧vh0.get j=some x)∨(j∉l∧vh.get j=some x)
 |[],vh,_,j,x,h=>.inr ⟨by simp,h⟩
 |i::r,vh,hl,j,x,h=>by
  obtain⟨y,hy⟩:=hl i List.mem_cons_self
  simp only[zgd,hy,zab.zbw] at h
  by_cases hj:j=i
  ·subst hj;simp at h;subst h;exact .inl ⟨List.mem_cons_self,hy⟩
  simp[hj] at h
  rcases zri vh0 r vh (fun k hk=>hl k (List.mem_cons_of_mem _ hk)) j x h with⟨h1,h2⟩|⟨h1,h2⟩
  ·exact .inl ⟨List.mem_cons_of_mem _ h1,h2⟩
  exact .inr ⟨by simp[hj,h1],h2⟩
structure FlA (base:Nat) (σ':Sg) (vh':zab) (h':zaa) (vfl:List (Nat×Nat)) (fl:List (Nat×AObj)):Prop where
  ms:vfl.map (·.1)=fl.map (·.1)
  nd:(fl.map (·.1)).Nodup
  place:∀p∈vfl,(σ' p.2).1=base+p.1∧∃x,vh'.get p.2=some x∧x.live=true
  free:∀q∈fl,h'.get (base+q.1)=none∧base+q.1<h'.next
def zen (P:Program)(N b:Nat)(ops:Array Oper)(ms W As:List Nat)(K:VTs→zab→Prop):List zd7→List Nat→List (Nat×Nat)→List Nat→VTs→zab→Prop
 |[],_,_,_,vts,vh=>K vts vh
 |.op m::r,todo,vfl,Ar,vts,vh=>
  match ops[m]? with
  |none=>False
  |some o=>match zbg ops o vts with
   |none=>False
   |some false=>zb8 N o.dst=true∧zen P N b ops ms W As K r (zd2 ops todo o.dst) vfl Ar (tput vts o.dst (.tup [])) vh
   |some true=>bif W.contains m then zb9 P N vh.next ops o todo (fun todo' vts2 vh2=>zen P N b ops ms W As K r todo' (hidF ms m vfl) Ar vts2 (zgd vh (hidI ms m vfl) vh2)) vts (ze8 (hidI ms m vfl) vh)
    else bif Ar.contains m then As.contains m=true∧zb8 N o.dst=true∧∃v x,vopA P vts vh o.op=some (v,x)∧zen P N b ops ms W As K r (zd2 ops todo o.dst) ((m,vh.next)::vfl) (Ar.filter fun k=>!Nat.beq k m) (tput vts o.dst v) (vh.alloc x)
    else As.contains m=false∧isR o.op=true∧zb8 N o.dst=true∧∃v,vop P vts (ze8 (hidI ms m vfl) vh) o.op=some (v,ze8 (hidI ms m vfl) vh)∧
     zen P N b ops ms W As K r (bif zff o&&vfl.isEmpty then m::zd2 ops todo o.dst else zd2 ops todo o.dst) vfl Ar (tput vts o.dst v) vh
 |.ck m::r,todo,vfl,Ar,vts,vh=>
  match ops[m]? with
  |none=>False
  |some o=>(todo.contains m=true∨o.dst.isSome=true∧zbg ops o vts=some false)∧zen P N b ops ms W As K r todo vfl Ar vts vh
section
variable {P:Program} {N b lo:Nat} {ops:Array Oper} {g g':Fz} {σ σ':Sg} {vh vh':zab} {hs h':zaa} {base:Nat} {ms W As:List Nat}
theorem zxz {k:Nat}{vfl:List (Nat×Nat)}{i:Nat}(h:i∈hidI ms k vfl):∃p∈vfl,p.2=i∧bm ms p.1 k=false:=by
 unfold hidI hidF at h
 obtain⟨p,h1,h2⟩:=List.mem_map.1 h
 obtain⟨h3,h4⟩:=List.mem_filter.1 h1
 exact⟨p,h3,h2,by simpa using h4⟩
theorem z1h {k:Nat}{vfl:List (Nat×Nat)}{p:Nat×Nat}(h:p∈vfl)(hb:bm ms p.1 k=false):p.2∈hidI ms k vfl:=
 List.mem_map.2 ⟨p,List.mem_filter.2 ⟨h,by simp[hb]⟩,rfl⟩
theorem z7z {vfl:List (Nat×Nat)}{fl:List (Nat×AObj)}(hm:vfl.map (·.1)=fl.map (·.1)){q:Nat×AObj}(hq:q∈fl):∃p∈vfl,p.1=q.1:=by
 have:q.1∈vfl.map (·.1):=by rw[hm];exact List.mem_map_of_mem hq
 obtain⟨p,h1,h2⟩:=List.mem_map.1 this
 exact⟨p,h1,h2⟩
theorem z6y {vfl:List (Nat×Nat)}{fl:List (Nat×AObj)}(hm:vfl.map (·.1)=fl.map (·.1)){p:Nat×Nat}(hp:p∈vfl):∃q∈fl,q.1=p.1:=by
 have:p.1∈fl.map (·.1):=by rw[← hm];exact List.mem_map_of_mem hp
 obtain⟨q,h1,h2⟩:=List.mem_map.1 this
 exact⟨q,h1,h2⟩
theorem zy0 {vfl:List (Nat×Nat)}{fl:List (Nat×AObj)}(f:FlA base σ' vh' h' vfl fl)(k:Nat)(o:Nat) :
  (zcg base (fun i=>bm ms i k) fl h').get o=(zcg base (fun _=>true) fl h').get o∨∃i,i∈hidI ms k vfl∧(σ' i).1=o:=by
 have hl:∀q∈fl,base+q.1<h'.next:=fun q hq=>(f.free q hq).2
 by_cases hq:∃q∈fl,base+q.1=o
 ·obtain⟨q,hq,rfl⟩:=hq
  obtain⟨p,hp,hpq⟩:=z7z f.ms hq
  cases hb:bm ms q.1 k with
  |true=>exact .inl (by rw[zks (M:=fun i=>bm ms i k) hl f.nd q hq hb,zks (M:=fun _=>true) hl f.nd q hq rfl])
  |false=>exact .inr ⟨p.2,z1h hp (hpq▸hb),by rw[(f.place p hp).1,hpq]⟩
 refine .inl ?_
 have h1:∀q∈fl,base+q.1≠o:=fun q hm he=>hq ⟨q,hm,he⟩
 rw[zeu hl fun q hm _=>h1 q hm,zeu hl fun q hm _=>h1 q hm]
theorem zja (hd:∀d∈(ops.toList.filterMap (·.dst)),d<N){K:VTs→zab→Prop}(hbase:hs.next≤base)(hlo:lo≤hs.next):∀(items:List zd7) (todo:List Nat) (vfl:List (Nat×Nat)) (Ar:List Nat) (ts':Tmps) (fl:List (Nat×AObj)) (h':zaa) (g':Fz) (σ':Sg) (vts':VTs) (vh':zab),
  SimR N b lo g σ vh hs ts' (zcg base (fun _=>true) fl h') g' σ' vts' vh'→FlA base σ' vh' h' vfl fl→(∀j∈Ar,h'.get (base+j)=none∧base+j<h'.next∧j∉fl.map (·.1))→
  (∀m∈todo,CkF P lo ops ts' h' m)→zen P N b ops ms W As K items todo vfl Ar vts' vh'→Scr P lo ops base ms W As (Sim N b lo g σ vh hs K) items ts' fl h'
 |[],todo,vfl,Ar,ts',fl,h',g',σ',vts',vh',a,f,har,hck,k=>⟨g',σ',vts',vh',a,k⟩
 |.op m::r,todo,vfl,Ar,ts',fl,h',g',σ',vts',vh',a,f,har,hck,k=>by
  simp only[zen] at k
  have hl:∀q∈fl,base+q.1<h'.next:=fun q hq=>(f.free q hq).2
  have hTsub:h'.sub (zcg base (fun i=>bm ms i m) fl h'):=fun o x hx=>by
   rw[zeu hl fun q hq _ he=>by have:=(f.free q hq).1;rw[he,hx] at this;cases this];exact hx
  cases ho:ops[m]? with
  |none=>rw[ho] at k;exact k.elim
  |some o=>
   rw[ho] at k
   simp only at k
   refine⟨o,ho,?_⟩
   split at k
   ·exact k.elim
   ·rename_i hw
    rw[zel (a.len▸hd) a.t hw]
    simp only[xf2]
    obtain⟨g1,g2⟩:=zc1 (Fz.le_refl g') (Nat.le_refl _) (fun _ _=>rfl) a.t o.dst (a.len▸k.1) (.fr _ _ zdf)
    refine zja hd hbase hlo r _ vfl Ar _ fl h' g' σ' _ vh' ⟨g1,g2.trans a.len,a.s,a.le,a.agree,a.f,a.base,a.own⟩ f har (fun m hm=>?_) k.2
    simp only[zd2,List.mem_filter] at hm
    exact(hck m hm.1).put _ (fun _ _ hx=>hx) hm.2
   rename_i hw
   rw[zel (a.len▸hd) a.t hw]
   simp only[xf1]
   have hids:∀i∈hidI ms m vfl,∃x,vh'.get i=some x∧x.live=true:=fun i hi=>by
    obtain⟨p,hp,rfl,_⟩:=zxz hi
    exact(f.place p hp).2
   have hTn:(zcg base (fun i=>bm ms i m) fl h').next=(zcg base (fun _=>true) fl h').next:=by rw[zb2,zb2]
   have hdr:∀j x,(ze8 (hidI ms m vfl) vh').get j=some x→vh'.get j=some x∧j∉hidI ms m vfl:=fun j x hx=>let ⟨h1,h2⟩:=zq0 _ _ j x hx;⟨h2,h1⟩
   have sT:VS lo g' σ' (ze8 (hidI ms m vfl) vh') (zcg base (fun i=>bm ms i m) fl h'):=a.s.hide hTn (zf6 _ _) hdr fun o=>by
    rcases zy0 (ms:=ms) f m o with h|⟨i,hi,he⟩
    ·exact .inl h
    obtain⟨x,hx,hlx⟩:=hids i hi
    exact .inr ⟨i,x,hi,hx,hlx,he⟩
   have tT:VT g' σ' (ze8 (hidI ms m vfl) vh').next vts' ts':=by rw[zf6];exact a.t
   cases hW:W.contains m with
   |true=>
    rw[hW] at k
    simp only[xf1] at k ⊢
    intro ts1 hag
    refine(k lo g' σ' _ ts' tT a.len sT (by rw[zf6];exact Nat.le_refl _) (fun q hq=>?_) ts1 hag).mono fun ts2 h2 ⟨v',e,todo',hck',g2,σ2,vts2,vh2,c,k2⟩=>⟨v',e,?_⟩
    ·obtain⟨o2,d2,u,h1,c1,c2,c3,c4,c5⟩:=hck q hq
     obtain⟨_,e2⟩:=zcx c3 c5
     exact⟨o2,d2,u,_,c1,c2,c3,c4,e2 _ hTsub⟩
    have hfm:∀q∈fl.filter (fun p=>!bm ms p.1 m),q∈fl∧bm ms q.1 m=false:=fun q hq=>by
     obtain⟨h1,h2⟩:=List.mem_filter.1 hq
     exact⟨h1,by simpa using h2⟩
    have hag':∀i,i<vh'.next→σ2 i=σ' i:=c.agree
    have hfree:∀q∈fl,bm ms q.1 m=false→h2.get (base+q.1)=none∧base+q.1<h2.next:=fun q hq hb=>by
     have h1:=hl q hq
     have hT:(zcg base (fun i=>bm ms i m) fl h').get (base+q.1)=none:=by
      rw[zeu hl fun q' hq' hM he=>?_]
      ·exact(f.free q hq).1
      have:q'.1=q.1:=by omega
      rw[this,hb] at hM;cases hM
     refine⟨?_,Nat.lt_of_lt_of_le (by rw[zb2];exact h1) c.f.next⟩
     rw[c.f.pres _ (by rw[zb2];exact h1) fun i x hx hlx he=>?_]
     ·exact hT
     obtain⟨h2,h3⟩:=(sT.obj i x hx)
     have:∃y,(zcg base (fun i=>bm ms i m) fl h').get (σ' i).1=some y:=by
      cases x with
      |box cs=>obtain⟨s0,cs',q1,_⟩:=h3;exact⟨_,q1⟩
      |arr ag sz cs=>obtain⟨_,s0,cs',q1,_⟩:=h3;exact⟨_,q1⟩
      |map es=>obtain⟨es',q1,_⟩:=h3;exact⟨_,q1⟩
      |fmap es=>obtain⟨es',q1,_⟩:=h3;exact⟨_,q1⟩
      |fgrow es=>obtain⟨_,_,_,s0,cs',q1,_⟩:=h3;exact⟨_,q1⟩
      |emap es=>obtain⟨es',q1,_⟩:=h3;exact⟨_,q1⟩
      |loop=>obtain⟨L,q1,_⟩:=h3;exact⟨_,q1⟩
      |grow sz es=>
       obtain⟨_,_,_,hor⟩:=h3
       rcases hor with rfl|⟨s0,cs',q1,_⟩
       ·cases hlx
       exact⟨_,q1⟩
     obtain⟨y,hy⟩:=this
     rw[he,hT] at hy;cases hy
    have hlf:∀q∈fl.filter (fun p=>!bm ms p.1 m),base+q.1<h2.next:=fun q hq=>(hfree q (hfm q hq).1 (hfm q hq).2).2
    have ndf:((fl.filter (fun p=>!bm ms p.1 m)).map (·.1)).Nodup:=f.nd.sublist (List.filter_sublist.map _)
    refine zja hd hbase hlo r todo' (hidF ms m vfl) Ar _ _ h2 g2 σ2 vts2 _ (SimR.xbv a hTn (zf6 _ _) hdr hids (zy0 f m) c (zb2 _) (fun o=>?_) (zlj _ _ _) (zri _ _ _ fun i hi=>let ⟨x,hx,_⟩:=hids i hi;⟨x,hx⟩)) ⟨?_,ndf,fun p hp=>?_,fun q hq=>hfree q (hfm q hq).1 (hfm q hq).2⟩ (fun j hj=>?_) hck' k2
    ·by_cases hq:∃q∈fl,bm ms q.1 m=false∧base+q.1=o
     ·obtain⟨q,hq,hb,rfl⟩:=hq
      obtain⟨p,hp,hpq⟩:=z7z f.ms hq
      refine .inl ⟨p.2,z1h hp (hpq▸hb),by rw[(f.place p hp).1,hpq],?_⟩
      rw[zks (M:=fun _=>true) hl f.nd q hq rfl,zks (M:=fun _=>true) hlf ndf q (List.mem_filter.2 ⟨hq,by simp[hb]⟩) rfl]
     refine .inr ⟨fun i hi he=>?_,?_⟩
     ·obtain⟨p,hp,rfl,hb⟩:=zxz hi
      obtain⟨q,hq',hqp⟩:=z6y f.ms hp
      exact hq ⟨q,hq',by rw[hqp];exact hb,by rw[hqp,← he,(f.place p hp).1]⟩
     exact zeu hlf fun q hqm _ he=>hq ⟨q,(hfm q hqm).1,(hfm q hqm).2,he⟩
    ·have:∀(l:List (Nat×Nat)) (l2:List (Nat×AObj)),l.map (·.1)=l2.map (·.1)→(l.filter fun p=>!bm ms p.1 m).map (·.1)=(l2.filter fun p=>!bm ms p.1 m).map (·.1):=by
      intro l
      induction l with
      |nil=>intro l2 h;cases l2 with|nil=>rfl|cons=>simp at h
      |cons p l ih=>
       intro l2 h
       cases l2 with
       |nil=>simp at h
       |cons q l2=>
        simp only[List.map_cons,List.cons.injEq] at h
        simp only[List.filter_cons,h.1]
        cases bm ms q.1 m<;>simp[ih l2 h.2,h.1]
     exact this vfl fl f.ms
    ·obtain⟨h1,h2'⟩:=List.mem_filter.1 hp
     obtain⟨e1,x,e2,e3⟩:=f.place p h1
     have hmem:p.2∈hidI ms m vfl:=List.mem_map.2 ⟨p,hp,rfl⟩
     refine⟨by rw[hag' _ (a.s.obj p.2 x e2).1];exact e1,x,?_,e3⟩
     have:∀(l:List Nat),p.2∈l→(∀i∈l,∃x,vh'.get i=some x)→(zgd vh' l vh2).get p.2=some x:=by
      intro l
      induction l with
      |nil=>intro h;cases h
      |cons i l ih=>
       intro hm hex
       obtain⟨y,hy⟩:=hex i List.mem_cons_self
       simp only[zgd,hy,zab.zbw]
       by_cases hpi:p.2=i
       ·subst hpi;rw[e2] at hy;injection hy with hy;simp[hy]
       simp only[hpi,if_false]
       exact ih (by rcases List.mem_cons.1 hm with h|h;exact absurd h hpi;exact h) fun k hk=>hex k (List.mem_cons_of_mem _ hk)
     exact this _ hmem fun i hi=>let ⟨x,hx,_⟩:=hids i hi;⟨x,hx⟩
    obtain⟨h1,h3,h4⟩:=har j hj
    have hT:(zcg base (fun i=>bm ms i m) fl h').get (base+j)=none:=by
     rw[zeu hl fun q' hq' hM he=>?_]
     ·exact h1
     exact h4 (List.mem_map.2 ⟨q',hq',by omega⟩)
    refine⟨?_,Nat.lt_of_lt_of_le (by rw[zb2];exact h3) c.f.next,fun hm=>h4 ?_⟩
    ·rw[c.f.pres _ (by rw[zb2];exact h3) fun i x hx hlx he=>?_]
     ·exact hT
     obtain⟨h5,h6⟩:=(sT.obj i x hx)
     have:∃y,(zcg base (fun i=>bm ms i m) fl h').get (σ' i).1=some y:=by
      cases x with
      |box cs=>obtain⟨s0,cs',q1,_⟩:=h6;exact⟨_,q1⟩
      |arr ag sz cs=>obtain⟨_,s0,cs',q1,_⟩:=h6;exact⟨_,q1⟩
      |map es=>obtain⟨es',q1,_⟩:=h6;exact⟨_,q1⟩
      |fmap es=>obtain⟨es',q1,_⟩:=h6;exact⟨_,q1⟩
      |fgrow es=>obtain⟨_,_,_,s0,cs',q1,_⟩:=h6;exact⟨_,q1⟩
      |emap es=>obtain⟨es',q1,_⟩:=h6;exact⟨_,q1⟩
      |loop=>obtain⟨L,q1,_⟩:=h6;exact⟨_,q1⟩
      |grow sz es=>
       obtain⟨_,_,_,hor⟩:=h6
       rcases hor with rfl|⟨s0,cs',q1,_⟩
       ·cases hlx
       exact⟨_,q1⟩
     obtain⟨y,hy⟩:=this
     rw[he,hT] at hy;cases hy
    obtain⟨q,hq,rfl⟩:=List.mem_map.1 hm
    exact List.mem_map_of_mem (hfm q hq).1
   |false=>
    rw[hW] at k
    simp only[xf2] at k ⊢
    cases hA:Ar.contains m with
    |true=>
     rw[hA] at k
     simp only[xf1] at k
     obtain⟨kA,hdo,v,x,hv,k2⟩:=k
     rw[kA]
     simp only[xf1]
     have hmA:m∈Ar:=by simpa using hA
     obtain⟨r1,r2,r3⟩:=har m hmA
     obtain⟨v',y,e1,e2,e3⟩:=z2l a.t hv (base+m)
     refine⟨v',y,e1,?_⟩
     have hσ:∀i,i<vh'.next→(σ'.put vh'.next (base+m,0,0)) i=σ' i:=fun i hi=>Sg.zgm _ _ (by omega)
     have hnext:∀o,(zcg base (fun _=>true) ((m,y)::fl) h').get o=if o=base+m then some y else (zcg base (fun _=>true) fl h').get o:=fun o=>by
      show ((zcg base (fun _=>true) fl h').put (base+m) (some y)).get o=_
      rw[zaa.zap _ _ _ _ (by rw[zb2];exact r2)]
     have hHn:(zcg base (fun _=>true) fl h').get (base+m)=none:=by
      rw[zeu hl fun q hq _ he=>r3 (List.mem_map.2 ⟨q,hq,by omega⟩)];exact r1
     obtain⟨e4,e5⟩:=e3 (σ'.put vh'.next (base+m,0,0)) (zcg base (fun _=>true) ((m,y)::fl) h') (Sg.zae _ _ _) hσ (by rw[hnext];simp)
     have hno:∀i z,vh'.get i=some z→z.live=true→(σ' i).1≠base+m:=fun i z hz hlz he=>by
      obtain⟨h5,h6⟩:=a.s.obj i z hz
      have:∃y,(zcg base (fun _=>true) fl h').get (σ' i).1=some y:=by
       cases z with
       |box cs=>obtain⟨s0,cs',q1,_⟩:=h6;exact⟨_,q1⟩
       |arr ag sz cs=>obtain⟨_,s0,cs',q1,_⟩:=h6;exact⟨_,q1⟩
       |map es=>obtain⟨es',q1,_⟩:=h6;exact⟨_,q1⟩
       |fmap es=>obtain⟨es',q1,_⟩:=h6;exact⟨_,q1⟩
       |fgrow es=>obtain⟨_,_,_,s0,cs',q1,_⟩:=h6;exact⟨_,q1⟩
       |emap es=>obtain⟨es',q1,_⟩:=h6;exact⟨_,q1⟩
       |loop=>obtain⟨L,q1,_⟩:=h6;exact⟨_,q1⟩
       |grow sz es=>
        obtain⟨_,_,_,hor⟩:=h6
        rcases hor with rfl|⟨s0,cs',q1,_⟩
        ·cases hlz
        exact⟨_,q1⟩
      obtain⟨u,hu⟩:=this
      rw[he,hHn] at hu;cases hu
     have split:∀i z,(vh'.alloc x).get i=some z→(i=vh'.next∧z=x)∨(i<vh'.next∧vh'.get i=some z):=fun i z hz=>by
      rw[zab.zaj] at hz
      by_cases hi:i=vh'.next
      ·subst hi;simp at hz;exact .inl ⟨rfl,hz.symm⟩
      simp[hi] at hz;exact .inr ⟨(a.s.obj i z hz).1,hz⟩
     obtain⟨g1,g2⟩:=zc1 (Fz.le_refl g') (Nat.le_succ vh'.next) hσ a.t o.dst (a.len▸hdo) e4
     refine zja hd hbase hlo r _ _ _ _ ((m,y)::fl) h' g' _ _ (vh'.alloc x) ⟨g1,g2.trans a.len,⟨fun i z hz=>?_,fun i j z u hz hu hlz hlu he=>?_,fun i z hz hlz=>?_,fun o z hz=>?_,fun i z hz hlz=>?_,?_⟩,a.le,fun i hi=>(hσ i (Nat.lt_of_lt_of_le hi a.base)).trans (a.agree i hi),
      ⟨?_,fun o ho hno'=>?_,fun i z hz hlz hlt=>?_⟩,Nat.le_trans a.base (Nat.le_succ _),a.own⟩ ⟨by simp[f.ms],by rw[List.map_cons,List.nodup_cons];exact⟨r3,f.nd⟩,fun p hp=>?_,fun q hq=>?_⟩ (fun j hj=>?_) (fun q hq=>?_) k2
     ·rcases split i z hz with⟨rfl,rfl⟩|⟨hi,hz⟩
      ·exact⟨Nat.lt_succ_self _,e5⟩
      refine⟨Nat.lt_succ_of_lt hi,(a.s.obj i z hz).2.mono (Fz.le_refl g') (Nat.le_succ _) hσ hi fun hlz=>?_⟩
      rw[hnext,if_neg (hno i z hz hlz)]
     ·rcases split i z hz with⟨hi,_⟩|⟨hi,hz⟩<;>rcases split j u hu with⟨hj,_⟩|⟨hj,hu⟩
      ·rw[hi,hj]
      ·rw[hi,Sg.zae,hσ j hj] at he;exact absurd he.symm (hno j u hu hlu)
      ·rw[hj,Sg.zae,hσ i hi] at he;exact absurd he (hno i z hz hlz)
      rw[hσ i hi,hσ j hj] at he;exact a.s.inj i j z u hz hu hlz hlu he
     ·rcases split i z hz with⟨rfl,rfl⟩|⟨hi,hz⟩
      ·rw[Sg.zae];show lo≤base+m;omega
      rw[hσ i hi];exact a.s.low i z hz hlz
     ·rw[hnext,if_neg (by rintro rfl;have:=a.s.fz _ z hz;rw[hHn] at this;cases this)];exact a.s.fz o z hz
     ·rcases split i z hz with⟨rfl,rfl⟩|⟨hi,hz⟩
      ·rw[Sg.zae]
       cases hg:g' (base+m) with
       |none=>rfl
       |some w=>have:=a.s.fz _ w hg;rw[hHn] at this;cases this
      rw[hσ i hi];exact a.s.dis i z hz hlz
     ·have:=a.s.lole;rw[zb2] at this ⊢;exact this
     ·have:=a.f.next;rw[zb2] at this ⊢;exact this
     ·rw[hnext,if_neg (by omega)];exact a.f.pres o ho hno'
     ·rcases split i z hz with⟨rfl,rfl⟩|⟨hi,hz⟩
      ·rw[Sg.zae] at hlt;simp only at hlt;omega
      rw[hσ i hi] at hlt ⊢;exact a.f.own i z hz hlz hlt
     ·rcases List.mem_cons.1 hp with rfl|hp
      ·exact⟨by rw[Sg.zae],x,by rw[zab.zaj];simp,e2⟩
      obtain⟨q1,z,q2,q3⟩:=f.place p hp
      have hi:=(a.s.obj p.2 z q2).1
      exact⟨by rw[hσ _ hi];exact q1,z,by rw[zab.zaj,if_neg (by omega)];exact q2,q3⟩
     ·rcases List.mem_cons.1 hq with rfl|hq
      ·exact⟨r1,r2⟩
      exact f.free q hq
     ·obtain⟨h1,h2⟩:=List.mem_filter.1 hj
      have hjm:j≠m:=by simpa[beq_eq] using h2
      obtain⟨s1,s2,s3⟩:=har j h1
      exact⟨s1,s2,by simp only[List.map_cons,List.mem_cons,not_or];exact⟨hjm,s3⟩⟩
     simp only[zd2,List.mem_filter] at hq
     exact(hck q hq.1).put _ (fun _ _ hx=>hx) hq.2
    |false=>
     rw[hA] at k
     simp only[xf2] at k
     obtain⟨kA,hr,hdo,v,hv,k2⟩:=k
     rw[kA]
     simp only[xf2]
     obtain⟨v',h1,e1,σ2,e2,e3,e4,e5,e6⟩:=zh9 (lo:=lo) sT tT hv
     obtain⟨e7,_⟩:=zcx hr e1
     subst e7
     rw[zf6] at e6 e2
     have e2':VR g' σ' vh'.next v v':=e2.mono (Fz.le_refl g') (Nat.le_refl _) fun i hi=>(e6 i hi).symm
     obtain⟨g1,g2⟩:=zc1 (Fz.le_refl g') (Nat.le_refl _) (fun _ _=>rfl) a.t o.dst (a.len▸hdo) e2'
     refine⟨v',_,e1,zja hd hbase hlo r _ vfl Ar _ fl h' g' σ' _ vh' ⟨g1,g2.trans a.len,a.s,a.le,a.agree,a.f,a.base,a.own⟩ f har (fun m' hm=>?_) k2⟩
     have old:m'∈zd2 ops todo o.dst→CkF P lo ops (aput ts' o.dst v') h' m':=fun hm=>by
      simp only[zd2,List.mem_filter] at hm
      exact(hck m' hm.1).put _ (fun _ _ hx=>hx) hm.2
     cases hsf:(zff o&&vfl.isEmpty) with
     |false=>rw[hsf] at hm;exact old hm
     |true=>
      rw[hsf] at hm
      simp only[xf1,List.mem_cons] at hm
      rcases hm with rfl|hm
      ·rw[xf3] at hsf
       obtain⟨hsf,hem⟩:=hsf
       have hv0:vfl=[]:=by simpa using hem
       have hf0:fl=[]:=by have:=f.ms;rw[hv0] at this;simpa using this.symm
       subst hf0
       unfold zff at hsf
       cases hdd:o.dst with
       |none=>rw[hdd] at hsf;cases hsf
       |some d=>
        rw[hdd] at hsf
        have hlt:d<ts'.length:=by
         have:=a.len▸hdo
         rw[hdd] at this
         simpa[zb8] using this
        have:=CkF.new (P:=P) (lo:=lo) ho hdd hlt hr e1 hsf
        rwa [hdd] at this
      exact old hm
 |.ck m::r,todo,vfl,Ar,ts',fl,h',g',σ',vts',vh',a,f,har,hck,k=>by
  simp only[zen] at k
  have hl:∀q∈fl,base+q.1<h'.next:=fun q hq=>(f.free q hq).2
  have hTsub:h'.sub (zcg base (fun i=>bm ms i m) fl h'):=fun o x hx=>by
   rw[zeu hl fun q hq _ he=>by have:=(f.free q hq).1;rw[he,hx] at this;cases this];exact hx
  cases ho:ops[m]? with
  |none=>rw[ho] at k;exact k.elim
  |some o=>
   rw[ho] at k
   simp only at k
   obtain⟨k1,k2⟩:=k
   have rest:=zja hd hbase hlo r _ vfl Ar ts' fl h' g' σ' vts' vh' a f har hck k2
   rcases k1 with k1|⟨k1,hw⟩
   ·have hm:m∈todo:=by simpa using k1
    obtain⟨o',d,v,h1,c1,c2,c3,c4,c5⟩:=hck m hm
    rw[ho] at c1;injection c1 with c1;subst c1
    obtain⟨_,e2⟩:=zcx c3 c5
    exact⟨o,d,ho,c2,fun _=>⟨v,_,c4,e2 _ hTsub⟩,rest⟩
   cases hdd:o.dst with
   |none=>rw[hdd] at k1;cases k1
   |some d=>exact⟨o,d,ho,hdd,fun hwt=>(by rw[zel (a.len▸hd) a.t hw] at hwt;cases hwt),rest⟩
theorem VW.zmd {id:Nat}{Q:zdz}{vts:VTs}{vh:zab}{ms W As:List Nat}{items:List zd7}(hm:P.follows .mixedOrders=true)(hst:zkf ops ms W As=true)(hdec:zlx As=true)(hc:zfw ops ms W As [] W [] items=true)(hd:zji N ops=true)
  (hAs:As.all (Nat.blt · (nAof As ops.size))=true)
  (hs:zen P N b ops ms W As (Q .normal) items [] [] As vts vh):VW P N b (.region id ops true) Q vts vh:=fun lo g σ h ts ht hn s hb=>by
 refine .sched hm hst hdec hc ?_
 have hg:=zaa.zbi (nAof As ops.size) h
 have hnx:=zaa.zce (nAof As ops.size) h
 have s2:VS lo g σ vh (zaa.zba (nAof As ops.size) h):=⟨fun i x hx=>let ⟨k1,k2⟩:=s.obj i x hx;⟨k1,k2.mono (Fz.le_refl g) (Nat.le_refl _) (fun _ _=>rfl) k1 fun _=>hg _⟩,s.inj,s.low,fun o x hx=>by rw[hg];exact s.fz o x hx,s.dis,by rw[hnx];have:=s.lole;omega⟩
 refine zja (base:=h.next) (zgn hd) (Nat.le_refl _) s.lole items [] [] As ts [] _ g σ vts vh ⟨ht,hn,s2,Fz.le_refl g,fun _ _=>rfl,⟨by rw[zb2,hnx];omega,fun o _ _=>hg o,fun i x hx hl _=>⟨i,x,hx,hl,rfl⟩⟩,hb,GOwn.refl _ _ _ _⟩
  ⟨rfl,List.nodup_nil,fun p hp=>(by cases hp),fun q hq=>(by cases hq)⟩ (fun j hj=>?_) (fun m hm=>(by cases hm)) hs
 rw[List.all_eq_true] at hAs
 have hlt:j<nAof As ops.size:=by simpa using hAs j hj
 refine⟨?_,by rw[hnx];omega,by simp⟩
 rw[hg]
 cases hq:h.get (h.next+j) with
 |none=>rfl
 |some x=>have:=zaa.zal hq;omega
variable {vts:VTs} {todo:List Nat} {vfl:List (Nat×Nat)} {Ar:List Nat} {K:VTs→zab→Prop} {m:Nat} {r:List zd7} {o:Oper}
theorem zen.rd {v:PV}(ho:ops[m]?=some o)(hw:zbg ops o vts=some true)(hW:W.contains m=false)(hA:Ar.contains m=false)(hA2:As.contains m=false)(hr:isR o.op=true)(hd:zb8 N o.dst=true)
  (hv:vop P vts (ze8 (hidI ms m vfl) vh) o.op=some (v,ze8 (hidI ms m vfl) vh)) (hk:zen P N b ops ms W As K r (bif zff o&&vfl.isEmpty then m::zd2 ops todo o.dst else zd2 ops todo o.dst) vfl Ar (tput vts o.dst v) vh) :
  zen P N b ops ms W As K (.op m::r) todo vfl Ar vts vh:=by
 simp only[zen,ho,hw,hW,hA,xf2]
 exact⟨hA2,hr,hd,v,hv,hk⟩
theorem zen.al {v:PV}{x:VObj}(ho:ops[m]?=some o)(hw:zbg ops o vts=some true)(hW:W.contains m=false)(hA:Ar.contains m=true)(hA2:As.contains m=true)(hd:zb8 N o.dst=true)
  (hv:vopA P vts vh o.op=some (v,x)) (hk:zen P N b ops ms W As K r (zd2 ops todo o.dst) ((m,vh.next)::vfl) (Ar.filter fun k=>!Nat.beq k m) (tput vts o.dst v) (vh.alloc x)) :
  zen P N b ops ms W As K (.op m::r) todo vfl Ar vts vh:=by
 simp only[zen,ho,hw,hW,hA,xf2,xf1]
 exact⟨hA2,hd,v,x,hv,hk⟩
theorem zen.wr (ho:ops[m]?=some o)(hw:zbg ops o vts=some true)(hW:W.contains m=true)
  (hs:zb9 P N vh.next ops o todo (fun todo' vts2 vh2=>zen P N b ops ms W As K r todo' (hidF ms m vfl) Ar vts2 (zgd vh (hidI ms m vfl) vh2)) vts (ze8 (hidI ms m vfl) vh)) :
  zen P N b ops ms W As K (.op m::r) todo vfl Ar vts vh:=by
 simp only[zen,ho,hw,hW,xf1]
 exact hs
theorem zen.ck (ho:ops[m]?=some o)(hc:todo.contains m=true)(hk:zen P N b ops ms W As K r todo vfl Ar vts vh):zen P N b ops ms W As K (.ck m::r) todo vfl Ar vts vh:=by
 simp only[zen,ho]
 exact⟨.inl hc,hk⟩
theorem zen.done (hk:K vts vh):zen P N b ops ms W As K [] todo vfl Ar vts vh:=hk
end
end Go.Am
end
/-
 The value machine, part X: what is handed over to be written; what comes new; nil or not.
-/
section
namespace Go.Am
theorem Alt.ofEq {vh:zab}{n2:Nat}{D:Nat→Bool}{ρ:Nat→Nat}{v v2:PV}(hf:v.isF=true)(h:v=v2):Alt vh n2 D ρ v v2:=h▸.same v hf
theorem Alt.zn9 {vh:zab}{n2:Nat}{D:Nat→Bool}{ρ:Nat→Nat}{v2:PV}(h:v2=.vec []):Alt vh n2 D ρ .sl0 v2:=h▸.sl0v
theorem Alt.sl0E {vh:zab}{n2:Nat}{D:Nat→Bool}{ρ:Nat→Nat}(j n:Nat)(nl:Bool)(hn:n=0):Alt vh n2 D ρ .sl0 (.grow j n nl):=hn▸.sl0 j nl
section
variable {P:Program} {N b:Nat} {vts:VTs} {vh:zab}
theorem zds.nilQ {o:Oper}{t ek:TypeId}{x y:Operand}{next:VTs→zab→Prop}(ho:∃pos,o.op=.binOp .eql t x y pos)(ht:P.underlying t=some (.slice ek))(hx:za1 vts x=some (.vec []))(hy:za1 vts y=some .sl0)(hd:zb8 N o.dst=true)
  (hn:∀q:Bool,next (tput vts o.dst (.bool q)) vh):zds P N b o next vts vh:=fun lo g σ h ts hts hl s hb=>by
 obtain⟨pos,ho⟩:=ho
 obtain⟨x',k1,k2⟩:=zak hts hx
 obtain⟨y',k3,k4⟩:=zak hts hy
 have:=k4.isF rfl;cases this
 have hq:∃q:Bool,aeql P t x' (.slice none 0 0)=some q:=by
  have:=k2.isF rfl
  cases this with
  |vecN=>exact⟨true,by simp[aeql,ht]⟩
  |vec0=>exact⟨false,by simp[aeql,ht]⟩
  |vec _ o off k s0 sz cs'=>exact⟨false,by simp[aeql,ht]⟩
 obtain⟨q,hq⟩:=hq
 obtain⟨e1,_⟩:=zk9 (P:=P) hq (fun k x k' y hh=>by have:=hh.2;cases this) (fun x y hh=>by have:=hh.2;cases this)
 obtain⟨g1,g2⟩:=zc1 (Fz.le_refl g) (Nat.le_refl _) (fun _ _=>rfl) hts o.dst (hl▸hd) (.fr _ _ (.bool q):VR g σ vh.next (.bool q) (.bool q))
 refine .op (v:=.bool q) (h':=h) (by rw[ho];simp only[aop,k1,k3,e1,Option.map_some]) ?_
 exact⟨g,σ,_,vh,⟨g1,g2.trans hl,s,Fz.le_refl g,fun _ _=>rfl,VF.refl _ _ _,hb,GOwn.refl _ _ _ _⟩,hn q⟩
theorem zar.fresh {f:FuncId}{args es:List PV}{sz:Nat}(hp:zar P f args zab.empty fun v vh'=>∃i nl,v=.grow i es.length nl∧vh'.get i=some (.grow sz es))(hf:PV.allF args=true)(hne:0<es.length) :
  zar P f args vh fun v vh'=>v=.grow vh.next es.length false∧vh'=vh.alloc (.grow sz es):=fun lo g σ h args' ha s=>by
 have ha0:PRs (VR g σ zab.empty.next) args args':=(ha.isF hf).vr
 refine(hp lo g σ h args' ha0 (.none s.fz s.lole σ)).mono fun r h' ⟨g',σ',v,vh',h1,h2,h3,h4,h5,h6,h7,i,nl,h8,h9⟩=>?_
 subst h8
 have hkeep:∀o,o<h.next→h'.get o=h.get o:=fun o ho=>h5.pres o ho fun i x hx=>by cases hx
 have hlive:VObj.live (.grow sz es)=true:=by
  cases es with
  |nil=>simp at hne
  |cons=>rfl
 obtain⟨hi,hob⟩:=h2.obj i _ h9
 have hge:h.next≤(σ' i).1:=by
  rcases Nat.lt_or_ge (σ' i).1 h.next with hlt|hge
  ·obtain⟨j,y,hj,_⟩:=h5.own i _ h9 hlive hlt
   cases hj
  exact hge
 have hg:∀o x,g' o=some x→o<h.next→∃y,g o=some y:=fun o x hx ho=>by
  rcases h7 o x hx ho with h|⟨i,y,h,_⟩
  ·exact⟨_,h⟩
  cases h
 have hσ:∀j,j<vh.next→(σ.put vh.next (σ' i)) j=σ j:=fun j hj=>Sg.zgm _ _ (by omega)
 have split:∀j z,(vh.alloc (.grow sz es)).get j=some z→(j=vh.next∧z=.grow sz es)∨(j<vh.next∧vh.get j=some z):=fun j z hz=>by
  rw[zab.zaj] at hz
  by_cases hj:j=vh.next
  ·subst hj;simp at hz;exact .inl ⟨rfl,hz.symm⟩
  simp[hj] at hz;exact .inr ⟨(s.obj j z hz).1,hz⟩
 refine⟨g',σ.put vh.next (σ' i),.grow vh.next es.length false,vh.alloc (.grow sz es),?_,⟨fun j z hz=>?_,fun j k z u hz hu hlz hlu he=>?_,fun j z hz hlz=>?_,h2.fz,fun j z hz hlz=>?_,h2.lole⟩,h3,hσ,⟨h5.next,fun o ho _=>hkeep o ho,fun j z hz hlz hlt=>?_⟩,Nat.le_succ _,fun o x hx ho=>.inl (h7 o x hx ho |>.elim id fun⟨i,y,h,_⟩=>by cases h),rfl,rfl⟩
 ·generalize hm:es.length=m at h1 hne ⊢
  cases h1 with
  |fr _ _ h=>cases h
  |growN=>omega
  |grow0=>omega
  |grow _ _ o a k _ hi' hs hn=>exact .grow vh.next m o a k false (Nat.lt_succ_self _) (by rw[Sg.zae];exact hs) hn
 ·rcases split j z hz with⟨rfl,rfl⟩|⟨hj,hz⟩
  ·refine⟨Nat.lt_succ_self _,?_⟩
   obtain⟨q0,q1,q2,q3⟩:=hob
   refine⟨q0,q1,q2,q3.imp_right fun⟨s0,cs',k1,k2,k3,k4⟩=>⟨s0,cs',by rw[Sg.zae];exact k1,by rw[Sg.zae];exact k2,k3,by rw[Sg.zae];exact k4⟩⟩
  obtain⟨k1,k2⟩:=s.obj j z hz
  exact⟨Nat.lt_succ_of_lt hj,k2.mono h3 (Nat.le_succ _) hσ hj fun hlz=>hkeep _ (k2.lt hlz)⟩
 ·rcases split j z hz with⟨hj,_⟩|⟨hj,hz⟩<;>rcases split k u hu with⟨hk,_⟩|⟨hk,hu⟩
  ·rw[hj,hk]
  ·rw[hj,Sg.zae,hσ k hk] at he
   have:=(s.obj k u hu).2.lt hlu;omega
  ·rw[hk,Sg.zae,hσ j hj] at he
   have:=(s.obj j z hz).2.lt hlz;omega
  rw[hσ j hj,hσ k hk] at he;exact s.inj j k z u hz hu hlz hlu he
 ·rcases split j z hz with⟨rfl,rfl⟩|⟨hj,hz⟩
  ·rw[Sg.zae];exact h2.low i _ h9 hlive
  rw[hσ j hj];exact s.low j z hz hlz
 ·rcases split j z hz with⟨rfl,rfl⟩|⟨hj,hz⟩
  ·rw[Sg.zae];exact h2.dis i _ h9 hlive
  rw[hσ j hj]
  have hd:=s.dis j z hz hlz
  have hlt:=(s.obj j z hz).2.lt hlz
  cases hgo:g' (σ j).1 with
  |none=>rfl
  |some y=>
   obtain⟨w,hw⟩:=hg _ y hgo hlt
   rw[hd] at hw;cases hw
 rcases split j z hz with⟨rfl,rfl⟩|⟨hj,hz⟩
 ·rw[Sg.zae] at hlt;omega
 rw[hσ j hj] at hlt ⊢;exact⟨j,z,hz,hlz,rfl⟩
theorem zar.fresh' {f:FuncId}{args es:List PV}{sz n:Nat}(hn:es.length=n)(hp:zar P f args zab.empty fun v vh'=>∃i nl,v=.grow i n nl∧vh'.get i=some (.grow sz es))(hf:PV.allF args=true)(hne:0<n) :
  zar P f args vh fun v vh'=>v=.grow vh.next n false∧vh'=vh.alloc (.grow sz es):=by
 subst hn;exact zar.fresh hp hf hne
theorem zar.give {f:FuncId}{args args0:List PV}{R:PV→Prop}{i:Nat}{x x0:VObj}(hi:vh.get i=some x)(hl:x.live=true)(hx:AltO vh 1 (fun _=>false) (fun _=>i) x x0)
  (ha:AltL vh 1 (fun _=>false) (fun _=>i) args args0) (hp:zar P f args0 ⟨1,[(0,x0)]⟩ fun v _=>v.isF=true∧R v):zar P f args vh fun v vh'=>vh'=vh.drop i∧R v:=fun lo g σ h args' hargs s=>by
 have get0:∀j y,zab.get ⟨1,[(0,x0)]⟩ j=some y→j=0∧y=x0:=fun j y hy=>by
  simp only[zab.get,zbl,beq_eq] at hy
  by_cases hj:j=0
  ·subst hj;simp at hy;exact⟨rfl,hy.symm⟩
  simp[hj] at hy
 have a:AltS 0 (fun _=>false) (fun _=>i) [] vh [] ⟨1,[(0,x0)]⟩:=⟨fun t v2 hv=>by simp[tget] at hv,fun j y hy=>by
  obtain⟨rfl,rfl⟩:=get0 j y hy
  exact⟨Nat.lt_succ_self 0,.inr ⟨rfl,x,hi,hx⟩⟩,fun j k y z hy hz _ _ _=>by rw[(get0 j y hy).1,(get0 k z hz).1],fun j hj=>absurd hj (Nat.not_lt_zero j),Nat.zero_le _⟩
 have sr:=a.sim (N:=0) (ts:=[]) (lo:=lo) (g:=g) (σ:=σ) (h:=h) (fun t v hv=>by simp[tget] at hv) rfl s
 have hmore:g.more σ vh h (fun _=>false)=g:=funext fun o=>by
  unfold Fz.more
  rw[if_neg]
  rintro⟨_,_,h,_⟩;cases h
 have ha0:=AltL.ok s ha hargs
 have s0:=sr.s
 rw[hmore] at ha0 s0
 refine(hp lo g (fun _=>σ i) h args' ha0 s0).mono fun r h' ⟨g',σ',v,vh',h1,h2,h3,h4,h5,h6,h7,h8,h9⟩=>?_
 have hkeep:∀o,o<h.next→o≠(σ i).1→h'.get o=h.get o:=fun o ho hne=>h5.pres o ho fun j y hy _ he=>hne he.symm
 have hne:∀j y,(vh.drop i).get j=some y→y.live=true→(σ j).1≠(σ i).1:=fun j y hy hly he=>by
  obtain⟨k1,k2⟩:=za0 hy
  exact k1 (s.inj j i y x k2 hi hly hl he)
 refine⟨g',σ,v,vh.drop i,.fr _ _ (h1.isF h8),⟨fun j y hy=>?_,fun j k y z hy hz=>s.inj j k y z (za0 hy).2 (za0 hz).2,fun j y hy=>s.low j y (za0 hy).2,h2.fz,fun j y hy hly=>?_,h2.lole⟩,h3,fun _ _=>rfl,⟨h5.next,fun o ho hn=>hkeep o ho fun he=>hn i x hi hl he.symm,fun j y hy hly _=>⟨j,y,(za0 hy).2,hly,rfl⟩⟩,Nat.le_refl _,fun o z hz ho=>?_,rfl,h9⟩
 ·obtain⟨k1,k2⟩:=s.obj j y (za0 hy).2
  exact⟨k1,k2.mono h3 (Nat.le_refl _) (fun _ _=>rfl) k1 fun hly=>hkeep _ (k2.lt hly) (hne j y hy hly)⟩
 ·have hy2:=(za0 hy).2
  have hd:=s.dis j y hy2 hly
  have hlt:=(s.obj j y hy2).2.lt hly
  cases hgo:g' (σ j).1 with
  |none=>rfl
  |some z=>
   rcases h7 _ z hgo hlt with h10|⟨k,u,_,_,k3⟩
   ·rw[hd] at h10;cases h10
   exact absurd k3.symm (hne j y hy hly)
 rcases h7 o z hz ho with h10|⟨k,u,_,_,k3⟩
 ·exact .inl h10
 exact .inr ⟨i,x,hi,hl,k3⟩
theorem zar.ztu {f:FuncId}{fn:Func}{c:Code}{args:List PV}{R:PV→Prop}(hf:P.funcs[f]?=some fn)(hb:fn.body=some c)(hn:Nat.ble args.length fn.ntmps=true)
  (hc:VW P fn.ntmps vh.next c (retP P fn R) (zc5 0 args) vh):zar P f args vh fun v _=>v.isF=true∧R v:=by
 have h1:zar P f args vh fun v vh'=>∃v2,frz vh' v=some v2∧R v2:=by
  refine .zag hf hb hn (hc.mono fun e vts vh hq=>?_)
  cases e with
  |normal=>obtain⟨l,v,h1,h2,h3⟩:=hq;exact⟨l,h1,v,h2,h3⟩
  |ret=>obtain⟨l,v,h1,h2,h3⟩:=hq;exact⟨l,h1,v,h2,h3⟩
  |exit id=>exact hq.elim
  |goto l=>exact hq.elim
  |panic ch=>exact hq.elim
  |outgrown=>exact hq.elim
 intro lo g σ h args' ha s
 refine(h1 lo g σ h args' ha s).mono fun r h' ⟨g',σ',v,vh',k1,k2,k3,k4,k5,k6,k7,v2,k8,k9⟩=>?_
 have k10:=(zp4 vh' v v2 k8).ok k2 r k1
 have hF:v2.isF=true:=zsj vh' v v2 k8
 exact⟨_,σ',v2,⟨vh'.next,[]⟩,.fr _ _ (k10.isF hF),⟨fun i x hx=>(by cases hx),fun i j x y hx=>(by cases hx),fun i x hx=>(by cases hx),zmk (D:=fun _=>true) k2,fun i x hx=>(by cases hx),k2.lole⟩,Fz.le_trans k3 (zfl k2),k4,⟨k5.next,k5.pres,fun i x hx=>(by cases hx)⟩,k6,k7.trans k5 zpx,hF,k9⟩
def zjo (P:Program)(vts:VTs)(vh2:zab)(ops:Array Oper)(todo:List Nat):List Nat→Prop
 |[]=>True
 |m::r=>(todo.contains m=true∧∃om u,ops[m]?=some om∧vop P vts vh2 om.op=some (u,vh2))∧zjo P vts vh2 ops todo r
theorem zjo.mem {vts:VTs}{vh2:zab}{ops:Array Oper}{todo:List Nat}:∀ {l:List Nat},zjo P vts vh2 ops todo l→∀m∈l,m∈todo∧∃om u,ops[m]?=some om∧vop P vts vh2 om.op=some (u,vh2)
 |[],_,m,hm=>by cases hm
 |k::r,h,m,hm=>by
  rcases List.mem_cons.1 hm with rfl|hm
  ·exact⟨by simpa using h.1.1,h.1.2⟩
  exact zjo.mem h.2 m hm
theorem zvv {lo:Nat}{h h':zaa}{t:TypeId}{o off:Nat}{v:Value}(hs:zij P lo h t (.pointer (some ⟨o,off,none⟩)) v=some h'):∃z,h'=h.put o z:=by
 unfold zij at hs
 simp only at hs
 split at hs
 ·rename_i s cs n hg hn
  cases hb:(Nat.ble lo o&&Nat.beq v.cells.toList.length n&&v.cells.toList.all (·.oneCell')&&Nat.ble (off+n) cs.length) with
  |false=>rw[hb] at hs;cases hs
  |true=>rw[hb] at hs;simp only[xf1,xfy] at hs;exact⟨_,hs.symm⟩
 cases hs
theorem zb9.stor {ops:Array Oper}{o:Oper}{todo todo':List Nat}{next:List Nat→VTs→zab→Prop}{t:TypeId}{a x:Operand}{i off:Nat}{y0:VObj}{v:PV}{vh':zab}(ho:o.op=.store t a x)(hp:za1 vts a=some (.ptr i off))(hvi:vh.get i=some y0)(hl0:y0.live=true)
  (hv:Go.Am.vop P vts vh o.op=some (v,vh')) (hd:o.dst=none) (ht:zjo P vts (vh.drop i) ops todo todo') (hn:next todo' (tput vts o.dst v) vh'):zb9 P N b ops o todo next vts vh:=fun lo g σ h ts htv hl s hb hck ts1 hag=>by
 obtain⟨v',h',k1,σ',k2,k3,k4,k5,k6⟩:=zh9 (lo:=lo) s htv hv
 obtain⟨g1,g2⟩:=zc1 (Fz.le_refl g) k5 k6 htv o.dst (by rw[hd];simp[zb8]) k2
 refine .op (v:=v') (h':=h') (by rw[zeq (fun x hx=>hag.eval x hx)];exact k1) ⟨v',rfl,todo',fun m hm=>?_,g,σ',_,vh',⟨g1,g2.trans hl,k3,Fz.le_refl g,fun i hi=>k6 i (by omega),k4,by omega,GOwn.refl _ _ _ _⟩,hn⟩
 rw[hd]
 obtain⟨h1,om,u,h2,h3⟩:=ht.mem m hm
 obtain⟨o',d,w,h4,c1,c2,c3,c4,c5⟩:=hck m h1
 rw[h2] at c1;injection c1 with c1;subst c1
 obtain⟨sk,_⟩:=s.kill hvi hl0
 have hlt:=(s.obj i y0 hvi).2.lt hl0
 obtain⟨w',h5,e1,_⟩:=zh9 (lo:=lo) (vh:=vh.drop i) sk htv h3
 obtain⟨e2,e3⟩:=zcx c3 e1
 have sub:∀z,(h.put (σ i).1 none).sub (h.put (σ i).1 z):=fun z p q hq=>by
  rw[zaa.zap _ _ _ _ hlt] at hq ⊢
  by_cases hpi:p=(σ i).1
  ·simp[hpi] at hq
  simpa[hpi] using hq
 have sub0:(h.put (σ i).1 none).sub h:=fun p q hq=>by
  rw[zaa.zap _ _ _ _ hlt] at hq
  by_cases hpi:p=(σ i).1
  ·simp[hpi] at hq
  simpa[hpi] using hq
 have ew:w'=w:=by
  have:=e3 h sub0
  rw[c5] at this
  simp only[xfy,xfz] at this
  exact this.1.symm
 subst ew
 obtain⟨a',q1,q2⟩:=zak htv hp
 have hz:∃z,h'=h.put (σ i).1 z:=by
  rw[ho] at k1
  simp only[aop,q1] at k1
  cases q2 with
  |fr _ _ hh=>cases hh
  |ptr _ _ o2 a2 k2 hi2 hs2=>
   split at k1
   ·rename_i p2 v2 hp2 hv2
    injection hp2 with hp2;subst hp2
    obtain⟨h6,e5,e6⟩:=zaf k1
    simp only[xfz] at e6
    obtain⟨_,rfl⟩:=e6
    rw[hs2]
    exact zvv e5
   cases k1
 obtain⟨z,rfl⟩:=hz
 exact⟨om,d,w',_,h2,c2,c3,c4,e3 _ (sub z)⟩
end
end Go.Am
end
/-
  The value machine, part Y: where the branches of a statement meet again.
-/
section
namespace Go.Am
theorem VW.join {P:Program}{N b:Nat}{Q:zdz}{vts:VTs}{vh:zab}{x y:Code}{S:Type}(st:S→VTs×zab)(I:S→Prop)
  (hx:VW P N b x (zvw (fun vts' vh'=>∃s',I s'∧Rec b vts' vh' (st s').1 (st s').2) Q) vts vh) (hy:∀s,I s→VW P N b y Q (st s).1 (st s).2):VW P N b (.seq x y) Q vts vh:=
 .seq (hx.mono fun e vts vh hq=>by
  cases e with
  |normal=>obtain⟨s',k1,k2⟩:=hq;exact .rec k2 (hy s' k1)
  |exit id=>exact hq
  |goto l=>exact hq
  |ret=>exact hq
  |panic ch=>exact hq
  |outgrown=>exact hq)
section
variable {P:Program} {N b:Nat} {vts:VTs} {vh:zab}
end
end Go.Am
end
section
namespace Go.Am
open Go Go.Proofs
section
variable {P:Program} {N b:Nat} {vts:VTs} {vh:zab}
theorem VScr.td {P:Program}{N b:Nat}{vts:VTs}{vh:zab}{ops:Array Oper}{W todo todo':List Nat}{K:VTs→zab→Prop}{l:List zd7}(h:todo=todo')(hc:VScr P N b ops W K l todo' vts vh):VScr P N b ops W K l todo vts vh:=h▸hc
end
end Go.Am
end
/-
 The value machine: a call that looks at a box whose cells are objects too.
-/
section
namespace Go.Am
open Go
section
variable {P:Program} {N b:Nat} {vts:VTs} {vh:zab}
inductive Deep (vh:zab):PV→PV→Prop where
  |frz {v v2:PV} (h:frz vh v=some v2):Deep vh v v2
  |ptr {i off:Nat} {cs cs2:List PV} (hg:vh.get i=some (.box cs)) (hz:frzL vh cs=some cs2) (hle:Nat.ble off cs2.length=true):Deep vh (.ptr i off) (.vp (cs2.drop off))
def zoa (vh:zab):List PV→List PV→Prop
 |[],[]=>True
 |v::r,v2::r2=>Deep vh v v2∧zoa vh r r2
 |_,_=>False
theorem Deep.ok {lo:Nat}{g:Fz}{σ:Sg}{h:zaa}(s:VS lo g σ vh h){v v2:PV}(hd:Deep vh v v2){v':Value}(hv:VR g σ vh.next v v'):VR (g.more σ vh h fun _=>true) (fun j=>σ (id j)) 0 v2 v':=by
 cases hd with
 |frz hz=>exact(zp4 vh v v2 hz).ok s v' hv
 |ptr hg hz hle=>
  rename_i i off cs cs2
  have hmg:=zhl (g:=g) (σ:=σ) (h:=h) (D:=fun _=>true) rfl hg rfl
  obtain⟨s0,cs',h1,h2,h3⟩:=(s.obj i _ hg).2
  have h4:=(AltL.ok s (zhq vh cs cs2 hz) h3).isF (ziv vh cs cs2 hz)
  have hle2:off≤cs2.length:=by rw[Nat.ble_eq] at hle;exact hle
  cases hv with
  |fr _ _ h=>cases h
  |ptr _ _ o a k hi hs=>
   rw[hs] at h1 h2 hmg;simp only at h1 h2 hmg;subst h2
   exact .fr _ _ (ziw (by rw[hmg];exact h1) (by rw[h4.1];omega) (fun j v v' hv hv'=>h4.2 j v v' hv (by rw[Nat.zero_add] at hv';exact hv')) hle2)
theorem zoa.ok {lo:Nat}{g:Fz}{σ:Sg}{h:zaa}(s:VS lo g σ vh h):∀ {l l2:List PV},zoa vh l l2→∀ {l':List Value},PRs (VR g σ vh.next) l l'→PRs (VR (g.more σ vh h fun _=>true) (fun j=>σ (id j)) 0) l2 l'
 |[],[],_,l',hl=>by
  have:=hl.zbr;subst this
  exact⟨rfl,fun i v v' hv=>by simp at hv⟩
 |[],_::_,hd,_,_=>hd.elim
 |_::_,[],hd,_,_=>hd.elim
 |v::r,v2::r2,hd,l',hl=>by
  obtain⟨v',r',rfl,h1,h2⟩:=hl.zas
  have k1:=hd.1.ok s h1
  have k2:=zoa.ok s hd.2 h2
  refine⟨by simp[k2.1],fun i u u' hu hu'=>?_⟩
  cases i with
  |zero=>simp at hu hu';subst hu;subst hu';exact k1
  |succ i=>simp at hu hu';exact k2.2 i u u' hu hu'
theorem zao.zzp {f:FuncId}{args args2:List PV}{R:PV→Prop}(hp:zao P f args2 R)(ha2:zoa vh args args2)(hsc:∀v,R v→v.scal=true):zka P f args vh fun v vh'=>vh'=vh∧R v:=fun lo g σ h args' ha s=>by
 have ha0:=zoa.ok s ha2 ha
 have hfz:=zmk (D:=fun _=>true) s
 refine(hp lo (g.more σ vh h fun _=>true) (fun j=>σ (id j)) h args' ha0 (.none hfz s.lole _)).mono fun r h' ⟨g',σ',v,vh',h1,h2,h3,h4,h5,h6,h7,h8,h9⟩=>?_
 have hkeep:∀o,o<h.next→h'.get o=h.get o:=fun o ho=>h5.pres o ho fun i x hx=>by cases hx
 refine⟨zjq hkeep,g,σ,v,vh,.fr _ _ (zjn (h1.isF h8) (hsc v h9)),⟨fun i x hx=>?_,s.inj,s.low,fun o x hx=>?_,s.dis,h2.lole⟩,Fz.le_refl g,fun _ _=>rfl,⟨h5.next,fun o ho _=>hkeep o ho,fun i x hx hl _=>⟨i,x,hx,hl,rfl⟩⟩,Nat.le_refl _,GOwn.refl _ _ _ _,rfl,h9⟩
 ·obtain⟨k1,k2⟩:=s.obj i x hx
  exact⟨k1,k2.mono (Fz.le_refl g) (Nat.le_refl _) (fun _ _=>rfl) k1 fun hl=>hkeep _ (k2.lt hl)⟩
 have:=s.fz o x hx
 rw[hkeep o (zaa.zal this)];exact this
theorem zao.za2 {f:FuncId}{args args2:List PV}{R:PV→Prop}(hp:zao P f args2 R)(ha2:zoa vh args args2)(hsc:∀v,R v→v.scal=true):zar P f args vh fun v vh'=>vh'=vh∧R v:=(hp.zzp ha2 hsc).call
theorem zds.za2 {o:Oper}{next:VTs→zab→Prop}{fo:Operand}{args:Array Operand}{aT:Array TypeId}{f:FuncId}{xs ys l args2:List PV}{R:PV→Prop}(ho:o.op=.call ⟨.value fo,args,aT⟩)
  (hf:za1 vts fo=some (.func f xs ys)) (hl:zca vts args.toList=some l) (hcf:∀cs w,(callFunc f cs).run P w=.ok (.enter f cs) w) (hd:zb8 N o.dst=true)
  (hz:zoa vh (xs++l++ys) args2) (hp:zao P f args2 R) (hsc:∀v,R v→v.scal=true) (hn:∀r,R r→next (tput vts o.dst r) vh):zds P N b o next vts vh:=
 .call ho hf hl hcf hd ((hp.za2 hz hsc).mono fun r vh' ⟨h1,h2⟩=>h1▸hn r h2)
end
end Go.Am
end
/-
 The value machine: slices.Sort of a whole slice of a known length.
-/
section
namespace Go.Am
open Go
section
variable {P:Program} {vh:zab}
end
end Go.Am
end
/-
 The value machine, part Pc: calls that panic, and functions that recover.
-/
section
namespace Go.Am
def VPan (lo:Nat)(g:Fz)(σ:Sg)(vh:zab)(h:zaa)(X:zab→Prop)(h':zaa):Prop:=
 ∃g' σ' vh',VS lo g' σ' vh' h'∧g.le g'∧(∀i,i<vh.next→σ' i=σ i)∧VF σ vh h σ' vh' h'∧vh.next≤vh'.next∧GOwn g σ vh h g'∧X vh'
def zbh (P:Program)(f:FuncId)(args:List PV)(vh:zab)(pv:Value)(X:zab→Prop):Prop:=
 ∀lo g σ h args',PRs (VR g σ vh.next) args args'→VS lo g σ vh h→zmh P lo f args' h pv (VPan lo g σ vh h X)
def zc0 (P:Program)(N b:Nat)(o:Oper)(pv:Value)(X:zab→Prop)(vts:VTs)(vh:zab):Prop:=
 ∀lo g σ h ts,VT g σ vh.next vts ts→ts.length=N→VS lo g σ vh h→b≤vh.next→zhk P lo o ts h pv (VPan lo g σ vh h X)
section
variable {P:Program} {N b:Nat} {Q:zdz} {vts:VTs} {vh:zab} {pv:Value}
theorem VPan.mono {lo:Nat}{g:Fz}{σ:Sg}{h:zaa}{X X':zab→Prop}{h':zaa}(hx:∀vh,X vh→X' vh):VPan lo g σ vh h X h'→VPan lo g σ vh h X' h':=
 fun⟨g',σ',vh',h1,h2,h3,h4,h5,h6,h7⟩=>⟨g',σ',vh',h1,h2,h3,h4,h5,h6,hx _ h7⟩
theorem zbh.mono {f:FuncId}{args:List PV}{X X':zab→Prop}(hc:zbh P f args vh pv X)(hx:∀vh,X vh→X' vh):zbh P f args vh pv X':=
 fun lo g σ h args' ha s=>(hc lo g σ h args' ha s).mono fun _=>VPan.mono hx
theorem VPan.sim {lo:Nat}{g g':Fz}{σ σ':Sg}{h h' h2:zaa}{ts:Tmps}{vh':zab}{X:zab→Prop}{K:VTs→zab→Prop}(a:SimR N b lo g σ vh h ts h' g' σ' vts vh')(hp:VPan lo g' σ' vh' h' X h2)(hx:∀vh,X vh→K vts vh):Sim N b lo g σ vh h K ts h2:=by
 obtain⟨g2,σ2,vh2,s2,le2,ag2,f2,n2,o2,x2⟩:=hp
 exact⟨g2,σ2,vts,vh2,⟨a.t.mono le2 n2 ag2,a.len,s2,Fz.le_trans a.le le2,fun i hi=>(ag2 i (Nat.lt_of_lt_of_le hi a.base)).trans (a.agree i hi),a.f.trans f2,Nat.le_trans a.base n2,a.own.trans a.f o2⟩,hx _ x2⟩
theorem zc0.call {o:Oper}{fo:Operand}{args:Array Operand}{aT:Array TypeId}{f:FuncId}{xs ys l:List PV}{X:zab→Prop}(ho:o.op=.call ⟨.value fo,args,aT⟩)
  (hf:za1 vts fo=some (.func f xs ys)) (hl:zca vts args.toList=some l) (hcf:∀cs w,(callFunc f cs).run P w=.ok (.enter f cs) w) (hc:zbh P f (xs++l++ys) vh pv X):zc0 P N b o pv X vts vh:=fun lo g σ h ts ht hn s hb=>by
 obtain⟨f',k1,k2⟩:=zak ht hf
 obtain⟨l',k3,k4⟩:=zd6 ht hl
 obtain⟨xs',ys',rfl,hx,hy⟩:=zd9 k2
 exact .znr ho k1 k3 hcf (hc lo g σ h _ ((hx.append k4).append hy) s)
theorem zqm {lo:Nat}{g:Fz}{σ:Sg}{h:zaa}{o:Oper}{ts:Tmps}{h':zaa}(hk:Sim N b lo g σ vh h (fun vts vh=>zc0 P N b o pv (fun vh'=>Q (.panic (zd3 pv)) vts vh') vts vh) ts h') :
  zhk P lo o ts h' pv fun h2=>Sim N b lo g σ vh h (Q (.panic (zd3 pv))) ts h2:=by
 obtain⟨g',σ',vts',vh',a,k⟩:=hk
 exact(k lo g' σ' h' ts a.t a.len a.s a.base).mono fun h2 hp=>VPan.sim a hp fun _ x=>x
theorem VW.zfk {id k:Nat}{ops:Array Oper}{l:List Nat}{o:Oper}(hd:zji N ops=true)(hsz:List.range ops.size=l++[k])(hk:ops[k]?=some o)(hg:o.guard=none)
  (hc:VOps P N b ops (fun vts vh=>zc0 P N b o pv (fun vh'=>Q (.panic (zd3 pv)) vts vh') vts vh) l vts vh):VW P N b (.region id ops false) Q vts vh:=fun lo g σ h ts ht hn s hb=>
 .zfk (pv:=pv) hsz hk hg ((zh2 (zgn hd) l ts h g σ vts vh (.refl ht hn s hb) hc).mono fun _ _ hk=>zqm hk)
theorem Scr.mono {lo base:Nat}{ops:Array Oper}{ms W As:List Nat}{K K':Tmps→zaa→Prop}(hk:∀ts h,K ts h→K' ts h):∀ {items:List zd7} {ts:Tmps} {fl:List (Nat×AObj)} {h:zaa},Scr P lo ops base ms W As K items ts fl h→Scr P lo ops base ms W As K' items ts fl h
 |[],ts,fl,h,hs=>hk _ _ hs
 |.op m::r,ts,fl,h,hs=>by
  obtain⟨o,ho,hc⟩:=hs
  refine⟨o,ho,?_⟩
  cases hw:Region.wanted o (zaq ops ts) with
  |false=>rw[hw] at hc;exact Scr.mono hk hc
  |true=>
   rw[hw] at hc
   simp only[xf1] at hc ⊢
   cases hW:W.contains m with
   |true=>
    rw[hW] at hc
    exact fun ts1 hag=>(hc ts1 hag).mono fun ts' h' ⟨v,e,q⟩=>⟨v,e,Scr.mono hk q⟩
   |false=>
    rw[hW] at hc
    simp only[xf2] at hc ⊢
    cases hA:As.contains m with
    |true=>
     rw[hA] at hc
     obtain⟨v,x,h1,h2⟩:=hc
     exact⟨v,x,h1,Scr.mono hk h2⟩
    |false=>
     rw[hA] at hc
     obtain⟨v,x,h1,h2⟩:=hc
     exact⟨v,x,h1,Scr.mono hk h2⟩
 |.ck m::r,ts,fl,h,hs=>by
  obtain⟨o,d,h1,h2,h3,h4⟩:=hs
  exact⟨o,d,h1,h2,h3,Scr.mono hk h4⟩
theorem VW.z6h {id k:Nat}{ops ops0:Array Oper}{ms W As ms0 W0:List Nat}{items:List zd7}{o:Oper}(hm:P.follows .mixedOrders=true)(hst:zkf ops ms W As=true)(hst0:zkf ops0 ms0 W0 []=true)
  (hc:zfw ops0 ms0 W0 [] [] W0 [] items=true) (hl:z0a ops ops0 ms k=true) (hp:ops0.toList=ops.toList.take k) (ho:ops[k]?=some o) (hg:o.guard=none) (hd:zji N ops0=true)
  (hs:VScr P N b ops0 W0 (fun vts vh=>zc0 P N b o pv (fun vh'=>Q (.panic (zd3 pv)) vts vh') vts vh) items [] vts vh):VW P N b (.region id ops true) Q vts vh:=fun lo g σ h ts ht hn s hb=>
 .z9u (pv:=pv) hm hst hst0 rfl hc hl hp ho hg (Scr.mono (fun _ _ hk=>zqm hk) (zk4 (zgn hd) items [] ts h g σ vts vh (.refl ht hn s hb) (fun m hm=>(by cases hm)) hs))
def panV (pv:Value)(X:zab→Prop):zdz
 |.panic ch,_,vh=>ch=zd3 pv∧X vh
 |_,_,_=>False
theorem zkl {g:Fz}{σ:Sg}{n k:Nat}{args:List PV}{args':List Value}(ha:PRs (VR g σ n) args args'):VT g σ n (zc5 0 args) (args'++List.replicate (k - args'.length) Go.undef):=fun t v hv=>by
 rw[zhj] at hv
 simp at hv
 obtain⟨v',h1,h2⟩:=ha.get hv
 have hlt:t<args'.length:=by
  rcases Nat.lt_or_ge t args'.length with h|h
  ·exact h
  rw[List.getElem?_eq_none h] at h1;cases h1
 have:(args'++List.replicate (k - args'.length) Go.undef).getD t Go.undef=v':=by
  rw[List.getD,List.getElem?_append_left hlt,h1];rfl
 rw[this];exact h2
theorem zbh.zag {f:FuncId}{fn:Func}{c:Code}{args:List PV}{X:zab→Prop}(hf:P.funcs[f]?=some fn)(hb:fn.body=some c)(hn:Nat.ble args.length fn.ntmps=true)
  (hc:VW P fn.ntmps vh.next c (panV pv X) (zc5 0 args) vh):zbh P f args vh pv X:=fun lo g σ h args' ha s=>by
 have hn:args.length≤fn.ntmps:=by simpa using hn
 have hlen:(args'++List.replicate (fn.ntmps - args'.length) Go.undef).length=fn.ntmps:=by
  have:=ha.1;simp;omega
 refine .zag hf hb ((hc lo g σ h _ (zkl ha) hlen s (Nat.le_refl _)).mono fun e ts' h' ⟨g',σ',vts',vh',a,k⟩=>?_)
 cases e with
 |normal=>exact k.elim
 |ret=>exact k.elim
 |exit id=>exact k.elim
 |goto l=>exact k.elim
 |outgrown=>exact k.elim
 |panic ch=>exact⟨k.1,g',σ',vh',a.s,a.le,a.agree,a.f,a.base,a.own,k.2⟩
def zhz (P:Program)(f:FuncId)(args:List PV)(vh:zab)(pv:Value)(T:zab→Prop):Prop:=
 ∀lo g σ h args',PRs (VR g σ vh.next) args args'→VS lo g σ vh h→zmz P lo f args' h pv (VPan lo g σ vh h T)
def xeq (P:Program)(fn:Func)(R:PV→zab→Prop)(f:FuncId)(args:List PV)(pv:Value):zdz
 |.normal,vts,vh=>∃l,zbd P vts vh fn.results.toList=some l∧R (zbn l) vh
 |.ret,vts,vh=>∃l,zbd P vts vh fn.results.toList=some l∧R (zbn l) vh
 |.panic ch,vts,vh=>ch=zd3 pv∧zhz P f args vh pv fun vh'=>∃l,zbd P vts vh' fn.results.toList=some l∧R (zbn l) vh'
 |_,_,_=>False
def z3h (P:Program)(N b:Nat)(K:VTs→zab→Prop):List (Nat×Array Oper)→VTs→zab→Prop
 |[]=>K
 |(_,ops)::l=>VOps P N b ops (z3h P N b K l) (List.range ops.size)
theorem ztt {lo:Nat}{g:Fz}{σ:Sg}{h:zaa}{K:VTs→zab→Prop}:∀(pre:List (Nat×Array Oper)),(∀p∈pre,zji N p.2=true)→∀(ts':Tmps) (h':zaa),Sim N b lo g σ vh h (z3h P N b K pre) ts' h'→zj7 P lo (Sim N b lo g σ vh h K) pre ts' h'
 |[],_,ts',h',hs=>hs
 |(id,ops)::l,hd,ts',h',⟨g',σ',vts',vh',a,k⟩=>
  (zh2 (ops:=ops) (zgn (hd (id,ops) (by simp))) (List.range ops.size) ts' h' g' σ' vts' vh' a k).mono fun ts2 h2 hs=>ztt l (fun p hp=>hd p (List.mem_cons_of_mem _ hp)) ts2 h2 hs
theorem zj7.mono {lo:Nat}{K K':Tmps→zaa→Prop}(hk:∀ts h,K ts h→K' ts h):∀ {pre:List (Nat×Array Oper)} {ts:Tmps} {h:zaa},zj7 P lo K pre ts h→zj7 P lo K' pre ts h
 |[],_,_,hs=>hk _ _ hs
 |(_,_)::_,_,_,hs=>AOps.mono (fun _ _ h=>zj7.mono hk h) hs
theorem zar.zmg {f:FuncId}{fn:Func}{pre:List (Nat×Array Oper)}{id k:Nat}{ops:Array Oper}{l:List Nat}{od:Oper}{x:Operand}{aT:Array TypeId}{rest:Code}{args:List PV}{R:PV→zab→Prop}(hf:P.funcs[f]?=some fn)
  (hb:fn.body=some (preC pre (.seq (.region id ops false) rest))) (hsz:List.range ops.size=l++[k]) (hk:ops[k]?=some od) (hg:od.guard=none) (hd:od.op=.defer ⟨.value x,#[],aT⟩) (hn:Nat.ble args.length fn.ntmps=true)
  (hds:(ops::pre.map (·.2)).all (zji fn.ntmps)=true)
  (hc:z3h P fn.ntmps vh.next (VOps P fn.ntmps vh.next ops (fun vts vh1=>∃q first cap,za1 vts x=some (.func q first cap)∧zsg P q (first.length+cap.length)∧VW P fn.ntmps vh1.next rest (xeq P fn R q (first++cap) pv) (tput vts od.dst (.tup [])) vh1) l) pre (zc5 0 args) vh) :
  zar P f args vh R:=fun lo g σ h args' ha s=>by
 have hn:args.length≤fn.ntmps:=by simpa using hn
 have hlen:(args'++List.replicate (fn.ntmps - args'.length) Go.undef).length=fn.ntmps:=by
  have:=ha.1;simp;omega
 rw[List.all_eq_true] at hds
 have hdo:zb8 fn.ntmps od.dst=true:=by
  have:=hds ops (by simp)
  unfold zji at this
  rw[List.all_eq_true] at this
  exact this od (List.mem_of_getElem? (by rw[Array.getElem?_toList];exact hk))
 refine .zmg (pv:=pv) hf hb hsz hk hg hd (zj7.mono (fun ts1 h1 hs1=>?_) (ztt pre (fun p hp=>hds _ (by simp;exact .inr ⟨p.1,hp⟩)) _ h ⟨g,σ,_,vh,.refl (zkl ha) hlen s (Nat.le_refl _),hc⟩))
 obtain⟨g1,σ1,vts1,vh1,a1,k1⟩:=hs1
 refine(zh2 (zgn (hds ops (by simp))) l ts1 h1 g1 σ1 vts1 vh1 a1 k1).mono fun ts2 h2 ⟨g2,σ2,vts2,vh2,a2,q,first,cap,e1,e2,e3⟩=>?_
 obtain⟨f',w1,w2⟩:=zak a2.t e1
 obtain⟨xs',ys',rfl,hx,hy⟩:=zd9 w2
 have l1:first.length=xs'.size:=by have:=hx.1;simpa using this
 have l2:cap.length=ys'.size:=by have:=hy.1;simpa using this
 refine⟨q,xs',ys',w1,by rw[← l1,← l2];exact e2,?_⟩
 obtain⟨t1,t2⟩:=zc1 (Fz.le_refl g2) (Nat.le_refl _) (fun _ _=>rfl) a2.t od.dst (a2.len▸hdo) (.fr _ _ zdf)
 have a3:SimR fn.ntmps vh.next lo g σ vh h (aput ts2 od.dst Go.undef) h2 g2 σ2 (tput vts2 od.dst (.tup [])) vh2:=⟨t1,t2.trans a2.len,a2.s,a2.le,a2.agree,a2.f,a2.base,a2.own⟩
 refine(e3 lo g2 σ2 h2 _ t1 (t2.trans a2.len) a2.s (Nat.le_refl _)).mono fun e ts' h' ⟨g',σ',vts',vh',a,k⟩=>?_
 have a4:SimR fn.ntmps vh.next lo g σ vh h ts' h' g' σ' vts' vh':=a3.trans ⟨a.t,a.len,a.s,a.le,fun i hi=>a.agree i (Nat.lt_of_lt_of_le hi a2.base),a.f,Nat.le_trans a2.base a.base,a.own⟩
 have fin:(∃l,zbd P vts' vh' fn.results.toList=some l∧R (zbn l) vh')→∃l',zbv P ts' h' fn.results.toList=some l'∧∃g' σ' v vh',VR g' σ' vh'.next v (zb1 l')∧VS lo g' σ' vh' h'∧g.le g'∧(∀i,i<vh.next→σ' i=σ i)∧VF σ vh h σ' vh' h'∧vh.next≤vh'.next∧
   GOwn g σ vh h g'∧R v vh':=fun⟨l,hl,hR⟩=>by
  obtain⟨l',k1,k2⟩:=zgf a4.t a4.s hl
  exact⟨l',k1,g',σ',zbn l,vh',zjy k2,a4.s,a4.le,a4.agree,a4.f,a4.base,a4.own,hR⟩
 cases e with
 |normal=>exact fin k
 |ret=>exact fin k
 |exit id=>exact k.elim
 |goto l=>exact k.elim
 |outgrown=>exact k.elim
 |panic ch=>
  obtain⟨k1,k2⟩:=k
  refine⟨k1,?_⟩
  have hargs:PRs (VR g' σ' vh'.next) (first++cap) (xs'.toList++ys'.toList):=(hx.append hy).mono fun v v' hv=>hv.mono a.le a.base a.agree
  refine(k2 lo g' σ' h' _ hargs a4.s).mono fun h3 ⟨g3,σ3,vh3,s3,le3,ag3,f3,n3,o3,l,hl,hR⟩=>?_
  have a5:SimR fn.ntmps vh.next lo g σ vh h ts' h3 g3 σ3 vts' vh3:=⟨a4.t.mono le3 n3 ag3,a4.len,s3,Fz.le_trans a4.le le3,fun i hi=>(ag3 i (Nat.lt_of_lt_of_le hi a4.base)).trans (a4.agree i hi),a4.f.trans f3,Nat.le_trans a4.base n3,a4.own.trans a4.f o3⟩
  obtain⟨l',w1,w2⟩:=zgf a5.t a5.s hl
  exact⟨l',w1,g3,σ3,zbn l,vh3,zjy w2,a5.s,a5.le,a5.agree,a5.f,a5.base,a5.own,hR⟩
end
end Go.Am
end
/-
 The value machine, part Pd: maps whose values speak of objects; the body of a function that recovers.
-/
section
namespace Go.Am
theorem zmf {g:Fz}{R:PV→Value→Prop}{kd:IntKind}{n:Int}:∀ {es:List (PV×PV)} {es':List (Value×Value)} {r:Option PV},PRs (FR g) (es.map (·.1)) (es'.map (·.1))→PRs R (es.map (·.2)) (es'.map (·.2))→zgy kd n es=some r→
  ∃r',zj5 kd n es'=some r'∧ORel R r r'
 |[],es',r,hk,hv,hr=>by
  simp only[zgy,xfy] at hr;subst hr
  cases es' with
  |nil=>exact⟨none,rfl,trivial⟩
  |cons=>have:=hk.1;simp at this
 |(k,v)::es,es',r,hk,hv,hr=>by
  cases es' with
  |nil=>have:=hk.1;simp at this
  |cons q es'=>
   obtain⟨k',v'⟩:=q
   obtain⟨k1,l1,e1,hk1,hk2⟩:=hk.zas
   simp only[List.map_cons,List.cons.injEq] at e1;obtain⟨rfl,rfl⟩:=e1
   obtain⟨k1,l1,e1,hv1,hv2⟩:=hv.zas
   simp only[List.map_cons,List.cons.injEq] at e1;obtain⟨rfl,rfl⟩:=e1
   cases k with
   |int kk a=>
    cases hk1
    simp only[zgy] at hr
    simp only[zj5]
    cases hkk:decide (kk=kd) with
    |false=>rw[hkk] at hr;cases hr
    |true=>
     rw[hkk] at hr;simp only[xf1] at hr ⊢
     split at hr
     ·cases hr
     rename_i q hq
     injection hr with hr;subst hr
     obtain⟨r',g1,g2⟩:=zmf hk2 hv2 hq
     refine⟨_,by rw[g1],?_⟩
     cases decide (a=n) with
     |true=>exact hv1
     |false=>exact g2
   |_=>simp[zgy] at hr
section
variable {P:Program} {N b:Nat} {vts:VTs} {vh:zab}
def VObj.ents:VObj→Option (List (PV×PV))
 |.map []=>some []
 |.fmap es=>some es
 |_=>none
theorem zds.zec {o:Oper}{t:TypeId}{m k x:Operand}{i:Nat}{n:Int}{kd:IntKind}{es:List (PV×PV)}{y:VObj}{v:PV}{next:VTs→zab→Prop}(ho:o.op=.insert t m k x)(htk:(tkey P t).isSome=true)
  (hm:za1 vts m=some (.mapv i)) (hk:za1 vts k=some (.int kd n)) (hv:za1 vts x=some v) (hg:vh.get i=some y) (he:y.ents=some es) (hq:zgy kd n es=some none) (hd:zb8 N o.dst=true)
  (hn:next (tput vts o.dst (.tup [])) (vh.put i (.fmap (es++[(.int kd n,v)])))):zds P N b o next vts vh:=fun lo g σ h ts ht hl s hb=>by
 obtain⟨m',m1,m2⟩:=zak ht hm
 obtain⟨k',k1,k2⟩:=zak ht hk
 obtain⟨v',v1,v2⟩:=zak ht hv
 have:=k2.isF rfl;cases this
 cases m2 with
 |fr _ _ h=>cases h
 |mapv _ ob a kk hi hs=>
  have hx:y.live=true∧∃es',h.get ob=some (.map es')∧a=0∧PRs (FR g) (es.map (·.1)) (es'.map (·.1))∧PRs (VR g σ vh.next) (es.map (·.2)) (es'.map (·.2)):=by
   have ho:=(s.obj i _ hg).2
   cases y with
   |map es0=>
    cases es0 with
    |cons=>cases he
    |nil=>
     injection he with he;subst he
     obtain⟨es',h1,h2,h3,h4⟩:=ho
     rw[hs] at h1 h2
     have:es'=[]:=List.length_eq_zero_iff.1 (by have:=h3.1;simp at this;exact this.symm)
     subst this
     exact⟨rfl,[],h1,h2,.nil,.nil⟩
   |fmap es0=>
    injection he with he;subst he
    obtain⟨es',h1,h2,h3,h4⟩:=ho
    rw[hs] at h1 h2
    exact⟨rfl,es',h1,h2,h3,h4⟩
   |_=>cases he
  obtain⟨hlive,es',h1,h2,h3,h4⟩:=hx
  obtain⟨q',q1,q2⟩:=zmf h3 h4 hq
  cases q' with
  |some=>exact q2.elim
  |none=>
   have hlow:=s.low i _ hg hlive
   have hlt:ob<h.next:=zaa.zal h1
   have h5:=s.write hg hlive (x':=.fmap (es++[(.int kd n,v)])) (.map (es'++[(.int kd n,v')])) ⟨es'++[(.int kd n,v')],by rw[zaa.zap _ _ _ _ (by rw[hs];exact hlt),if_pos rfl],by rw[hs];exact h2,by
    simp only[List.map_append,List.map_cons,List.map_nil];exact h3.append (.cons (.int _ _) .nil),by
    simp only[List.map_append,List.map_cons,List.map_nil];exact h4.append (.cons v2 .nil)⟩
   rw[hs] at hlow h5;simp only at hlow h5
   have hlow':Nat.ble lo ob=true:=by rw[Nat.ble_eq];exact hlow
   obtain⟨tk,htk⟩:=Option.isSome_iff_exists.1 htk
   refine .op (v:=Go.undef) (h':=h.put ob (some (.map (es'++[(.int kd n,v')])))) ?_ ?_
   ·rw[ho]
    simp only[aop,m1,k1,v1,znv,zek,htk,h1,hlow',xf1,q1,Option.map_some]
   obtain⟨g1,g2⟩:=zc1 (Fz.le_refl g) (Nat.le_refl _) (fun _ _=>rfl) ht o.dst (hl▸hd) (.fr _ _ zdf)
   exact⟨g,σ,_,vh.put i (.fmap (es++[(.int kd n,v)])),⟨g1,g2.trans hl,h5.1,Fz.le_refl g,fun _ _=>rfl,h5.2,hb,GOwn.refl _ _ _ _⟩,hn⟩
theorem zds.zwo {o:Oper}{t:TypeId}{m k:Operand}{i:Nat}{n:Int}{kd:IntKind}{kt e:TypeId}{es:List (PV×PV)}{v:PV}{next:VTs→zab→Prop}(ho:o.op=.lookup t m k false)(htk:tkey P t=some (kt,e))(hz:(zbu P e).isSome=true)
  (hm:za1 vts m=some (.mapv i)) (hk:za1 vts k=some (.int kd n)) (hg:vh.get i=some (.fmap es)) (hq:zgy kd n es=some (some v)) (hd:zb8 N o.dst=true)
  (hn:next (tput vts o.dst v) vh):zds P N b o next vts vh:=fun lo g σ h ts ht hl s hb=>by
 obtain⟨m',m1,m2⟩:=zak ht hm
 obtain⟨k',k1,k2⟩:=zak ht hk
 have:=k2.isF rfl;cases this
 cases m2 with
 |fr _ _ h=>cases h
 |mapv _ ob a kk hi hs=>
  obtain⟨es',h1,h2,h3,h4⟩:=(s.obj i _ hg).2
  rw[hs] at h1 h2
  obtain⟨q',q1,q2⟩:=zmf h3 h4 hq
  cases q' with
  |none=>exact q2.elim
  |some v'=>
   obtain⟨z,hz⟩:=Option.isSome_iff_exists.1 hz
   refine .op (v:=v') (h':=h) ?_ ?_
   ·rw[ho]
    simp only[aop,m1,k1,zmq,zez,htk,hz,h1,q1,Option.map_some,xf2]
   obtain⟨g1,g2⟩:=zc1 (Fz.le_refl g) (Nat.le_refl _) (fun _ _=>rfl) ht o.dst (hl▸hd) q2
   exact⟨g,σ,_,_,⟨g1,g2.trans hl,s,Fz.le_refl g,fun _ _=>rfl,VF.refl _ _ _,hb,GOwn.refl _ _ _ _⟩,hn⟩
end
end Go.Am
end
/-
 The value machine, part Pe: the body of a function that recovers.
-/
section
namespace Go.Am
def AW0 (P:Program)(lo:Nat)(c:Code)(Q:zdy)(ts:Tmps)(h:zaa):Prop:=
 ∀F,Wide F→∀n μ a w,RelT μ ts a.tmps→Rel μ lo h w→c.wpIn F n P (Lift lo μ h w a.defers Q) a w
section
variable {P:Program} {lo:Nat} {Q:zdy} {ts:Tmps} {h:zaa} {pv:Value}
theorem AW0.skip (hq:Q .normal ts h):AW0 P lo .skip Q ts h:=fun _ _ _ _ _ _ ht r=>wpIn_skip (Lift.refl ht r hq)
theorem AW0.mono {Q':zdy}{c:Code}(hc:AW0 P lo c Q ts h)(hq:∀e ts h,Q e ts h→Q' e ts h):AW0 P lo c Q' ts h:=
 fun F hF n μ a w ht r=>wpIn_mono (hc F hF n μ a w ht r) fun _ _ _ hl=>hl.mono (hq _)
theorem AW0.seq {x y:Code}(hx:AW0 P lo x (zkm (AW0 P lo y Q) Q) ts h):AW0 P lo (.seq x y) Q ts h:=by
 intro F hF n μ a w ht r
 refine wpIn_seq (wpIn_mono (hx F hF n μ a w ht r) fun e a' w' hl=>?_)
 obtain⟨ts',h',μ',h2,h3,h4,h5,h7⟩:=hl
 cases e with
 |normal=>
  have:=h7 F hF n μ' a' w' h2 h3
  rw[h5] at this
  exact wpIn_mono this fun _ _ _ hl=>hl.trans h4
 |exit id=>exact⟨ts',h',μ',h2,h3,h4,h5,h7⟩
 |goto l=>exact⟨ts',h',μ',h2,h3,h4,h5,h7⟩
 |ret=>exact⟨ts',h',μ',h2,h3,h4,h5,h7⟩
 |panic ch=>exact⟨ts',h',μ',h2,h3,h4,h5,h7⟩
 |outgrown=>exact⟨ts',h',μ',h2,h3,h4,h5,h7⟩
theorem AW0.cond {c:Operand}{x y:Code}{b:Bool}(hc:zav ts c=some (.bool b))(hb:AW0 P lo (if b then x else y) Q ts h):AW0 P lo (.cond c x y) Q ts h:=by
 intro F hF n μ a w ht r
 have hr:=zam ht hc
 generalize he:a.eval c=v at hr
 cases hr
 exact wpIn_cond he (hb F hF n μ a w ht r)
theorem AW0.region {id:Nat}{ops:Array Oper}(hk:AOps P lo ops (Q .normal) (List.range ops.size) ts h):AW0 P lo (.region id ops false) Q ts h:=
 fun _ hF _ μ a w ht r=>wpIn_region (zj3 hF _ ts h μ h w μ a w ht r (Frame.refl _ _ _ _) hk)
theorem zee.val {o:Oper}{v:Value}{next:Tmps→zaa→Prop}(hnd:∀c,o.op≠.defer c)(hr:∀(μ:Mu) (a:Act) (w:World),RelT μ ts a.tmps→Rel μ lo h w→∃v',(execOp a.eval o).run P w=.ok (.value v') w∧RelV μ v v')
  (hn:next (aput ts o.dst v) h):zee P lo o ts h next:=by
 intro F hF n μ a w Q ht r
 refine⟨za8 F hF,?_⟩
 rw[Oper.semAt_eq _ _ _ hnd]
 obtain⟨v',h1,h2⟩:=hr μ a w ht r
 rw[h1]
 exact⟨_,h,μ,zci ht h2 o.dst,r,Frame.refl _ _ _ _,put_defers _ _ _,hn⟩
def rec0 (P:Program)(fn:Func)(T:zaa→Prop):zdy
 |.normal,ts,h=>(∃l,zbv P ts h fn.results.toList=some l)∧T h
 |.ret,ts,h=>(∃l,zbv P ts h fn.results.toList=some l)∧T h
 |_,_,_=>False
theorem zmz.zag {f:FuncId}{fn:Func}{id d1 d2:Nat}{ops:Array Oper}{o1 o2:Oper}{aT:Array TypeId}{rest:Code}{args:List Value}{T:zaa→Prop}(hf:P.funcs[f]?=some fn)(hb:fn.body=some (.seq (.region id ops false) rest))
  (hops:ops=#[o1,o2]) (h1:o1.op=.call ⟨.builtin .recover,#[],aT⟩) (g1:o1.guard=none) (e1:o1.dst=some d1) (h2:o2.op=.assign (.tmp d1)) (g2:o2.guard=none) (e2:o2.dst=some d2)
  (hlt:d1<fn.ntmps) (hpv:∀μ,RelV μ pv pv)
  (hc:AW0 P lo rest (rec0 P fn T) (aput (aput (args++List.replicate (fn.ntmps - args.length) Go.undef) (some d1) pv) (some d2) pv) h):zmz P lo f args h pv T:=by
 intro F hF hro n μ w cargs ha r
 have ht:RelT μ (args++List.replicate (fn.ntmps - args.length) Go.undef) (cargs++Array.replicate (fn.ntmps - cargs.size) Go.undef):=zme ha
 refine callsDIn_of_wpSIn hf hb (hF.fn f) fun c₀ cs hu=>?_
 apply wpSIn_seq
 apply wpSIn_region
 subst hops
 have hsz:(#[o1,o2]:Array Oper).size=2:=rfl
 rw[hsz]
 have hr2:List.range 2=[0,1]:=rfl
 rw[hr2]
 generalize ha0:({ tmps:=cargs++Array.replicate (fn.ntmps - cargs.size) Go.undef,defers:=[] }:Act)=a0
 have ht0:RelT μ (args++List.replicate (fn.ntmps - args.length) Go.undef) a0.tmps:=by rw[← ha0];exact ht
 have hd0:a0.defers=[]:=by rw[← ha0]
 have hsize:fn.ntmps≤a0.tmps.size:=by rw[← ha0];simp;omega
 have w1:Region.wanted o1 (yielded #[o1,o2] a0.tmps)=true:=by unfold Region.wanted;rw[g1]
 have r1:(execOp a0.eval o1).run P w=.ok .recover w:=by
  simp[execOp,h1,resolve,invoke,go_sem]
 have hrec:recoverD (c₀::cs)=some (pv,{ c₀ with mode:=.panicking [{ v:=pv,recovered:=true }] }::cs):=by
  simp[recoverD,hu,zd3]
 have w2:Region.wanted o2 (yielded #[o1,o2] (a0.put (some d1) pv).tmps)=true:=by unfold Region.wanted;rw[g2]
 have hev:(a0.put (some d1) pv).eval (.tmp d1)=pv:=by
  simp[Act.eval,Act.put,Array.getD,Nat.lt_of_lt_of_le hlt hsize]
 have r2:(execOp (a0.put (some d1) pv).eval o2).run P w=.ok (.value pv) w:=by
  simp only[execOp,h2,hev]
  simp[go_sem]
 have i0:(#[o1,o2]:Array Oper)[0]?=some o1:=rfl
 have i1:(#[o1,o2]:Array Oper)[1]?=some o2:=rfl
 simp only[wpOpsSIn,i0,i1,w1,if_true,r1,hrec,e1]
 refine⟨za8 F hF,za8 F hF,?_⟩
 simp only[w2,if_true,r2,e2]
 show rest.wpSIn F n P _ _ _ _
 apply wpSIn_of_wpIn hro
 have ht2:RelT μ (aput (aput (args++List.replicate (fn.ntmps - args.length) Go.undef) (some d1) pv) (some d2) pv) ((a0.put (some d1) pv).put (some d2) pv).tmps:=zci (zci ht0 (hpv μ) (some d1)) (hpv μ) (some d2)
 refine wpIn_mono (hc F hF n μ _ w ht2 r) fun e a' w' hl=>?_
 obtain⟨ts',h',μ',k2,k3,k4,k5,k6⟩:=hl
 have hds:a'.defers=[]:=by rw[k5,put_defers,put_defers,hd0]
 have fin:(∃l,zbv P ts' h' fn.results.toList=some l)∧T h'→a'.defers=[]∧∃u',({ c₀ with mode:=.panicking [{ v:=pv,recovered:=true }] }:Go.Frame)::cs={ c₀ with mode:=u' }::cs∧∃v,(results fn a'.tmps).run P w'=.ok v w'∧
   ((∃v0,Ending.returned v=.returned v0)∧u'=.panicking [{ v:=pv,recovered:=true }]∧∃h' μ',Rel μ' lo h' w'∧Frame lo μ h w μ' h' w'∧T h'):=by
  rintro⟨⟨l,hl⟩,hT⟩
  obtain⟨v,q1,q2⟩:=zhd (P:=P) k2 k3 hl
  exact⟨hds,_,rfl,v,q1,⟨v,rfl⟩,rfl,h',μ',k3,k4,hT⟩
 cases e with
 |normal=>exact fin k6
 |ret=>exact fin k6
 |exit id=>exact k6.elim
 |goto l=>exact k6.elim
 |panic ch=>exact k6.elim
 |outgrown=>exact k6.elim
end
def VW0 (P:Program)(N b:Nat)(c:Code)(Q:zdz)(vts:VTs)(vh:zab):Prop:=
 ∀lo g σ h ts,VT g σ vh.next vts ts→ts.length=N→VS lo g σ vh h→b≤vh.next→AW0 P lo c (fun e=>Sim N b lo g σ vh h (Q e)) ts h
section
variable {P:Program} {N b:Nat} {Q:zdz} {vts:VTs} {vh:zab} {pv:Value}
theorem VW0.skip (hq:Q .normal vts vh):VW0 P N b .skip Q vts vh:=fun lo g σ h ts ht hn s hb=>.skip ⟨g,σ,vts,vh,.refl ht hn s hb,hq⟩
theorem VW0.seq {x y:Code}(hx:VW0 P N b x (zvw (VW0 P N b y Q) Q) vts vh):VW0 P N b (.seq x y) Q vts vh:=fun lo g σ h ts ht hn s hb=>
 .seq ((hx lo g σ h ts ht hn s hb).mono fun e ts' h' ⟨g',σ',vts',vh',a,k⟩=>by
  cases e with
  |normal=>exact(k lo g' σ' h' ts' a.t a.len a.s a.base).mono fun e ts2 h2 hs=>hs.trans a
  |exit id=>exact⟨g',σ',vts',vh',a,k⟩
  |goto l=>exact⟨g',σ',vts',vh',a,k⟩
  |ret=>exact⟨g',σ',vts',vh',a,k⟩
  |panic ch=>exact⟨g',σ',vts',vh',a,k⟩
  |outgrown=>exact⟨g',σ',vts',vh',a,k⟩)
theorem VW0.cond {c:Operand}{x y:Code}{v:Bool}(hc:za1 vts c=some (.bool v))(hb:VW0 P N b (if v then x else y) Q vts vh):VW0 P N b (.cond c x y) Q vts vh:=fun lo g σ h ts ht hn s hbn=>by
 obtain⟨v',h1,h2⟩:=zak ht hc
 have:=h2.isF rfl;cases this
 exact .cond h1 (hb lo g σ h ts ht hn s hbn)
theorem VW0.zgb {c:Operand}{x y:Code}(hc:za1 vts c=some (.bool true))(hb:VW0 P N b x Q vts vh):VW0 P N b (.cond c x y) Q vts vh:=.cond hc hb
theorem VW0.zjd {c:Operand}{x y:Code}(hc:za1 vts c=some (.bool false))(hb:VW0 P N b y Q vts vh):VW0 P N b (.cond c x y) Q vts vh:=.cond hc hb
theorem VW0.zac {id:Nat}{ops:Array Oper}(l:List Nat)(hl:List.range ops.size=l)(hd:zji N ops=true)(hk:VOps P N b ops (Q .normal) l vts vh):VW0 P N b (.region id ops false) Q vts vh:=fun lo g σ h ts ht hn s hb=>
 .region (hl▸zh2 (zgn hd) l ts h g σ vts vh (.refl ht hn s hb) hk)
theorem zds.z2f {o:Oper}{x:Operand}{xT t:TypeId}{v:PV}{fs:Array Field}{next:VTs→zab→Prop}(ho:o.op=.typeAssert x xT t true)(hu:P.underlying t=some (.struct fs))(hx:za1 vts x=some (.iface t v))(hd:zb8 N o.dst=true)
  (hn:next (tput vts o.dst (.tup [v,.bool true])) vh):zds P N b o next vts vh:=fun lo g σ h ts ht hl s hb=>by
 obtain⟨x',x1,x2⟩:=zak ht hx
 have hv:∃v',x'=.iface t v'∧FR g v v':=by
  cases x2 with
  |fr _ _ h=>cases h with
   |iface _ _ v' h=>exact⟨v',rfl,h⟩
 obtain⟨v',rfl,hvr⟩:=hv
 refine .val (v:=.tuple #[v',.bool true]) (fun c hc=>by rw[ho] at hc;cases hc) (fun μ a w hrt r=>?_) ?_
 ·have hr:=zam hrt x1
  generalize he:a.eval x=xv at hr
  cases hr with
  |iface _ _ u hu2=>
   refine⟨.tuple #[u,.bool true],?_,?_⟩
   ·simp only[execOp,ho,he]
    simp[Instr.typeAssert,go_sem,run_underlying hu]
   exact .tuple _ _ rfl fun i h1 h2=>by
    match i with
    |0=>exact hu2
    |1=>exact .bool true
    |k+2=>simp at h1;omega
 obtain⟨g1,g2⟩:=zc1 (Fz.le_refl g) (Nat.le_refl _) (fun _ _=>rfl) ht o.dst (hl▸hd) (.fr _ _ (zr4 (b:=true) hvr))
 exact⟨g,σ,_,vh,⟨g1,g2.trans hl,s,Fz.le_refl g,fun _ _=>rfl,VF.refl _ _ _,hb,GOwn.refl _ _ _ _⟩,hn⟩
theorem zds.z2g {o:Oper}{x y:Operand}{t ti:TypeId}{v:PV}{ms:Array (String×TypeId)}{next:VTs→zab→Prop}(ho:∃pos,o.op=.binOp .neq t x y pos)(hu:P.underlying t=some (.interface ms))(hx:za1 vts x=some (.iface ti v))(hy:za1 vts y=some .nilIface)(hd:zb8 N o.dst=true)
  (hn:next (tput vts o.dst (.bool true)) vh):zds P N b o next vts vh:=fun lo g σ h ts ht hl s hb=>by
 obtain⟨pos,ho⟩:=ho
 obtain⟨x',x1,x2⟩:=zak ht hx
 obtain⟨y',y1,y2⟩:=zak ht hy
 have hv:∃v',x'=.iface ti v':=by
  cases x2 with
  |fr _ _ h=>cases h with
   |iface _ _ v' h=>exact⟨v',rfl⟩
 obtain⟨v',rfl⟩:=hv
 have:=y2.isF rfl;cases this
 refine .val (v:=.bool true) (fun c hc=>by rw[ho] at hc;cases hc) (fun μ a w hrt r=>?_) ?_
 ·have hr:=zam hrt x1
  generalize he:a.eval x=xv at hr
  have hr2:=zam hrt y1
  generalize he2:a.eval y=yv at hr2
  cases hr2
  cases hr with
  |iface _ _ u hu2=>
   refine⟨.bool true,?_,.bool true⟩
   simp only[execOp,ho,he,he2]
   have he3:(Op.equalIn Op.maxDepth t (.iface ti u) .nilIface).run P w=.ok false w:=by
    obtain⟨d,hd3⟩:∃d,Op.maxDepth=d+1:=⟨_,rfl⟩
    rw[hd3]
    simp[Op.equalIn,go_sem,run_underlying hu]
   simp[binOp,Op.equal,go_sem,he3]
 obtain⟨g1,g2⟩:=zc1 (Fz.le_refl g) (Nat.le_refl _) (fun _ _=>rfl) ht o.dst (hl▸hd) (.fr _ _ (.bool true))
 exact⟨g,σ,_,vh,⟨g1,g2.trans hl,s,Fz.le_refl g,fun _ _=>rfl,VF.refl _ _ _,hb,GOwn.refl _ _ _ _⟩,hn⟩
def xe3 (P:Program)(fn:Func)(T:zab→Prop):zdz
 |.normal,vts,vh=>(∃l,zbd P vts vh fn.results.toList=some l)∧T vh
 |.ret,vts,vh=>(∃l,zbd P vts vh fn.results.toList=some l)∧T vh
 |_,_,_=>False
theorem zhz.zag {f:FuncId}{fn:Func}{id d1 d2:Nat}{ops:Array Oper}{o1 o2:Oper}{aT:Array TypeId}{rest:Code}{args:List PV}{pvv:PV}{T:zab→Prop}(hf:P.funcs[f]?=some fn)(hb:fn.body=some (.seq (.region id ops false) rest))
  (hops:ops=#[o1,o2]) (h1:o1.op=.call ⟨.builtin .recover,#[],aT⟩) (g1:o1.guard=none) (e1:o1.dst=some d1) (h2:o2.op=.assign (.tmp d1)) (g2:o2.guard=none) (e2:o2.dst=some d2)
  (hlt:d1<fn.ntmps) (hlt2:d2<fn.ntmps) (hpv:∀μ,RelV μ pv pv) (hpf:∀g,FR g pvv pv) (hn:Nat.ble args.length fn.ntmps=true)
  (hc:VW0 P fn.ntmps vh.next rest (xe3 P fn T) (tput (tput (zc5 0 args) (some d1) pvv) (some d2) pvv) vh):zhz P f args vh pv T:=fun lo g σ h args' ha s=>by
 have hn:args.length≤fn.ntmps:=by simpa using hn
 have hlen:(args'++List.replicate (fn.ntmps - args'.length) Go.undef).length=fn.ntmps:=by
  have:=ha.1;simp;omega
 obtain⟨t1,t2⟩:=zc1 (Fz.le_refl g) (Nat.le_refl _) (fun _ _=>rfl) (zkl (k:=fn.ntmps) ha) (some d1) (by rw[hlen];simpa[zb8] using hlt) (.fr _ _ (hpf g))
 obtain⟨t3,t4⟩:=zc1 (Fz.le_refl g) (Nat.le_refl _) (fun _ _=>rfl) t1 (some d2) (by rw[t2,hlen];simpa[zb8] using hlt2) (.fr _ _ (hpf g))
 refine .zag hf hb hops h1 g1 e1 h2 g2 e2 hlt hpv ((hc lo g σ h _ t3 (t4.trans (t2.trans hlen)) s (Nat.le_refl _)).mono fun e ts' h' ⟨g',σ',vts',vh',a,k⟩=>?_)
 have fin:(∃l,zbd P vts' vh' fn.results.toList=some l)∧T vh'→(∃l,zbv P ts' h' fn.results.toList=some l)∧VPan lo g σ vh h T h':=by
  rintro⟨⟨l,hl⟩,hT⟩
  obtain⟨l',k1,_⟩:=zgf a.t a.s hl
  exact⟨⟨l',k1⟩,g',σ',vh',a.s,a.le,a.agree,a.f,a.base,a.own,hT⟩
 cases e with
 |normal=>exact fin k
 |ret=>exact fin k
 |exit id=>exact k.elim
 |goto l=>exact k.elim
 |panic ch=>exact k.elim
 |outgrown=>exact k.elim
theorem zds.z3m {o:Oper}{x:Operand}{t:TypeId}{v:PV}{fs:Array Field}{next:VTs→zab→Prop}(ho:o.op=.makeInterface t x)(hu:P.underlying t=some (.struct fs))(hx:za1 vts x=some v)(hf:v.isF=true)(hd:zb8 N o.dst=true)
  (hn:next (tput vts o.dst (.iface t v)) vh):zds P N b o next vts vh:=fun lo g σ h ts ht hl s hb=>by
 obtain⟨x',x1,x2⟩:=zak ht hx
 refine .val (v:=.iface t x') (fun c hc=>by rw[ho] at hc;cases hc) (fun μ a w hrt r=>⟨.iface t (a.eval x),?_,.iface _ _ _ (zam hrt x1)⟩) ?_
 ·simp only[execOp,ho]
  simp[Instr.makeInterface,go_sem,run_underlying hu]
 obtain⟨g1,g2⟩:=zc1 (Fz.le_refl g) (Nat.le_refl _) (fun _ _=>rfl) ht o.dst (hl▸hd) (.fr _ _ (.iface t _ _ (x2.isF hf)))
 exact⟨g,σ,_,vh,⟨g1,g2.trans hl,s,Fz.le_refl g,fun _ _=>rfl,VF.refl _ _ _,hb,GOwn.refl _ _ _ _⟩,hn⟩
theorem zc0.panic {o:Oper}{x:Operand}{t:TypeId}{v:PV}{X:zab→Prop}(ho:o.op=.panic x)(hx:za1 vts x=some (.iface t v))(hpv:∀g v',FR g (.iface t v) v'→v'=pv)(hps:∀μ v',RelV μ pv v'→v'=pv)(hX:X vh):zc0 P N b o pv X vts vh:=fun lo g σ h ts ht hl s hb=>by
 obtain⟨x',x1,x2⟩:=zak ht hx
 have hx':x'=pv:=by
  cases x2 with
  |fr _ _ h=>exact hpv _ _ h
 have hif:∃u,x'=.iface t u:=by
  cases x2 with
  |fr _ _ h=>cases h with
   |iface _ _ v' h=>exact⟨v',rfl⟩
 obtain⟨u,hu⟩:=hif
 intro F hF n μ a w K Q hrt r hQ
 refine⟨za8 F hF,?_⟩
 rw[Oper.semAt_eq _ _ _ (fun c hc=>by rw[ho] at hc;cases hc)]
 have hr:=zam hrt x1
 rw[hx'] at hr
 have he:=hps _ _ hr
 have hrun:(execOp a.eval o).run P w=.halt (.panic pv) w:=by
  simp only[execOp,ho,he]
  rw[← hx',hu]
  simp[Instr.panic,goPanic,go_sem]
 rw[hrun]
 exact hQ w ⟨h,μ,r,Frame.refl _ _ _ _,g,σ,vh,s,Fz.le_refl g,fun _ _=>rfl,VF.refl _ _ _,Nat.le_refl _,GOwn.refl _ _ _ _,hX⟩
end
end Go.Am
end
/-
 The value machine, part Pf: a call in a larger heap.
-/
section
namespace Go.Am
section
variable {P:Program} {vh:zab}
theorem VS.sub1 {lo:Nat}{g:Fz}{σ:Sg}{h:zaa}(s:VS lo g σ vh h)(i:Nat):VS lo g σ (vh.drop i) h:=
 ⟨fun j y hy=>s.obj j y (za0 hy).2,fun j k y z hy hz=>s.inj j k y z (za0 hy).2 (za0 hz).2,fun j y hy=>s.low j y (za0 hy).2,s.fz,fun j y hy=>s.dis j y (za0 hy).2,s.lole⟩
theorem VS.xae {lo:Nat}{g g':Fz}{σ σ':Sg}{h h':zaa}{vh1:zab}(s:VS lo g σ vh h){i:Nat}{x:VObj}(hi:vh.get i=some x)(hl:x.live=true)(h2:VS lo g' σ' vh1 h')(h3:g.le g')(h4:∀i,i<vh.next→σ' i=σ i)
  (h5:VF σ (vh.drop i) h σ' vh1 h') (h6:vh.next≤vh1.next) (h7:GOwn g σ (vh.drop i) h g'):VS lo g' σ' (vh1.back i x) h'∧VF σ vh h σ' (vh1.back i x) h'∧GOwn g σ vh h g':=by
 obtain⟨hin,hix⟩:=s.obj i x hi
 have hlt:=hix.lt hl
 have hσi:=h4 i hin
 have hne:∀j y,(vh.drop i).get j=some y→y.live=true→(σ j).1≠(σ i).1:=fun j y hy hly he=>by
  obtain⟨k1,k2⟩:=za0 hy
  exact k1 (s.inj j i y x k2 hi hly hl he)
 have hkeep:h'.get (σ i).1=h.get (σ i).1:=h5.pres _ hlt hne
 have hno:∀j z,vh1.get j=some z→z.live=true→(σ' j).1≠(σ i).1:=fun j z hz hlz he=>by
  obtain⟨k,u,k1,k2,k3⟩:=h5.own j z hz hlz (by rw[he];exact hlt)
  exact hne k u k1 k2 (k3.trans he)
 refine⟨⟨fun j z hz=>?_,fun j k z u hz hu hlz hlu he=>?_,fun j z hz hlz=>?_,h2.fz,fun j z hz hlz=>?_,h2.lole⟩,⟨h5.next,fun o ho hn=>h5.pres o ho fun j y hy hly=>hn j y (za0 hy).2 hly,fun j z hz hlz hlt2=>?_⟩,fun o z hz ho=>?_⟩
 ·rw[zab.zbw] at hz
  by_cases hj:j=i
  ·subst hj
   simp at hz;subst hz
   exact⟨Nat.lt_of_lt_of_le hin h6,hix.mono h3 h6 h4 hin fun _=>hkeep⟩
  simp only[hj,if_false] at hz
  exact h2.obj j z hz
 ·rw[zab.zbw] at hz hu
  by_cases hj:j=i
  ·subst hj
   by_cases hk:k=j
   ·exact hk.symm
   simp only[hk,if_false] at hu
   exact absurd (he.symm.trans (by rw[hσi])) (hno k u hu hlu)
  simp only[hj,if_false] at hz
  by_cases hk:k=i
  ·subst hk
   exact absurd (he.trans (by rw[hσi])) (hno j z hz hlz)
  simp only[hk,if_false] at hu
  exact h2.inj j k z u hz hu hlz hlu he
 ·rw[zab.zbw] at hz
  by_cases hj:j=i
  ·subst hj;rw[hσi];exact s.low j x hi hl
  simp only[hj,if_false] at hz
  exact h2.low j z hz hlz
 ·rw[zab.zbw] at hz
  by_cases hj:j=i
  ·subst hj
   rw[hσi]
   cases hgo:g' (σ j).1 with
   |none=>rfl
   |some q=>
    rcases h7 _ q hgo hlt with h10|⟨k,u,k1,k2,k3⟩
    ·rw[s.dis j x hi hl] at h10;cases h10
    exact absurd k3 (hne k u k1 k2)
  simp only[hj,if_false] at hz
  exact h2.dis j z hz hlz
 ·rw[zab.zbw] at hz
  by_cases hj:j=i
  ·subst hj;exact⟨j,x,hi,hl,by rw[hσi]⟩
  simp only[hj,if_false] at hz
  obtain⟨k,u,k1,k2,k3⟩:=h5.own j z hz hlz hlt2
  exact⟨k,u,(za0 k1).2,k2,k3⟩
 rcases h7 o z hz ho with h10|⟨k,u,k1,k2,k3⟩
 ·exact .inl h10
 exact .inr ⟨k,u,(za0 k1).2,k2,k3⟩
theorem zar.frame {f:FuncId}{args:List PV}{R:PV→zab→Prop}{i:Nat}{x:VObj}(hi:vh.get i=some x)(hl:x.live=true)(hc:zar P f args (vh.drop i) R):zar P f args vh fun v vh'=>∃vh1,R v vh1∧vh'=vh1.back i x:=fun lo g σ h args' ha s=>by
 refine(hc lo g σ h args' ha (s.sub1 i)).mono fun r h' ⟨g',σ',v,vh1,h1,h2,h3,h4,h5,h6,h7,h8⟩=>?_
 obtain⟨k1,k2,k3⟩:=s.xae hi hl h2 h3 h4 h5 h6 h7
 exact⟨g',σ',v,vh1.back i x,h1,k1,h3,h4,k2,h6,k3,vh1,h8,rfl⟩
theorem zbh.frame {f:FuncId}{args:List PV}{pv:Value}{X:zab→Prop}{i:Nat}{x:VObj}(hi:vh.get i=some x)(hl:x.live=true)(hc:zbh P f args (vh.drop i) pv X):zbh P f args vh pv fun vh'=>∃vh1,X vh1∧vh'=vh1.back i x:=fun lo g σ h args' ha s=>by
 refine(hc lo g σ h args' ha (s.sub1 i)).mono fun h' ⟨g',σ',vh1,h2,h3,h4,h5,h6,h7,h8⟩=>?_
 obtain⟨k1,k2,k3⟩:=s.xae hi hl h2 h3 h4 h5 h6 h7
 exact⟨g',σ',vh1.back i x,k1,h3,h4,k2,h6,k3,vh1,h8,rfl⟩
theorem zb9.rec {N b:Nat}{vts vts2:VTs}{vh vh2:zab}{ops:Array Oper}{o:Oper}{todo:List Nat}{next:List Nat→VTs→zab→Prop}(a:Rec b vts vh vts2 vh2)(hc:zb9 P N b ops o todo next vts2 vh2):zb9 P N b ops o todo next vts vh:=by
 obtain⟨D,ρ,a⟩:=a
 intro lo g σ h ts ht hn s hb hck ts1 hag
 have:=a.sim ht hn s
 refine(hc lo _ _ h ts this.t this.len this.s this.base hck ts1 hag).mono ?_
 rintro ts' h' ⟨v',e,todo',h1,h2⟩
 exact⟨v',e,todo',h1,h2.trans this⟩
def mpG {α:Type}(f:α→PV)(l:List (Int×α)):List (PV×PV):=l.map fun e=>(.int .i64 e.1,f e.2)
def alk {α:Type}(l:List (Int×α))(n:Int):Option α:=match l with
 |[]=>none
 |e::r=>if e.1=n then some e.2 else alk r n
def aset {α:Type}(l:List (Int×α))(n:Int)(v:α):List (Int×α):=if (alk l n).isSome then l.map fun e=>if e.1=n then (e.1,v) else e else l++[(n,v)]
def adl {α:Type}(l:List (Int×α))(n:Int):List (Int×α):=l.filter fun e=>!decide (e.1=n)
theorem zax {α:Type}{f:α→PV}(n:Int):∀l:List (Int×α),zgy .i64 n (mpG f l)=some ((alk l n).map f)
 |[]=>rfl
 |e::r=>by
  show (bif decide (IntKind.i64=.i64) then _ else _)=_
  simp only[decide_true,xf1]
  have ih:=zax (f:=f) n r
  unfold mpG at ih
  rw[ih]
  by_cases h:e.1=n<;>simp[alk,h]
theorem zat {α:Type}{f:α→PV}(n:Int)(v:α)(l:List (Int×α)):zjx .i64 n (f v) (mpG f l)=some (mpG f (aset l n v)):=by
 unfold zjx
 rw[zax]
 unfold aset
 cases h:alk l n with
 |none=>simp[mpG]
 |some u=>
  simp only[Option.map_some,Option.isSome_some,if_true,xfy]
  unfold mpG
  rw[List.map_map,List.map_map]
  refine List.map_congr_left fun e _=>?_
  simp only[Function.comp,qput]
  by_cases h:e.1=n<;>simp[h]
theorem zaz {α:Type}{f:α→PV}(n:Int)(l:List (Int×α)):(mpG f l).filter (znz n)=mpG f (adl l n):=by
 unfold mpG adl
 induction l with
 |nil=>rfl
 |cons e r ih=>
  simp only[List.map_cons,List.filter_cons,znz]
  by_cases h:e.1=n<;>simp[h]<;>simpa[znz] using ih
theorem zcp {α:Type}(n m:Int)(v:α)(l:List (Int×α)):alk (aset l n v) m=if m=n then some v else alk l m:=by
 have app:∀(l:List (Int×α)),alk l n=none→alk (l++[(n,v)]) m=if m=n then some v else alk l m:=by
  intro l
  induction l with
  |nil=>
   intro _
   by_cases h:m=n
   ·simp[alk,h]
   have:¬n=m:=fun h'=>h h'.symm
   simp[alk,h,this]
  |cons e r ih=>
   intro hl
   unfold alk at hl
   by_cases he:e.1=n
   ·simp[he] at hl
   simp only[he,if_false] at hl
   simp only[List.cons_append,alk]
   by_cases h2:e.1=m
   ·have:¬m=n:=fun h=>he (h2.trans h)
    simp[h2,this]
   simp only[h2,if_false];exact ih hl
 have rep:∀(l:List (Int×α)),(alk l n).isSome=true→alk (l.map fun e=>if e.1=n then (e.1,v) else e) m=if m=n then some v else alk l m:=by
  have other:¬m=n→∀l:List (Int×α),alk (l.map fun e=>if e.1=n then (e.1,v) else e) m=alk l m:=by
   intro hmn l
   induction l with
   |nil=>rfl
   |cons e r ih=>
    simp only[List.map_cons,alk,ih]
    by_cases h:e.1=n
    ·have:¬n=m:=fun h'=>hmn h'.symm
     simp[h,this]
    simp[h]
  intro l
  by_cases hmn:m=n
  ·subst hmn
   induction l with
   |nil=>intro h;simp[alk] at h
   |cons e r ih=>
    intro h
    simp only[List.map_cons,alk]
    by_cases he:e.1=m
    ·simp[he]
    simp only[he,if_false]
    unfold alk at h
    simp only[he,if_false] at h
    have:=ih h
    simpa using this
  intro _;rw[other hmn];simp[hmn]
 unfold aset
 cases h:alk l n with
 |none=>simp only[Option.isSome_none,Bool.false_eq_true,if_false];exact app l h
 |some u=>simp only[Option.isSome_some,if_true];exact rep l (by rw[h];rfl)
theorem zih {α:Type}(n m:Int)(l:List (Int×α)):alk (adl l n) m=if m=n then none else alk l m:=by
 unfold adl
 induction l with
 |nil=>simp[alk]
 |cons e r ih=>
  simp only[List.filter_cons]
  by_cases h:e.1=n
  ·simp only[h,decide_true,Bool.not_true,Bool.false_eq_true,if_false,ih,alk]
   by_cases h2:m=n
   ·simp[h2]
   have:¬n=m:=fun h'=>h2 h'.symm
   simp[h2,this]
  simp only[h,decide_false,Bool.not_false,if_true,alk,ih]
  by_cases h2:e.1=m
  ·have:¬m=n:=fun h'=>h (h2.trans h')
   simp[h2,this]
  simp[h2]
theorem zao.sl0h {f:FuncId}{r:List PV}{R:PV→Prop}(hp:zao P f (.vec []::r) R):zao P f (.sl0::r) R:=fun lo g σ h args' ha s=>by
 obtain⟨v',r',rfl,h1,h2⟩:=ha.zas
 refine hp lo g σ h (v'::r') (.cons ?_ h2) s
 cases h1 with
 |fr _ _ h=>cases h;exact .fr _ _ .vecN
def PV.det:PV→Bool
 |.mapv _=>true
 |.ptr _ _=>true
 |.int _ _=>true
 |.bool _=>true
 |v=>(vsc v).isSome
theorem PV.z6o {g:Fz}{σ:Sg}{n:Nat}{u:PV}{a b:Value}(hu:u.det=true)(ha:VR g σ n u a)(hb:VR g σ n u b):a=b:=by
 unfold PV.det at hu
 split at hu
 ·cases ha with
  |fr _ _ h=>cases h
  |mapv _ o a k hi hs=>cases hb with
   |fr _ _ h=>cases h
   |mapv _ o2 a2 k2 hi2 hs2=>rw[hs] at hs2;injection hs2 with h1 h2;rw[h1]
 ·cases ha with
  |fr _ _ h=>cases h
  |ptr _ _ o a k hi hs=>cases hb with
   |fr _ _ h=>cases h
   |ptr _ _ o2 a2 k2 hi2 hs2=>rw[hs] at hs2;injection hs2 with h1 h2;injection h2 with h2 h3;rw[h1,h2]
 ·have h1:=ha.isF rfl;have h2:=hb.isF rfl;cases h1;cases h2;rfl
 ·have h1:=ha.isF rfl;have h2:=hb.isF rfl;cases h1;cases h2;rfl
 obtain⟨x,hx⟩:=Option.isSome_iff_exists.1 hu
 rw[zml ha hx,zml hb hx]
def zra (P:Program)(vts:VTs)(vh:zab)(ops:Array Oper)(todo:List Nat):List Nat→Prop
 |[]=>True
 |m::r=>(todo.contains m=true∧∃om d u,ops[m]?=some om∧om.dst=some d∧tget d vts=some u∧u.det=true∧vop P vts vh om.op=some (u,vh))∧zra P vts vh ops todo r
theorem zra.mem {vts:VTs}{vh:zab}{ops:Array Oper}{todo:List Nat}:∀ {l:List Nat},zra P vts vh ops todo l→∀m∈l,m∈todo∧∃om d u,ops[m]?=some om∧om.dst=some d∧tget d vts=some u∧u.det=true∧vop P vts vh om.op=some (u,vh)
 |[],_,m,hm=>by cases hm
 |k::r,h,m,hm=>by
  rcases List.mem_cons.1 hm with rfl|hm
  ·exact⟨by simpa using h.1.1,h.1.2⟩
  exact zra.mem h.2 m hm
theorem zb9.redo {N b:Nat}{vts:VTs}{ops:Array Oper}{o:Oper}{todo todo':List Nat}{next:List Nat→VTs→zab→Prop}(hc:zb9 P N b ops o todo (fun _ vts' vh'=>zra P vts' vh' ops todo todo'∧next todo' vts' vh') vts vh):zb9 P N b ops o todo next vts vh:=by
 intro lo g σ h ts ht hn s hb hck ts1 hag
 refine(hc lo g σ h ts ht hn s hb hck ts1 hag).mono ?_
 rintro ts' h' ⟨v',e,todo2,_,g',σ',vts',vh',a,hr,hk⟩
 refine⟨v',e,todo',fun m hm=>?_,g',σ',vts',vh',a,hk⟩
 obtain⟨h1,om,d,u,h2,h3,h4,h5,h6⟩:=hr.mem m hm
 obtain⟨o',d',w,h7,c1,c2,c3,c4,c5⟩:=hck m h1
 rw[h2] at c1;injection c1 with c1;subst c1
 rw[h3] at c2;injection c2 with c2;subst c2
 obtain⟨w',h8,e1,σ2,e2,_,_,_,e6⟩:=zh9 (lo:=lo) a.s a.t h6
 obtain⟨e7,_⟩:=zcx c3 e1
 subst e7
 have hlt:d<ts.length:=by
  rcases Nat.lt_or_ge d ts.length with h|h
  ·exact h
  rw[List.getElem?_eq_none h] at c4;cases c4
 have hlt2:d<(aput ts o.dst v').length:=by rw[a.len,← hn];exact hlt
 have hv:=a.t d u h4
 have hv2:VR g' σ2 vh'.next u ((aput ts o.dst v').getD d Go.undef):=hv.mono (Fz.le_refl _) (Nat.le_refl _) e6
 have hw:=PV.z6o h5 e2 hv2
 refine⟨om,d,w',h8,h2,h3,c3,?_,e1⟩
 rw[hw]
 simp[List.getD,hlt2]
theorem VW.forget {N b:Nat}{Q:zdz}{vts:VTs}{vh2:zab}{c:Code}(hs:∀j y,vh2.get j=some y→vh.get j=some y)(hn:vh2.next=vh.next)(hc:VW P N b c Q vts vh2):VW P N b c Q vts vh:=fun lo g σ h ts ht hl s hb=>by
 have s2:VS lo g σ vh2 h:=⟨fun j y hy=>by rw[hn];exact s.obj j y (hs j y hy),fun j k y z hy hz=>s.inj j k y z (hs j y hy) (hs k z hz),fun j y hy=>s.low j y (hs j y hy),s.fz,fun j y hy=>s.dis j y (hs j y hy),s.lole⟩
 refine(hc lo g σ h ts (by rw[hn];exact ht) hl s2 (by rw[hn];exact hb)).mono fun e ts' h' hk=>Sim.trans ⟨by rw[hn];exact ht,hl,s2,Fz.le_refl g,fun _ _=>rfl,⟨Nat.le_refl _,fun _ _ _=>rfl,fun i x hx hlx _=>⟨i,x,hs i x hx,hlx,rfl⟩⟩,by rw[hn];exact hb,GOwn.refl _ _ _ _⟩ hk
theorem zar.toE0 {f:FuncId}{args:List PV}(hp:zar P f args zab.empty fun v _=>v=.sl0∨(∃i nl,v=.grow i 0 nl)∨∃i off,v=.own i off 0 0):zao P f args fun r=>r=.e0:=fun lo g σ h args' hA s=>by
 refine(hp lo g σ h args' hA s).mono fun r h' ⟨g',σ',v,vh',h1,h2,h3,h4,h5,h6,h7,h8⟩=>?_
 refine⟨g',σ',.e0,vh',.fr _ _ ?_,h2,h3,h4,h5,h6,h7,rfl,rfl⟩
 rcases h8 with rfl|⟨i,nl,rfl⟩|⟨i,off,rfl⟩
 ·have:=h1.isF rfl;cases this;exact .e0N
 ·cases h1 with
  |fr _ _ h=>cases h
  |growN=>exact .e0N
  |grow0 _ o off=>exact .e0 o off
  |grow _ _ _ _ _ _ hi hs h0=>exact absurd h0 (by omega)
 cases h1 with
 |fr _ _ h=>cases h
 |own _ _ _ _ o a kk hi hs=>exact .e0 o _
theorem zb9.heap {N b b2:Nat}{vts:VTs}{vh2:zab}{ops:Array Oper}{o:Oper}{todo:List Nat}{next:List Nat→VTs→zab→Prop}(h:vh=vh2)(hb:b=b2)(hc:zb9 P N b2 ops o todo next vts vh2):zb9 P N b ops o todo next vts vh:=by
 subst h;subst hb;exact hc
theorem VW.zli {N b:Nat}{Q:zdz}{vts:VTs}{pv:Value}{id k:Nat}{ops:Array Oper}{ms W ms0 W0:List Nat}{items:List zd7}{o:Oper}(hm:P.follows .mixedOrders=true)(hst:zkf ops ms W []=true)(hst0:zkf ops.pop ms0 W0 []=true)
 (hc:zfw ops.pop ms0 W0 [] [] W0 [] items=true) (hl:z0a ops ops.pop ms k=true) (hp:ops.pop.toList=ops.toList.take k) (ho:ops[k]?=some o) (hg:o.guard=none) (hd:zji N ops.pop=true)
 (hs:VScr P N b ops.pop W0 (fun vts vh=>zc0 P N b o pv (fun vh'=>Q (.panic (zd3 pv)) vts vh') vts vh) items [] vts vh):VW P N b (.region id ops true) Q vts vh:=.z6h hm hst hst0 hc hl hp ho hg hd hs
end
end Go.Am
end
/-
 The value machine, part Me: an entry of a map that is taken and written later.
-/
section
namespace Go.Am
section
variable {P:Program} {N b:Nat} {vts:VTs} {vh:zab}
theorem zb9.mapEntry {ops:Array Oper}{o:Oper}{todo:List Nat}{next:List Nat→VTs→zab→Prop}{t kT eT:TypeId}{a kx:Operand}{i:Nat}{es:List (PV×PV)}{kd:IntKind}{n:Int}{v:PV}(ho:o.op=.mapEntry t a kx)(htk:tkey P t=some (kT,eT))
  (hp:za1 vts a=some (.mapv i)) (hk:za1 vts kx=some (.int kd n)) (hvi:vh.get i=some (.map es)) (hf:zgy kd n es=some (some v)) (hd:zb8 N o.dst=true)
  (hn:∀born:Nat,next [] (tput vts o.dst (.tup [v,.int .i64 born])) (vh.put i (.emap es (.int kd n) born))):zb9 P N b ops o todo next vts vh:=fun lo g σ h ts htv hl s hb hck ts1 hag=>by
 obtain⟨m',m1,m2⟩:=zak htv hp
 obtain⟨k',k1,k2⟩:=zak htv hk
 have:=k2.isF rfl;cases this
 have hlow:=s.low i _ hvi rfl
 have hvro:=(s.obj i _ hvi).2
 obtain⟨es',h1,h2,h3,h4⟩:=hvro
 cases m2 with
 |fr _ _ h=>cases h
 |mapv _ ob a0 kk hi hs=>
  rw[hs] at h1 h2 hlow;simp only at h1 h2 hlow
  have hlt:ob<h.next:=zaa.zal h1
  obtain⟨q',q1,q2⟩:=zgl h3 h4 hf
  cases q' with
  |none=>exact q2.elim
  |some v'=>
   have e1:zav ts1 a=some (.map (some ob)):=by rw[hag.eval a (by rw[ho];simp[Op.operands])];exact m1
   have e2:zav ts1 kx=some (.int kd n):=by rw[hag.eval kx (by rw[ho];simp[Op.operands])];exact k1
   refine .mapEntry ho htk e1 e2 h1 hlow q1 fun born=>⟨.tuple #[v',goInt born],rfl,[],(fun m hm=>by cases hm),?_⟩
   have h5:=s.write hvi rfl (x':=.emap es (.int kd n) born) (.emap es' (.int kd n) born) ⟨es',by rw[zaa.zap _ _ _ _ (by rw[hs];exact hlt),if_pos rfl],by rw[hs];exact h2,h3,h4⟩
   rw[hs] at h5;simp only at h5
   have hF:FR g (.tup [v,.int .i64 born]) (.tuple #[v',goInt born]):=.tup _ _ rfl (fun i x y hx hy=>by
    match i with
    |0=>simp at hx hy;subst hx;subst hy;exact q2
    |1=>simp at hx hy;subst hx;subst hy;exact .int _ _
    |i+2=>simp at hx)
   obtain⟨g1,g2⟩:=zc1 (Fz.le_refl g) (Nat.le_refl _) (fun _ _=>rfl) htv o.dst (hl▸hd) (.fr _ _ hF)
   exact⟨g,σ,_,vh.put i (.emap es (.int kd n) born),⟨g1,g2.trans hl,h5.1,Fz.le_refl g,fun _ _=>rfl,h5.2,hb,GOwn.refl _ _ _ _⟩,hn born⟩
theorem zb9.entryStore {ops:Array Oper}{o:Oper}{todo:List Nat}{next:List Nat→VTs→zab→Prop}{t:TypeId}{a sx x:Operand}{i born:Nat}{es out:List (PV×PV)}{kd:IntKind}{n:Int}{u v:PV}(ho:o.op=.entryStore t a sx x)
  (hp:za1 vts a=some (.mapv i)) (hsx:za1 vts sx=some (.int .i64 born)) (hx:za1 vts x=some v) (hvF:v.isF=true) (hvi:vh.get i=some (.emap es (.int kd n) born)) (hf:zgy kd n es=some (some u)) (hq:zjx kd n v es=some out) (hd:o.dst=none)
  (hn:next [] vts (vh.put i (.map out))):zb9 P N b ops o todo next vts vh:=fun lo g σ h ts htv hl s hb hck ts1 hag=>by
 obtain⟨m',m1,m2⟩:=zak htv hp
 obtain⟨s',s1,s2⟩:=zak htv hsx
 obtain⟨v',v1,v2⟩:=zak htv hx
 have:=s2.isF rfl;cases this
 have hvf:=v2.isF hvF
 have hlow:=s.low i _ hvi rfl
 have hvro:=(s.obj i _ hvi).2
 obtain⟨es',h1,h2,h3,h4⟩:=hvro
 cases m2 with
 |fr _ _ h=>cases h
 |mapv _ ob a0 kk hi hs=>
  rw[hs] at h1 h2 hlow;simp only at h1 h2 hlow
  have hlt:ob<h.next:=zaa.zal h1
  obtain⟨q',q1,q2⟩:=zgl h3 h4 hf
  cases q' with
  |none=>exact q2.elim
  |some u'=>
   obtain⟨out',o1,o2,o3⟩:=zqz hvf h3 h4 hq
   rw[q1] at o1
   injection o1 with o1;subst o1
   have e1:zav ts1 a=some (.map (some ob)):=by rw[hag.eval a (by rw[ho];simp[Op.operands])];exact m1
   have e2:zav ts1 sx=some (goInt born):=by rw[hag.eval sx (by rw[ho];simp[Op.operands])];exact s1
   have e3:zav ts1 x=some v':=by rw[hag.eval x (by rw[ho];simp[Op.operands])];exact v1
   refine .entryStore ho hd e1 e2 e3 h1 hlow (zhh q1).1 ⟨Go.undef,by rw[hd];rfl,[],(fun m hm=>by cases hm),?_⟩
   have h5:=s.write hvi rfl (x':=.map out) (.map (es'.map (Go.Am.mput n v'))) ⟨_,by rw[zaa.zap _ _ _ _ (by rw[hs];exact hlt),if_pos rfl],by rw[hs];exact h2,o2,o3⟩
   rw[hs] at h5;simp only at h5
   rw[hd]
   exact⟨g,σ,_,vh.put i (.map out),⟨htv,hl,h5.1,Fz.le_refl g,fun _ _=>rfl,h5.2,hb,GOwn.refl _ _ _ _⟩,hn⟩
theorem zrm {i:Nat}{y:VObj}:∀ {l:List (Nat×VObj)},zbl i l=some y→i∈l.map (·.1)
 |[],h=>by simp[zbl] at h
 |(j,x)::r,h=>by
  simp only[zbl,beq_eq] at h
  by_cases hij:i=j
  ·simp[hij]
  simp only[hij,decide_false,xf2] at h
  simp only[List.map_cons,List.mem_cons]
  exact .inr (zrm h)
theorem VS.z8j {lo:Nat}{g:Fz}{σ:Sg}{h:zaa}(s:VS lo g σ vh h):∀l:List Nat,∃h0:zaa,h0.next=h.next∧(∀o x,h0.get o=some x→h.get o=some x)∧(∀o x,g o=some x→h0.get o=some x)∧
  (∀o x,h0.get o=some x→∀i∈l,∀y,vh.get i=some y→y.live=true→(σ i).1≠o)
 |[]=>⟨h,rfl,fun _ _ h=>h,s.fz,fun _ _ _ _ hi=>by cases hi⟩
 |i::l=>by
  obtain⟨h0,h1,h2,h3,h4⟩:=s.z8j l
  by_cases hq:∃y,vh.get i=some y∧y.live=true
  ·obtain⟨y,hy,hl⟩:=hq
   have hlt:(σ i).1<h0.next:=by rw[h1];exact(s.obj i y hy).2.lt hl
   have hd:=s.dis i y hy hl
   refine⟨h0.put (σ i).1 Option.none,h1,fun o x hx=>?_,fun o x hx=>?_,fun o x hx j hj z hz hlz=>?_⟩
   ·rw[zaa.zap _ _ _ _ hlt] at hx
    by_cases ho:o=(σ i).1
    ·simp[ho] at hx
    rw[if_neg ho] at hx;exact h2 o x hx
   ·rw[zaa.zap _ _ _ _ hlt,if_neg (by rintro rfl;rw[hd] at hx;cases hx)];exact h3 o x hx
   rw[zaa.zap _ _ _ _ hlt] at hx
   by_cases ho:o=(σ i).1
   ·simp[ho] at hx
   rw[if_neg ho] at hx
   rcases List.mem_cons.1 hj with rfl|hj
   ·exact fun he=>ho he.symm
   exact h4 o x hx j hj z hz hlz
  refine⟨h0,h1,h2,h3,fun o x hx j hj z hz hlz=>?_⟩
  rcases List.mem_cons.1 hj with rfl|hj
  ·exact absurd ⟨z,hz,hlz⟩ hq
  exact h4 o x hx j hj z hz hlz
theorem zb9.xaf {ops:Array Oper}{o:Oper}{todo todo':List Nat}{next:List Nat→VTs→zab→Prop}{fo:Operand}{args:Array Operand}{aT:Array TypeId}{f:FuncId}{xs ys l:List PV}(ho:o.op=.call ⟨.value fo,args,aT⟩)
  (hf:za1 vts fo=some (.func f xs ys)) (hl:zca vts args.toList=some l) (hcf:∀cs w,(callFunc f cs).run P w=.ok (.enter f cs) w) (hd:zb8 N o.dst=true) (hfr:todo'.all (zwy ops o.dst)=true)
  (ht:zjo P vts ⟨vh.next,[]⟩ ops todo todo')
  (hc:zar P f (xs++l++ys) vh fun r vh'=>next todo' (tput vts o.dst r) vh'):zb9 P N b ops o todo next vts vh:=fun lo g σ h ts htv hn s hb hck ts1 hag=>by
 obtain⟨f',k1,k2⟩:=zak htv hf
 obtain⟨l',k3,k4⟩:=zd6 htv hl
 obtain⟨xs',ys',rfl,hx,hy⟩:=zd9 k2
 have e1:zav ts1 fo=zav ts fo:=hag.eval fo (by rw[ho];simp[Op.operands,Call.operands])
 have e2:zcf ts1 args.toList=zcf ts args.toList:=zc3 fun x hx=>hag.eval x (by rw[ho];simp[Op.operands,Call.operands];exact .inr (by simpa using hx))
 refine .znr ho (e1.trans k1) (e2.trans k3) hcf ((hc lo g σ h _ ((hx.append k4).append hy) s).mono fun r h' ⟨g',σ',v,vh',h1,h2,h3,h4,h5,h6,h7,h8⟩=>?_)
 obtain⟨g1,g2⟩:=zc1 h3 h6 h4 htv o.dst (hn▸hd) h1
 refine⟨r,rfl,todo',fun m hm=>?_,g',σ',_,vh',⟨g1,g2.trans hn,h2,h3,fun i hi=>h4 i (by omega),h5,by omega,h7⟩,h8⟩
 obtain⟨h0,q1,q2,q3,q4⟩:=s.z8j (vh.objs.map (·.1))
 have s0:VS lo g σ ⟨vh.next,[]⟩ h0:=⟨fun j y hy=>by simp[zab.get,zbl] at hy,fun j k y z hy=>by simp[zab.get,zbl] at hy,fun j y hy=>by simp[zab.get,zbl] at hy,q3,fun j y hy=>by simp[zab.get,zbl] at hy,q1▸s.lole⟩
 obtain⟨hm1,om,u,c1,c2⟩:=ht.mem m hm
 obtain⟨o',d,w,h9,d1,d2,d3,d4,d5⟩:=hck m hm1
 rw[c1] at d1;injection d1 with d1;subst d1
 obtain⟨w',h10,f1,_⟩:=zh9 (lo:=lo) (vh:=⟨vh.next,[]⟩) s0 htv c2
 obtain⟨f2,f3⟩:=zcx d3 f1
 have hw:w'=w:=by
  have:=f3 h (fun o x hx=>q2 o x hx)
  rw[d5] at this
  simp only[xfy,xfz] at this
  exact this.1.symm
 subst hw
 have hs:h0.sub h':=fun o x hx=>by
  have hlt:o<h.next:=by rw[← q1];exact zaa.zal hx
  rw[h5.pres o hlt (fun i y hy hl=>q4 o x hx i (zrm hy) y hy hl)]
  exact q2 o x hx
 rw[List.all_eq_true] at hfr
 exact CkF.put (h:=h0) r ⟨om,d,w',h10,c1,d2,d3,d4,f1⟩ hs (hfr m hm)
end
end Go.Am
end
/-
 The value machine: a slice of numbers is lent to a call that writes it, while all else that is written stands still and may be looked at.
-/
section
namespace Go.Am
open Go
section
variable {P:Program} {vh:zab}
theorem zfg {vh:zab}{i j:Nat}{x y z:VObj}(hi:vh.get i=some x)(hl:x.live=true)(hz:(vh.put i y).get j=some z):∃x',vh.get j=some x'∧(z.live=true→x'.live=true):=by
 rcases zfe hi hz with⟨rfl,_⟩|⟨_,h⟩
 ·exact⟨x,hi,fun _=>hl⟩
 exact⟨z,h,id⟩
theorem zar.lend {f:FuncId}{args args0:List PV}{i:Nat}{x x0:VObj}{R:Nat→List Int→Prop}(hi:vh.get i=some x)(hl:x.live=true)
  (hz:∀lo g σ h args',VS lo g σ vh h→PRs (VR g σ vh.next) args args'→∃g2 σ2,VS lo g2 σ2 ⟨1,[(0,x0)]⟩ h∧PRs (VR g2 σ2 1) args0 args'∧σ2 0=σ i)
  (hp:zar P f args0 ⟨1,[(0,x0)]⟩ fun v vh'=>∃m,∃cs:List Int,(v=.sub 0 0 m∨v=.vec []∧m=0)∧vh'.get 0=some (.arr false 1 (cs.map (.int .i64)))∧R m cs) :
  zar P f args vh fun v vh'=>∃m,∃cs:List Int,(v=.sub i 0 m∨v=.vec []∧m=0)∧vh'=vh.put i (.arr false 1 (cs.map (.int .i64)))∧R m cs:=fun lo g σ h args' ha s=>by
 obtain⟨g2,σ2,s2,ha2,e1⟩:=hz lo g σ h args' s ha
 refine(hp lo g2 σ2 h args' ha2 s2).mono ?_
 rintro r h' ⟨g',σ',v,vh',h1,h2,h3,h4,h5,h6,h7,m,cs,hv,hg0,hR⟩
 have e2:σ' 0=σ i:=(h4 0 Nat.zero_lt_one).trans e1
 have hkeep:∀o,o<h.next→o≠(σ i).1→h'.get o=h.get o:=fun o ho hne=>h5.pres o ho fun j y hy hly he=>by
  simp only[zab.get,zbl,beq_eq] at hy
  by_cases hj:j=0
  ·subst hj;rw[e1] at he;exact hne he.symm
  simp[hj] at hy
 have hin:i<vh.next:=(s.obj i x hi).1
 have hne:∀j z,vh.get j=some z→z.live=true→j≠i→(σ j).1≠(σ i).1:=fun j z hz hlz hj he=>hj (s.inj j i z x hz hi hlz hl he)
 have hv2:∃v2,VR g σ vh.next v2 r∧(v2=.sub i 0 m∨v2=.vec []∧m=0):=by
  rcases hv with rfl|⟨rfl,hm⟩
  ·cases h1 with
   |fr _ _ h=>cases h
   |sub _ _ _ k o a kk hi' hs hl' hk=>exact⟨_,.sub i 0 m k o a kk hin (e2▸hs) hl' hk,.inl rfl⟩
  refine⟨.vec [],.fr _ _ ?_,.inr ⟨rfl,hm⟩⟩
  have:=h1.isF rfl
  cases this with
  |vecN=>exact .vecN
  |vec0 o off k=>exact .vec0 o off k
  |vec=>exact .vec0 _ _ _
 obtain⟨v2,hv2,hv3⟩:=hv2
 refine⟨g,σ,v2,vh.put i (.arr false 1 (cs.map (.int .i64))),hv2,⟨?_,?_,?_,?_,?_,h2.lole⟩,Fz.le_refl g,fun _ _=>rfl,⟨h5.next,?_,?_⟩,Nat.le_refl _,GOwn.refl _ _ _ _,m,cs,hv3,rfl,hR⟩
 ·intro j z hz
  rcases zfe hi hz with⟨rfl,rfl⟩|⟨hj,hz⟩
  ·refine⟨hin,Nat.zero_lt_one,?_⟩
   obtain⟨_,s0,cs',k1,k2,k3⟩:=(h2.obj 0 _ hg0).2
   rw[e2] at k1 k2
   exact⟨s0,cs',k1,k2,by rw[PRs.ints k3];exact PRs.zqe _⟩
  obtain⟨k1,k2⟩:=s.obj j z hz
  exact⟨k1,k2.mono (Fz.le_refl g) (Nat.le_refl _) (fun _ _=>rfl) k1 fun hly=>hkeep _ (k2.lt hly) (hne j z hz hly hj)⟩
 ·intro j k y z hy hz hly hlz he
  obtain⟨y',q1,q2⟩:=zfg hi hl hy
  obtain⟨z',q3,q4⟩:=zfg hi hl hz
  exact s.inj j k y' z' q1 q3 (q2 hly) (q4 hlz) he
 ·intro j y hy hly
  obtain⟨y',q1,q2⟩:=zfg hi hl hy
  exact s.low j y' q1 (q2 hly)
 ·intro o z hz
  have h0:=s.fz o z hz
  rw[hkeep o (zaa.zal h0) (by rintro rfl;have:=s.dis i x hi hl;rw[this] at hz;cases hz)]
  exact h0
 ·intro j y hy hly
  obtain⟨y',q1,q2⟩:=zfg hi hl hy
  exact s.dis j y' q1 (q2 hly)
 ·intro o ho hn
  exact hkeep o ho fun he=>hn i x hi hl he.symm
 intro j y hy hly _
 obtain⟨y',q1,q2⟩:=zfg hi hl hy
 exact⟨j,y',q1,q2 hly,rfl⟩
theorem zpj {b:Nat}{vts vts2:VTs}{vh vh2:zab}(D:List Nat)(ρ:List (Nat×Nat))(ht:AltT vts vh vh2.next (fun i=>D.contains i) (rho ρ) vts2)(ho:AltH vh vh2.next (fun i=>D.contains i) (rho ρ) vh2.objs)
  (hi:injB (rho ρ) (vh2.objs.map (·.1))=true) (hb:z0v b (rho ρ)=true) (hn:Nat.ble b vh2.next=true):AltS b (fun i=>D.contains i) (rho ρ) vts vh vts2 vh2:=by
 refine⟨fun t v hv=>AltT.get ht t v hv,fun j y hy=>AltH.get ho j y hy,fun j k y z hy hz _ _ he=>?_,fun j hj=>?_,by simpa using hn⟩
 ·unfold injB at hi
  rw[List.all_eq_true] at hi
  have h1:=hi j (zib hy)
  rw[List.all_eq_true] at h1
  have h2:=h1 k (zib hz)
  rw[he] at h2
  simpa[beq_eq] using h2
 unfold z0v at hb
 rw[List.all_eq_true] at hb
 simpa using hb j (by simpa using hj)
theorem zar.z9s {f:FuncId}{a c a0 c0:PV}{i:Nat}{x x0:VObj}{R:Nat→List Int→Prop}{vts1:VTs}{vh1:zab}{D1 D2:Nat→Bool}{ρ1 ρ2:Nat→Nat}(hi:vh.get i=some x)(hl:x.live=true)
  (s1:AltS 0 D1 ρ1 (zc5 0 [a,c]) vh vts1 vh1) (s2:AltS 0 D2 ρ2 vts1 vh1 (zc5 0 [a0,c0]) ⟨1,[(0,x0)]⟩) (hρ:ρ1 (ρ2 0)=i)
  (hp:zar P f [a0,c0] ⟨1,[(0,x0)]⟩ fun v vh'=>∃m,∃cs:List Int,(v=.sub 0 0 m∨v=.vec []∧m=0)∧vh'.get 0=some (.arr false 1 (cs.map (.int .i64)))∧R m cs) :
  zar P f [a,c] vh fun v vh'=>∃m,∃cs:List Int,(v=.sub i 0 m∨v=.vec []∧m=0)∧vh'=vh.put i (.arr false 1 (cs.map (.int .i64)))∧R m cs:=by
 refine zar.lend hi hl (fun lo g σ h args' s ha=>?_) hp
 have hlen:args'.length=2:=by have:=ha.1;simpa using this.symm
 have ht:=zkl (k:=2) ha
 rw[hlen] at ht
 simp only[Nat.sub_self,List.replicate_zero,List.append_nil] at ht
 have r1:=s1.sim (N:=2) ht hlen s
 have r2:=s2.sim (N:=2) r1.t hlen r1.s
 refine⟨_,_,r2.s,⟨by simpa using hlen.symm,fun j v v' hv hv'=>?_⟩,?_⟩
 ·have hj:j<2:=by
   rcases Nat.lt_or_ge j 2 with h|h
   ·exact h
   rw[List.getElem?_eq_none (by simpa using h)] at hv;cases hv
  have h3:=r2.t j v (by rw[zhj];simpa using hv)
  have h4:args'.getD j Go.undef=v':=by rw[List.getD,hv'];rfl
  rw[h4] at h3;exact h3
 show σ (ρ1 (ρ2 0))=σ i
 rw[hρ]
end
end Go.Am
end
/-
 The value machine: slices that grow, whose elements may speak of objects that are written.
-/
section
namespace Go.Am
open Go
theorem PV.zii {v:PV}(h:v.one=true):v.cells=[v]:=by cases v<;>first|rfl|cases h
section
variable {P:Program} {N b:Nat} {vts:VTs} {vh:zab}
theorem zds.z4j {o:Oper}{v:PV}{vh':zab}{next:VTs→zab→Prop}(hd:zb8 N o.dst=true)
  (H:∀(lo:Nat) (g:Fz) (σ:Sg) (h:zaa) (ts:Tmps),VT g σ vh.next vts ts→VS lo g σ vh h→∃v' h',aop P lo ts h o.op=some (v',h')∧VOK lo g σ vh h v vh' v' h')
  (hn:next (tput vts o.dst v) vh'):zds P N b o next vts vh:=fun lo g σ h ts ht hl s hb=>by
 obtain⟨v',h',k1,σ',k2,k3,k4,k5,k6⟩:=H lo g σ h ts ht s
 obtain⟨g1,g2⟩:=zc1 (Fz.le_refl g) k5 k6 ht o.dst (hl▸hd) k2
 exact .op k1 ⟨g,σ',_,vh',⟨g1,g2.trans hl,k3,Fz.le_refl g,fun i hi=>k6 i (by omega),k4,by omega,GOwn.refl _ _ _ _⟩,hn⟩
theorem zds.zhw {o:Oper}{t e:TypeId}{x:Operand}{v z:PV}{next:VTs→zab→Prop}(ho:o.op=.buildSlice t 1 #[(0,x)])(ht:zct P t=some (e,1))(hz:zbm P e=some [z])
  (hx:za1 vts x=some v) (hv:v.one=true) (hd:zb8 N o.dst=true) (hn:next (tput vts o.dst (.own vh.next 0 1 1)) (vh.alloc (.box [v]))):zds P N b o next vts vh:=
 .z4j hd (fun lo g σ h ts hts s=>by
  obtain⟨x',k1,k2⟩:=zak hts hx
  obtain⟨z',h1,h2⟩:=zdq (g:=g) hz
  have hz1:z'.length=1:=h2.1.symm
  have hc:x'.cells.toList=[x']:=by
   have h3:=k2.cells
   rw[PV.zii hv] at h3
   obtain⟨q,l,e1,e2,e3⟩:=h3.zas
   have:l=[]:=by have:=e3.1;simpa using this.symm
   subst this
   have ho:=k2.one
   rw[hv] at ho
   cases x'<;>first|rfl|cases ho
  obtain⟨z1,rfl⟩:∃z1,z'=[z1]:=by
   match z',hz1 with
   |[z1],_=>exact⟨z1,rfl⟩
  refine⟨.slice (some ⟨h.next,0,none⟩) 1 1,h.alloc (.cells 0 [x']),?_,?_⟩
  rotate_left
  ·obtain⟨g1,g2⟩:=s.alloc (x:=.box [v]) (.cells 0 [x']) 1 ⟨0,[x'],by rw[Sg.zae,zaa.zaj,if_pos rfl],by rw[Sg.zae],.cons (k2.mono (Fz.le_refl g) (Nat.le_succ _) fun i hi=>Sg.zgm _ _ (by omega)) .nil⟩
   exact⟨_,.own vh.next 0 1 1 h.next 0 1 (Nat.lt_succ_self _) (Sg.zae _ _ _) (Nat.le_refl _) (by decide),g1,g2,Nat.le_succ _,fun i hi=>Sg.zgm _ _ (by omega)⟩
  ·rw[ho]
   simp only[aop,zfq,k1,zco,ht,h1]
   simp[reps,zjg,hc,zbs]
   rfl)
  hn
def VObj.z3i:VObj→Option PV
 |.box [v]=>some v
 |.arr _ 1 [v]=>some v
 |_=>none
theorem zxq {lo:Nat}{g:Fz}{σ:Sg}{h:zaa}(s:VS lo g σ vh h){i l o:Nat}{es:List PV}{v:PV}{cs':List Value}{v':Value}(nl:Bool)(hg:vh.get i=some (.fgrow es))(hs:(σ i).1=o)
  (hone:∀e∈es,e.cells=[e]) (hv:v.one=true) (ho:∃s0,h.get o=some (.cells s0 cs')) (hc:PRs (VR g σ vh.next) es cs') (hx:VR g σ vh.next v v') (hes:es.length=l) (hlt:l+1≤17592186044416) :
  VOK lo g σ vh h (.grow vh.next (l+1) nl) ((vh.drop i).alloc (.fgrow (es++[v]))) (.slice (some ⟨h.next,0,none⟩) (l+1) inex) (h.alloc (.cells 1 (cs'++[v'])))∧
  VOK lo g σ vh h (.grow vh.next (l+1) nl) ((vh.drop i).alloc (.fgrow (es++[v]))) (.slice (some ⟨h.next,0,none⟩) (l+1) inex) ((h.put o none).alloc (.cells 1 (cs'++[v']))):=by
 have hσ:∀p i,i<vh.next→(σ.put vh.next p) i=σ i:=fun p i hi=>Sg.zgm _ _ (by omega)
 have hin:(17592186044416:Nat)<inex:=by decide
 have hone2:∀e∈es++[v],e.cells=[e]:=fun e he=>by
  rcases List.mem_append.1 he with h|h
  ·exact hone e h
  have:=List.mem_singleton.1 h;subst this;exact PV.zii hv
 have hlen:(es++[v]).length=l+1:=by simp[hes]
 have hcat:∀p,PRs (VR g (σ.put vh.next p) (vh.next+1)) (es++[v]) (cs'++[v']):=fun p=>(hc.append (.cons hx .nil)).zp1 (Fz.le_refl g) (Nat.le_succ _) (hσ p)
 constructor
 ·obtain⟨s1,f1⟩:=s.sub (vh2:=vh.drop i) rfl fun j y hy=>(za0 hy).2
  obtain⟨h1,h2⟩:=s1.alloc (x:=.fgrow (es++[v])) (.cells 1 (cs'++[v'])) inex ⟨by simp,hone2,by omega,1,cs'++[v'],by rw[Sg.zae,zaa.zaj,if_pos rfl],by rw[Sg.zae],hcat _,.inl ⟨by rw[Sg.zae],rfl⟩⟩
  exact⟨_,.grow vh.next (l+1) h.next 0 inex nl (Nat.lt_succ_self _) (Sg.zae _ _ _) (by omega),h1,f1.trans h2,Nat.le_succ _,hσ _⟩
 obtain⟨s1,f1⟩:=s.kill hg rfl
 rw[hs] at s1 f1
 obtain⟨h1,h2⟩:=s1.alloc (x:=.fgrow (es++[v])) (.cells 1 (cs'++[v'])) inex ⟨by simp,hone2,by omega,1,cs'++[v'],by rw[Sg.zae,zaa.zaj];exact if_pos rfl,by rw[Sg.zae],hcat _,.inl ⟨by rw[Sg.zae],rfl⟩⟩
 exact⟨_,.grow vh.next (l+1) h.next 0 inex nl (Nat.lt_succ_self _) (Sg.zae _ _ _) (by omega),h1,f1.trans h2,Nat.le_succ _,hσ _⟩
theorem zrt {lo:Nat}{g:Fz}{σ:Sg}{h:zaa}(s:VS lo g σ vh h){j:Nat}{y:VObj}{v:PV}{x':Value}(hg:vh.get j=some y)(hy:y.z3i=some v)(hx:VR g σ vh.next (.own j 0 1 1) x') :
  ∃v',alen x'=some 1∧zb3 h 1 x' 1=some [v']∧VR g σ vh.next v v':=by
 have hob:∃s0 v',h.get (σ j).1=some (.cells s0 [v'])∧(σ j).2.1=0∧VR g σ vh.next v v':=by
  have ho:=(s.obj j y hg).2
  cases y with
  |box cs=>
   match cs,hy with
   |[w],hy=>
    injection hy with hy;subst hy
    obtain⟨s0,cs',h1,h2,h3⟩:=ho
    obtain⟨v',l,e1,e2,e3⟩:=h3.zas
    have:l=[]:=by have:=e3.1;simpa using this.symm
    subst this;subst e1
    exact⟨s0,v',h1,h2,e2⟩
  |arr ag sz cs=>
   match sz,cs,hy with
   |1,[w],hy=>
    injection hy with hy;subst hy
    obtain⟨_,s0,cs',h1,h2,h3⟩:=ho
    obtain⟨v',l,e1,e2,e3⟩:=h3.zas
    have:l=[]:=by have:=e3.1;simpa using this.symm
    subst this;subst e1
    exact⟨s0,v',h1,h2,.fr _ _ e2⟩
  |_=>cases hy
 obtain⟨s0,v',h1,h2,h3⟩:=hob
 cases hx with
 |fr _ _ h=>cases h
 |own _ _ _ _ o a kk hi hs hl hk=>
  rw[hs] at h1 h2;simp only at h1 h2;subst h2
  exact⟨v',rfl,by simp[zb3,h1];rfl,h3⟩
theorem zds.zpy {o:Oper}{a x:Operand}{sT xT e e2:TypeId}{n2 i l j bytes:Nat}{nl:Bool}{es:List PV}{v z:PV}{y:VObj}{next:VTs→zab→Prop}(ho:o.op=.call ⟨.builtin .append,#[a,x],#[sT,xT]⟩)
  (ht:zct P sT=some (e,1)) (ht2:zct P xT=some (e2,n2)) (hz:zbm P e=some [z]) (hby:(P.info? e).map (·.bytes)=some bytes) (hb4:bytes≤4096)
  (ha:za1 vts a=some (.grow i l nl)) (hi:vh.get i=some (.fgrow es)) (hl:es.length=l) (hx:za1 vts x=some (.own j 0 1 1)) (hj:vh.get j=some y) (hy:y.z3i=some v) (hv:v.one=true) (hle:l+1≤4294967296)
  (hd:zb8 N o.dst=true) (hn:next (tput vts o.dst (.grow vh.next (l+1) nl)) ((vh.drop i).alloc (.fgrow (es++[v])))):zds P N b o next vts vh:=
 .z4j hd (fun lo g σ h ts hts s=>by
  obtain⟨a',k1,k2⟩:=zak hts ha
  obtain⟨x',k3,k4⟩:=zak hts hx
  obtain⟨z',h1,h2⟩:=zdq (g:=g) hz
  obtain⟨v',q1,q2,q3⟩:=zrt s hj hy k4
  have hone:=q3.one
  rw[hv] at hone
  have hcond:(Nat.beq z'.length 1&&Nat.blt 0 1&&[v'].all (·.oneCell'))=true:=by
   rw[← h2.1];simp[hone]
  have hap:apL bytes (l+1)=true:=by unfold apL;simp;omega
  have hbig:=zst hap hb4
  obtain⟨r0,r1,r2,s0,cs',r3,r4,r5,r6⟩:=(s.obj i _ hi).2
  have hl0:0<l:=by rw[← hl];exact List.length_pos_iff.2 r0
  have hcs:cs'.length=l:=by rw[← r5.1,hl]
  cases k2 with
  |fr _ _ h=>cases h
  |growN=>omega
  |grow0=>omega
  |grow _ _ oo aa k _ hii hs hm=>
   have hlow:=s.low i _ hi rfl
   rw[hs] at r3 r4 r6 hlow;simp only at r3 r4 r6 hlow;subst r4
   obtain⟨w1,w2⟩:=zxq s nl hi (by rw[hs]) r1 hv ⟨s0,r3⟩ r5 q3 hl (zs8 hap)
   have hm1:Nat.beq 1 0=false:=rfl
   have hiu:Nat.blt inex unk=true:=by decide
   have hii2:Nat.blt inex inex=false:=by decide
   rcases r6 with⟨rfl,rfl⟩|r6
   ·have e1:(Nat.ble lo oo&&Nat.beq 0 ((inex - inex)*1)&&Nat.beq 1 1&&Nat.ble (l+1) 17592186044416&&Nat.ble ((2*(l+1)+192)*bytes) 281474976710656)=true:=by
     simp only[xf3] at hbig ⊢
     exact⟨⟨⟨⟨by simpa using hlow,by rw[Nat.sub_self,Nat.zero_mul];rfl⟩,rfl⟩,hbig.1⟩,hbig.2⟩
    have e2:Nat.ble (0+(l+1)*1) cs'.length=false:=by rw[← Bool.not_eq_true,Nat.ble_eq];omega
    have e3:Nat.ble (0+l*1) cs'.length=true:=by rw[Nat.ble_eq];omega
    have e4:(cs'.drop 0).take (l*1)=cs':=by rw[List.drop_zero,Nat.mul_one,← hcs,List.take_length]
    refine⟨_,_,?_,w2⟩
    rw[ho]
    simp only[aop,zcf,k1,k3,zbq,zcn,ht,ht2,h1,hby,q1,q2,hcond,Bool.not_true,xf2,hm1,hii2,hiu,r3,e1,e2,e3,e4,xf1]
   rw[hl] at r6;subst r6
   have hki:k<inex:=Nat.lt_of_lt_of_le (by omega) (by decide:17592186044416≤inex)
   have e1:Nat.blt k inex=true:=by rw[Nat.blt_eq];exact hki
   have e2:Nat.ble (k+1) k=false:=by rw[← Bool.not_eq_true,Nat.ble_eq];omega
   have hm2:Nat.beq k 0=false:=by rw[beq_eq];simp;omega
   have hble:Nat.ble (0+k*1) cs'.length=true:=by rw[Nat.ble_eq];omega
   have e3:zb3 h 1 (.slice (some ⟨oo,0,none⟩) k k) k=some cs':=by
    simp only[zb3,hm2,xf2,r3,hble,xf1]
    rw[List.drop_zero,Nat.mul_one,← hcs,List.take_length]
   refine⟨_,_,?_,w1⟩
   rw[ho]
   simp only[aop,zcf,k1,k3,zbq,zcn,ht,ht2,h1,hby,q1,q2,hcond,Bool.not_true,xf2,hm1,e1,e2,e3,hbig,xf1])
  hn
theorem zds.zl1 {o:Oper}{a x:Operand}{sT xT e e2:TypeId}{n2 j bytes:Nat}{nl:Bool}{a0:PV}{v z:PV}{y:VObj}{next:VTs→zab→Prop}(ho:o.op=.call ⟨.builtin .append,#[a,x],#[sT,xT]⟩)
  (ht:zct P sT=some (e,1)) (ht2:zct P xT=some (e2,n2)) (hz:zbm P e=some [z]) (hby:(P.info? e).map (·.bytes)=some bytes) (hb4:bytes≤4096)
  (ha:za1 vts a=some a0) (h0:a0=.sl0∨∃i,a0=.grow i 0 nl) (hx:za1 vts x=some (.own j 0 1 1)) (hj:vh.get j=some y) (hy:y.z3i=some v) (hv:v.one=true)
  (hd:zb8 N o.dst=true) (hn:next (tput vts o.dst (.grow vh.next 1 nl)) (vh.alloc (.fgrow [v]))):zds P N b o next vts vh:=
 .z4j hd (fun lo g σ h ts hts s=>by
  obtain⟨a',k1,k2⟩:=zak hts ha
  obtain⟨x',k3,k4⟩:=zak hts hx
  obtain⟨z',h1,h2⟩:=zdq (g:=g) hz
  obtain⟨v',q1,q2,q3⟩:=zrt s hj hy k4
  have hone:=q3.one
  rw[hv] at hone
  have hcond:(Nat.beq z'.length 1&&Nat.blt 0 1&&[v'].all (·.oneCell'))=true:=by
   rw[← h2.1];simp[hone]
  have hap:apL bytes 1=true:=by unfold apL;simp
  have hbig:=zst hap hb4
  have hσ:∀p i,i<vh.next→(σ.put vh.next p) i=σ i:=fun p i hi=>Sg.zgm _ _ (by omega)
  obtain⟨g1,g2⟩:=s.alloc (x:=.fgrow [v]) (.cells 1 [v']) inex ⟨by simp,fun e he=>by have:=List.mem_singleton.1 he;subst this;exact PV.zii hv,(by decide:1<inex),1,[v'],by rw[Sg.zae,zaa.zaj,if_pos rfl],by rw[Sg.zae],
   (PRs.cons q3 .nil:PRs (VR g σ vh.next) [v] [v']).zp1 (Fz.le_refl g) (Nat.le_succ _) (hσ _),.inl ⟨by rw[Sg.zae],rfl⟩⟩
  have w:VOK lo g σ vh h (.grow vh.next 1 nl) (vh.alloc (.fgrow [v])) (.slice (some ⟨h.next,0,none⟩) 1 inex) (h.alloc (.cells 1 [v'])):=
   ⟨_,.grow vh.next 1 h.next 0 inex nl (Nat.lt_succ_self _) (Sg.zae _ _ _) (by omega),g1,g2,Nat.le_succ _,hσ _⟩
  have hm1:Nat.beq 1 0=false:=rfl
  have hsh:a'=.slice none 0 0∨∃o off,a'=.slice (some ⟨o,off,none⟩) 0 0:=by
   rcases h0 with rfl|⟨i,rfl⟩
   ·have:=k2.isF rfl;cases this;exact .inl rfl
   cases k2 with
   |fr _ _ h=>cases h
   |growN=>exact .inl rfl
   |grow0 _ o off=>exact .inr ⟨_,_,rfl⟩
   |grow _ _ _ _ _ _ _ _ hn=>omega
  refine⟨_,_,?_,w⟩
  rw[ho]
  rcases hsh with rfl|⟨oo,off,rfl⟩
  ·simp only[aop,zcf,k1,k3,zbq,zcn,ht,ht2,h1,hby,q1,q2,hcond,Bool.not_true,xf2,hm1,hbig,xf1]
  ·have e1:Nat.blt 0 inex=true:=by decide
   have e2:Nat.ble (0+1) 0=false:=rfl
   have e3:zb3 h 1 (.slice (some ⟨oo,off,none⟩) 0 0) 0=some []:=by simp[zb3]
   simp only[aop,zcf,k1,k3,zbq,zcn,ht,ht2,h1,hby,q1,q2,hcond,Bool.not_true,xf2,hm1,e1,e2,e3,hbig,xf1,List.nil_append,Nat.zero_add])
  hn
end
end Go.Am
end
/-
 The value machine: an operation that writes, and what may still be looked at because it is about other objects.
-/
section
namespace Go.Am
open Go
def zab.zld (vh:zab):List Nat→zab
 |[]=>vh
 |i::r=>(vh.zld r).drop i
def zu9 (l:List Nat):List (Nat×VObj)→List (Nat×VObj)
 |[]=>[]
 |(j,y)::r=>bif l.contains j then (j,y)::zu9 l r else zu9 l r
def zab.only (vh:zab)(l:List Nat):zab:=⟨vh.next,zu9 l vh.objs⟩
theorem zab.zum {vh:zab}{l:List Nat}{j:Nat}{y:VObj}(h:(vh.only l).get j=some y):vh.get j=some y∧j∈l:=by
 obtain⟨n,os⟩:=vh
 simp only[zab.get,zab.only] at h ⊢
 induction os with
 |nil=>simp[zu9,zbl] at h
 |cons e r ih=>
  obtain⟨i,z⟩:=e
  simp only[zu9] at h
  cases hc:l.contains i with
  |true=>
   rw[hc] at h
   simp only[xf1,zbl,beq_eq] at h ⊢
   by_cases hji:j=i
   ·subst hji;simp at h ⊢;exact⟨h,by simpa using hc⟩
   simp[hji] at h ⊢;exact ih h
  |false=>
   rw[hc] at h
   simp only[xf2,zbl,beq_eq] at h ⊢
   have:=ih h
   by_cases hji:j=i
   ·subst hji;rw[← List.contains_iff_mem] at this;rw[hc] at this;exact absurd this.2 (by simp)
   simp[hji];exact this
section
variable {P:Program} {N b lo:Nat} {vts:VTs} {vh:zab} {g:Fz} {σ:Sg} {h:zaa}
theorem VS.xaq (s:VS lo g σ vh h):∀l:List Nat,(∀j y,(vh.zld l).get j=some y→vh.get j=some y)∧∃hK:zaa,VS lo g σ (vh.zld l) hK∧∀p q,hK.get p=some q→h.get p=some q∧∀i∈l,∀y,vh.get i=some y→y.live=true→p≠(σ i).1
 |[]=>⟨fun _ _ h=>h,h,s,fun p q hq=>⟨hq,fun i hi=>by cases hi⟩⟩
 |i::r=>by
  obtain⟨k0,hK,k1,k2⟩:=VS.xaq s r
  have k3:∀j y,(vh.zld (i::r)).get j=some y→vh.get j=some y:=fun j y hy=>k0 j y (za0 hy).2
  refine⟨k3,?_⟩
  have soft:(∀y,(vh.zld r).get i=some y→y.live=true→False)→∃hK:zaa,VS lo g σ (vh.zld (i::r)) hK∧∀p q,hK.get p=some q→h.get p=some q∧∀j∈i::r,∀y,vh.get j=some y→y.live=true→p≠(σ j).1:=fun hno=>by
   refine⟨hK,k1.sub1 i,fun p q hq=>⟨(k2 p q hq).1,fun j hj y hy hly=>?_⟩⟩
   rcases List.mem_cons.1 hj with rfl|hj
   ·by_cases hjr:j∈r
    ·exact(k2 p q hq).2 j hjr y hy hly
    have same:∀l:List Nat,j∉l→(vh.zld l).get j=vh.get j:=by
     intro l
     induction l with
     |nil=>intro _;rfl
     |cons a l ih=>
      intro hn
      simp only[List.mem_cons,not_or] at hn
      show ((vh.zld l).drop a).get j=_
      rw[zab.zt3,if_neg hn.1];exact ih hn.2
    exact absurd hly (fun hly=>hno y (by rw[same r hjr];exact hy) hly)
   exact(k2 p q hq).2 j hj y hy hly
  cases hg:(vh.zld r).get i with
  |none=>exact soft fun y hy=>by rw[hg] at hy;cases hy
  |some y=>
   cases hl:y.live with
   |false=>exact soft fun z hz hlz=>by rw[hg] at hz;injection hz with hz;subst hz;rw[hl] at hlz;cases hlz
   |true=>
    obtain⟨q1,_⟩:=k1.kill hg hl
    have hlt:=(k1.obj i y hg).2.lt hl
    refine⟨_,q1,fun p q hq=>?_⟩
    rw[zaa.zap _ _ _ _ hlt] at hq
    by_cases hp:p=(σ i).1
    ·simp[hp] at hq
    rw[if_neg hp] at hq
    refine⟨(k2 p q hq).1,fun j hj z hz hlz=>?_⟩
    rcases List.mem_cons.1 hj with rfl|hj
    ·exact hp
    exact(k2 p q hq).2 j hj z hz hlz
theorem zb9.vopK {ops:Array Oper}{o:Oper}{todo todo':List Nat}{next:List Nat→VTs→zab→Prop}(l:List Nat){v v2:PV}{vh' vh2:zab}(hv:Go.Am.vop P vts vh o.op=some (v,vh'))(hv2:Go.Am.vop P vts (vh.only l) o.op=some (v2,vh2))(hd:zb8 N o.dst=true)
  (ht:zjo P vts (vh.zld l) ops todo todo') (hf:todo'.all (zwy ops o.dst)=true) (hn:next todo' (tput vts o.dst v) vh'):zb9 P N b ops o todo next vts vh:=fun lo g σ h ts htv hl s hb hck ts1 hag=>by
 obtain⟨v',h',k1,σ',k2,k3,k4,k5,k6⟩:=zh9 (lo:=lo) s htv hv
 obtain⟨g1,g2⟩:=zc1 (Fz.le_refl g) k5 k6 htv o.dst (hl▸hd) k2
 refine .op (v:=v') (h':=h') (by rw[zeq (fun x hx=>hag.eval x hx)];exact k1) ⟨v',rfl,todo',fun m hm=>?_,g,σ',_,vh',⟨g1,g2.trans hl,k3,Fz.le_refl g,fun i hi=>k6 i (by omega),k4,by omega,GOwn.refl _ _ _ _⟩,hn⟩
 obtain⟨h1,om,u,h2,h3⟩:=ht.mem m hm
 obtain⟨o',d,w,h4,c1,c2,c3,c4,c5⟩:=hck m h1
 rw[h2] at c1;injection c1 with c1;subst c1
 obtain⟨_,hK,q1,q2⟩:=s.xaq l
 have nx:∀l:List Nat,(vh.zld l).next=vh.next:=by
  intro l
  induction l with
  |nil=>rfl
  |cons a l ih=>exact ih
 have htv2:VT g σ (vh.zld l).next vts ts:=by rw[nx];exact htv
 obtain⟨w',h5,e1,_⟩:=zh9 (lo:=lo) q1 htv2 h3
 obtain⟨e2,e3⟩:=zcx c3 e1
 subst e2
 have sub0:h5.sub h:=fun p q hq=>(q2 p q hq).1
 have ew:w'=w:=by
  have:=e3 h sub0
  rw[c5] at this
  simp only[xfy,xfz] at this
  exact this.1.symm
 subst ew
 obtain⟨sO,_⟩:=s.sub (vh2:=vh.only l) rfl fun j y hy=>(zab.zum hy).1
 obtain⟨v3,h3',r1,_,_,_,r4,_⟩:=zh9 (lo:=lo) sO htv hv2
 rw[k1] at r1
 simp only[xfy,xfz] at r1
 obtain⟨rfl,rfl⟩:=r1
 have sub1:h5.sub h':=fun p q hq=>by
  obtain⟨t1,t2⟩:=q2 p q hq
  rw[r4.pres p (zaa.zal t1) fun i x hx hlx he=>?_]
  ·exact t1
  obtain⟨t3,t4⟩:=zab.zum hx
  exact t2 i t4 x t3 hlx he.symm
 have hc:CkF P lo ops ts h5 m:=⟨om,d,w',h5,h2,c2,c3,c4,e1⟩
 exact hc.put v' sub1 (List.all_eq_true.1 hf m hm)
end
end Go.Am
end
/-
 The value machine: a row of numbers (of whatever shape) is lent to a call that writes it.
-/
section
namespace Go.Am
open Go
def PV.isInt:PV→Bool
 |.int _ _=>true
 |_=>false
section
variable {P:Program} {vh:zab}
theorem PRs.z8q {g g':Fz}{cs:List PV}{cs':List Value}(h:PRs (FR g') cs cs')(hi:cs.all PV.isInt=true):PRs (FR g) cs cs':=by
 refine⟨h.1,fun i v v' h1 h2=>?_⟩
 have h3:=h.2 i v v' h1 h2
 have h4:=List.all_eq_true.1 hi v (List.mem_of_getElem? h1)
 cases v with
 |int k n=>cases h3;exact .int _ _
 |_=>cases h4
theorem zar.xfe {f:FuncId}{args args0:List PV}{i:Nat}{x x0:VObj}{ag:Bool}{sz:Nat}{R:Nat→List PV→Prop}{w0:PV}(hw0:w0=.vec []∨w0=.tup [])(hi:vh.get i=some x)(hl:x.live=true)
  (hz:∀lo g σ h args',VS lo g σ vh h→PRs (VR g σ vh.next) args args'→∃g2 σ2,VS lo g2 σ2 ⟨1,[(0,x0)]⟩ h∧PRs (VR g2 σ2 1) args0 args'∧σ2 0=σ i)
  (hp:zar P f args0 ⟨1,[(0,x0)]⟩ fun v vh'=>∃m,∃cs:List PV,(v=.sub 0 0 m∨v=w0∧m=0)∧vh'.get 0=some (.arr ag sz cs)∧cs.all PV.isInt=true∧R m cs) :
  zar P f args vh fun v vh'=>∃m,∃cs:List PV,(v=.sub i 0 m∨v=w0∧m=0)∧vh'=vh.put i (.arr ag sz cs)∧R m cs:=fun lo g σ h args' ha s=>by
 obtain⟨g2,σ2,s2,ha2,e1⟩:=hz lo g σ h args' s ha
 refine(hp lo g2 σ2 h args' ha2 s2).mono ?_
 rintro r h' ⟨g',σ',v,vh',h1,h2,h3,h4,h5,h6,h7,m,cs,hv,hg0,hin2,hR⟩
 have e2:σ' 0=σ i:=(h4 0 Nat.zero_lt_one).trans e1
 have hkeep:∀o,o<h.next→o≠(σ i).1→h'.get o=h.get o:=fun o ho hne=>h5.pres o ho fun j y hy hly he=>by
  simp only[zab.get,zbl,beq_eq] at hy
  by_cases hj:j=0
  ·subst hj;rw[e1] at he;exact hne he.symm
  simp[hj] at hy
 have hin:i<vh.next:=(s.obj i x hi).1
 have hne:∀j z,vh.get j=some z→z.live=true→j≠i→(σ j).1≠(σ i).1:=fun j z hz hlz hj he=>hj (s.inj j i z x hz hi hlz hl he)
 have hv2:∃v2,VR g σ vh.next v2 r∧(v2=.sub i 0 m∨v2=w0∧m=0):=by
  rcases hv with rfl|⟨rfl,hm⟩
  ·cases h1 with
   |fr _ _ h=>cases h
   |sub _ _ _ k o a kk hi' hs hl' hk=>exact⟨_,.sub i 0 m k o a kk hin (e2▸hs) hl' hk,.inl rfl⟩
  rcases hw0 with rfl|rfl
  ·refine⟨.vec [],.fr _ _ ?_,.inr ⟨rfl,hm⟩⟩
   have:=h1.isF rfl
   cases this with
   |vecN=>exact .vecN
   |vec0 o off k=>exact .vec0 o off k
   |vec=>exact .vec0 _ _ _
  refine⟨.tup [],.fr _ _ ?_,.inr ⟨rfl,hm⟩⟩
  have:=h1.isF rfl
  cases this with
  |tup _ xs hx hr=>exact .tup _ xs hx (fun i v v' h1=>by simp at h1)
 obtain⟨v2,hv2,hv3⟩:=hv2
 refine⟨g,σ,v2,vh.put i (.arr ag sz cs),hv2,⟨?_,?_,?_,?_,?_,h2.lole⟩,Fz.le_refl g,fun _ _=>rfl,⟨h5.next,?_,?_⟩,Nat.le_refl _,GOwn.refl _ _ _ _,m,cs,hv3,rfl,hR⟩
 ·intro j z hz
  rcases zfe hi hz with⟨rfl,rfl⟩|⟨hj,hz⟩
  ·obtain⟨hsz,s0,cs',k1,k2,k3⟩:=(h2.obj 0 _ hg0).2
   refine⟨hin,hsz,?_⟩
   rw[e2] at k1 k2
   exact⟨s0,cs',k1,k2,k3.z8q hin2⟩
  obtain⟨k1,k2⟩:=s.obj j z hz
  exact⟨k1,k2.mono (Fz.le_refl g) (Nat.le_refl _) (fun _ _=>rfl) k1 fun hly=>hkeep _ (k2.lt hly) (hne j z hz hly hj)⟩
 ·intro j k y z hy hz hly hlz he
  obtain⟨y',q1,q2⟩:=zfg hi hl hy
  obtain⟨z',q3,q4⟩:=zfg hi hl hz
  exact s.inj j k y' z' q1 q3 (q2 hly) (q4 hlz) he
 ·intro j y hy hly
  obtain⟨y',q1,q2⟩:=zfg hi hl hy
  exact s.low j y' q1 (q2 hly)
 ·intro o z hz
  have h0:=s.fz o z hz
  rw[hkeep o (zaa.zal h0) (by rintro rfl;have:=s.dis i x hi hl;rw[this] at hz;cases hz)]
  exact h0
 ·intro j y hy hly
  obtain⟨y',q1,q2⟩:=zfg hi hl hy
  exact s.dis j y' q1 (q2 hly)
 ·intro o ho hn
  exact hkeep o ho fun he=>hn i x hi hl he.symm
 intro j y hy hly _
 obtain⟨y',q1,q2⟩:=zfg hi hl hy
 exact⟨j,y',q1,q2 hly,rfl⟩
theorem zar.z1z {f:FuncId}{a c a0 c0:PV}{i:Nat}{x x0:VObj}{ag:Bool}{sz:Nat}{R:Nat→List PV→Prop}{D:Nat→Bool}{ρ:Nat→Nat}{w0:PV}(hw0:w0=.vec []∨w0=.tup [])(hi:vh.get i=some x)(hl:x.live=true)
  (s1:AltS 0 D ρ (zc5 0 [a,c]) vh (zc5 0 [a0,c0]) ⟨1,[(0,x0)]⟩) (hρ:ρ 0=i)
  (hp:zar P f [a0,c0] ⟨1,[(0,x0)]⟩ fun v vh'=>∃m,∃cs:List PV,(v=.sub 0 0 m∨v=w0∧m=0)∧vh'.get 0=some (.arr ag sz cs)∧cs.all PV.isInt=true∧R m cs) :
  zar P f [a,c] vh fun v vh'=>∃m,∃cs:List PV,(v=.sub i 0 m∨v=w0∧m=0)∧vh'=vh.put i (.arr ag sz cs)∧R m cs:=by
 refine zar.xfe hw0 hi hl (fun lo g σ h args' s ha=>?_) hp
 have hlen:args'.length=2:=by have:=ha.1;simpa using this.symm
 have ht:=zkl (k:=2) ha
 rw[hlen] at ht
 simp only[Nat.sub_self,List.replicate_zero,List.append_nil] at ht
 have r1:=s1.sim (N:=2) ht hlen s
 refine⟨_,_,r1.s,⟨by simpa using hlen.symm,fun j v v' hv hv'=>?_⟩,?_⟩
 ·have hj:j<2:=by
   rcases Nat.lt_or_ge j 2 with h|h
   ·exact h
   rw[List.getElem?_eq_none (by simpa using h)] at hv;cases hv
  have h3:=r1.t j v (by rw[zhj];simpa using hv)
  have h4:args'.getD j Go.undef=v':=by rw[List.getD,hv'];rfl
  rw[h4] at h3;exact h3
 show σ (ρ 0)=σ i
 rw[hρ]
end
end Go.Am
end
/-
 The abstract machine, evaluated in pieces: calls whose heaps before and behind are written down.
-/
section
namespace Go.Am
noncomputable def z3l:Value→Value→Bool
 |.tuple x,.tuple y=>List.rec (motive:=fun _=>List Value→Bool) (fun m=>match m with|[]=>true|_=>false) (fun a _ ih m=>match m with|[]=>false|b::s=>zn6 a b&&ih s) x.toList y.toList
 |a,b=>zn6 a b
noncomputable def zom (l:List Value):List Value→Bool:=
 List.rec (motive:=fun _=>List Value→Bool) (fun m=>match m with|[]=>true|_=>false) (fun a _ ih m=>match m with|[]=>false|b::s=>zn6 a b&&ih s) l
theorem zni:∀ {l m:List Value},zom l m=true→l=m
 |[],[],_=>rfl
 |[],_::_,h=>by cases h
 |_::_,[],h=>by cases h
 |a::r,b::s,h=>by
  have h':(zn6 a b&&zom r s)=true:=h
  rw[xf3] at h'
  rw[zpe h'.1,zni h'.2]
theorem zzw {a b:Value}(h:z3l a b=true):a=b:=by
 unfold z3l at h
 split at h
 ·rw[Array.ext' (zni h)]
 exact zpe h
noncomputable def z3p (l:List (Value×Value)):List (Value×Value)→Bool:=
 List.rec (motive:=fun _=>List (Value×Value)→Bool) (fun m=>match m with|[]=>true|_=>false) (fun a _ ih m=>match m with|[]=>false|b::s=>zqb a.1 b.1&&(zqb a.2 b.2&&ih s)) l
theorem zs6:∀ {l m:List (Value×Value)},z3p l m=true→l=m
 |[],[],_=>rfl
 |[],_::_,h=>by cases h
 |_::_,[],h=>by cases h
 |a::r,b::s,h=>by
  have h':(zqb a.1 b.1&&(zqb a.2 b.2&&z3p r s))=true:=h
  rw[xf3,xf3] at h'
  rw[Prod.ext (zl3 h'.1) (zl3 h'.2.1),zs6 h'.2.2]
noncomputable def zzi:AObj→AObj→Bool
 |.cells s cs,.cells s' cs'=>Nat.beq s s'&&z0x cs cs'
 |.map es,.map es'=>z3p es es'
 |_,_=>false
theorem z1a {a b:AObj}(h:zzi a b=true):a=b:=by
 unfold zzi at h
 split at h
 ·rw[xf3] at h
  rw[xf4 h.1,zpb h.2]
 ·rw[zs6 h]
 cases h
noncomputable def mkH (n:Nat)(l:List (Nat×AObj)):zaa:=List.rec (motive:=fun _=>zaa) ⟨n,.nil⟩ (fun p _ ih=>ih.put p.1 (some p.2)) l
theorem zpv (n:Nat):∀l,(mkH n l).next=n
 |[]=>rfl
 |p::r=>zpv n r
noncomputable def zvt (n:Nat)(l:List (Nat×AObj)):Bool:=List.rec (motive:=fun _=>Bool) true (fun p _ ih=>Nat.blt p.1 n&&ih) l
noncomputable def subB (h:zaa)(l:List (Nat×AObj)):Bool:=List.rec (motive:=fun _=>Bool) true (fun p _ ih=>(match h.get p.1 with
 |some x=>zzi x p.2
 |none=>false)&&ih) l
theorem get_nil (n o:Nat):(zaa.mk n .nil).get o=none:=by
 simp only[zaa.get_eq]
 split<;>rfl
theorem zwn (n:Nat):∀ {l:List (Nat×AObj)},zvt n l=true→∀ {o x},(mkH n l).get o=some x→∃p∈l,p.1=o∧p.2=x
 |[],_,o,x,h=>by
  have h:(zaa.mk n .nil).get o=some x:=h
  rw[get_nil] at h;cases h
 |p::r,ha,o,x,h=>by
  have ha:(Nat.blt p.1 n&&zvt n r)=true:=ha
  rw[xf3,Nat.blt_eq] at ha
  have h:((mkH n r).put p.1 (some p.2)).get o=some x:=h
  rw[zaa.zap _ _ _ _ (by rw[zpv];exact ha.1)] at h
  by_cases ho:o=p.1
  ·simp only[ho,if_true,xfy] at h
   exact⟨p,List.mem_cons_self,ho.symm,h⟩
  simp only[ho,if_false] at h
  obtain⟨q,h1,h2⟩:=zwn n ha.2 h
  exact⟨q,List.mem_cons_of_mem _ h1,h2⟩
theorem zu0 {h:zaa}:∀ {l:List (Nat×AObj)},subB h l=true→∀p∈l,h.get p.1=some p.2
 |[],_,p,hp=>by cases hp
 |q::r,hs,p,hp=>by
  have hs:((match h.get q.1 with|some x=>zzi x q.2|none=>false)&&subB h r)=true:=hs
  rw[xf3] at hs
  rcases List.mem_cons.1 hp with rfl|hp
  ·cases hg:h.get p.1 with
   |none=>rw[hg] at hs;cases hs.1
   |some x=>rw[hg] at hs;rw[z1a hs.1]
  exact zu0 hs.2 p hp
theorem zof.toH {h:zaa}{n:Nat}{l:List (Nat×AObj)}(hn:h.next=n)(hl:zvt n l=true)(hs:subB h l=true):zof 0 h (mkH n l):=
 .sub (by rw[zpv,hn]) (fun o x hx=>by
  obtain⟨p,h1,rfl,rfl⟩:=zwn n hl hx
  exact zu0 hs p h1) (fun o ho=>absurd ho (Nat.not_lt_zero o))
structure zgw where
  f:Nat
  args:List Value
  n:Nat
  l:List (Nat×AObj)
  r:Value
  n':Nat
  l':List (Nat×AObj)
section
variable {P:Program}
def z8m (P:Program)(f:Nat):Prop:=∀cs w,(callFunc f cs).run P w=.ok (.enter f cs) w
structure zxn (P:Program) (p:zgw):Prop where
  call:z8m P p.f
  run:zbx P 0 p.f p.args (mkH p.n p.l) fun r h=>r=p.r∧h=mkH p.n' p.l'
  lt:zvt p.n p.l=true
noncomputable def zh0 (orc:Orc)(p:zgw):Bool:=zvt p.n p.l&&match orc.call p.f p.args (mkH p.n p.l) with
 |some (r,h')=>z3l r p.r&&Nat.beq h'.next p.n'&&zvt p.n' p.l'&&subB h' p.l'
 |none=>false
theorem zda {orc:Orc}(ok:zje P 0 orc){p:zgw}(hp:zh0 orc p=true):zxn P p:=by
 unfold zh0 at hp
 rw[xf3] at hp
 obtain⟨h0,hp⟩:=hp
 split at hp
 ·rename_i r h' hc
  simp only[xf3] at hp
  obtain⟨⟨⟨h1,h2⟩,h3⟩,h4⟩:=hp
  obtain⟨hk,ha⟩:=ok.call _ _ _ _ _ hc
  refine⟨hk,ha.zyh fun r2 h2' ⟨e1,e2⟩=>?_,h0⟩
  subst e1;subst e2
  exact⟨_,.toH (xf4 h2) h3 h4,zzw h1,rfl⟩
 cases hp
noncomputable def zy4 (n:Nat)(l:List zgw):Option zgw:=List.rec (motive:=fun _=>Option zgw) none (fun a _ ih=>cond (Nat.beq n a.n) (some a) ih) l
theorem zmi {n:Nat}:∀ {l:List zgw} {p:zgw},zy4 n l=some p→p∈l∧p.n=n
 |[],_,h=>by cases h
 |a::r,p,h=>by
  have h:cond (Nat.beq n a.n) (some a) (zy4 n r)=some p:=h
  cases hb:Nat.beq n a.n with
  |true=>
   rw[hb,xf1] at h;injection h with h;subst h
   exact⟨List.mem_cons_self,(xf4 hb).symm⟩
  |false=>
   rw[hb,xf2] at h
   exact⟨List.mem_cons_of_mem _ (zmi h).1,(zmi h).2⟩
noncomputable def orcP (ps:List zgw)(orc:Orc):Orc where
  call f args h:=match zy4 h.next ps with
    |some p=>cond (Nat.beq f p.f&&zom args p.args&&subB h p.l) (some (p.r,mkH p.n' p.l')) (orc.call f args h)
    |none=>orc.call f args h
  yld:=orc.yld
theorem zbx.z4m {f:FuncId}{args:List Value}{h h2:zaa}{lo:Nat}{R:Value→zaa→Prop}(hr:zof lo h h2)(hc:zbx P lo f args h2 R):zbx P lo f args h R:=by
 intro F hF hro n μ w cargs ha r
 obtain⟨k1,k2⟩:=hr μ w μ h w r (Frame.refl _ _ _ _)
 refine(hc F hF hro n μ w cargs ha k1).mono fun e w' ⟨r',v,h',μ',h1,h2,h3,h4,h5⟩=>?_
 exact⟨r',v,h',μ',h1,h2,h3,k2.trans h4,h5⟩
theorem z3t {ps:List zgw}{orc:Orc}(hps:∀p∈ps,zxn P p)(ok:zje P 0 orc):zje P 0 (orcP ps orc):=by
 refine⟨fun f args h r h' hv=>?_,ok.yld⟩
 have hv:(match zy4 h.next ps with
  |some p=>cond (Nat.beq f p.f&&zom args p.args&&subB h p.l) (some (p.r,mkH p.n' p.l')) (orc.call f args h)
  |none=>orc.call f args h)=some (r,h'):=hv
 cases hf:zy4 h.next ps with
 |none=>rw[hf] at hv;exact ok.call _ _ _ _ _ hv
 |some p=>
  rw[hf] at hv
  obtain⟨h1,h2⟩:=zmi hf
  have hp:=hps p h1
  have hv:cond (Nat.beq f p.f&&zom args p.args&&subB h p.l) (some (p.r,mkH p.n' p.l')) (orc.call f args h)=some (r,h'):=hv
  cases hb:(Nat.beq f p.f&&zom args p.args&&subB h p.l) with
  |false=>rw[hb,xf2] at hv;exact ok.call _ _ _ _ _ hv
  |true=>
   rw[hb,xf1,xfy,xfz] at hv
   obtain⟨v1,v2⟩:=hv
   simp only[xf3] at hb
   obtain⟨⟨b1,b2⟩,b3⟩:=hb
   have e1:=xf4 b1
   have e2:=zni b2
   subst e1;subst e2
   refine⟨hp.call,(zbx.z4m (.toH h2.symm hp.lt b3) hp.run).mono fun r2 h3 ⟨k1,k2⟩=>?_⟩
   rw[k1,k2];exact⟨v1,v2⟩
theorem zxc {orc:Orc} (ok:zje P 0 orc) {f:FuncId} {b:Bool} (h:(match orc.call f [] zaa.empty with
  |some (.bool c,_)=>c==b
  |_=>false)=true):zbx P 0 f [] zaa.empty fun r _=>r=.bool b:=by
 split at h
 ·rename_i c h' hc
  refine(ok.call _ _ _ _ _ hc).2.mono fun r2 h2 ⟨e1,_⟩=>?_
  rw[e1,eq_of_beq h]
 cases h
end
end Go.Am
end
/-
 The abstract machine: what a call of plain values hands back, in the next object.
-/
section
namespace Go.Am
section
variable {P:Program} {lo:Nat}
theorem zbx.zzy {h:zaa}{f:FuncId}{args:List Value}{zs:List Int}(hlo:lo≤h.next)(hpos:0<zs.length)
  (hc:zbx P h.next f args h fun r h'=>∃o off k s cs,r=.slice (some ⟨o,off,none⟩) zs.length k∧h.next≤o∧k<unk∧h'.get o=some (.cells s cs)∧∀(i:Nat) x,zs[i]?=some x→cs[off+i]?=some (.int .i64 x)) :
  zbx P lo f args h fun r h'=>r=.slice (some ⟨h.next,0,none⟩) zs.length inex∧h'=h.alloc (.cells 0 (zs.map (.int .i64))):=by
 intro F hF hro n μ w cargs ha r
 refine(hc F hF hro n μ w cargs ha (r.sub (Nat.le_refl _) (fun _ _ hx=>hx) hlo (Nat.le_refl _))).mono fun e w' ⟨r',v,h',μ',h1,h2,h3,h4,o,off,k,s,cs,h5,h6,h7,h8,h9⟩=>?_
 subst h5
 obtain⟨g1,g2⟩:=r.restore h4 (fun o x hx=>zaa.zal hx)
 obtain⟨b,a,C,hm,hob⟩:=h3.objs o _ h8
 have hbw:w.heap.size≤b:=by
  rcases Nat.lt_or_ge b w.heap.size with hb|hb
  ·obtain⟨o2,x2,a2,C2,k1,k2,_⟩:=h4.own b hb ⟨o,_,a,C,h6,h8,hm⟩
   have:=zaa.zal k2
   omega
  exact hb
 have hv:v=.slice (some ⟨b,a+off,none⟩) zs.length (zch C k)∧zs.length≤zch C k:=by
  generalize hz:zs.length=z at h2 hpos ⊢
  cases h2 with
  |slice _ _ _ _ b1 a1 C1 hm1 hl1 hk1=>
   rw[hm] at hm1;injection hm1 with hm1;injection hm1 with e1 e2;injection e2 with e2 e3;subst e1;subst e2;subst e3
   exact⟨rfl,hl1⟩
  |sliceZ=>exact absurd hpos (Nat.lt_irrefl _)
  |slice0=>exact absurd hpos (Nat.lt_irrefl _)
 obtain⟨hv,hcap⟩:=hv
 have hle:=r.zki (b,a+off,zch C k)
 have hblk:∀p y b' a' C',h.get p=some y→μ p=some (b',a',C')→b'<w.heap.size:=fun p y b' a' C' hy hmu=>by
  obtain⟨b2,a2,C2,k1,k2⟩:=r.objs p y hy
  rw[hmu] at k1;injection k1 with k1;injection k1 with k1 _;subst k1
  exact k2.zcc
 have hnew:RelO (μ.put h.next (b,a+off,zch C k)) w' b (a+off) (zch C k) (.cells 0 (zs.map (.int .i64))):=⟨hob.1,fun i v' hv'=>by
  rw[List.getElem?_map] at hv'
  cases hz:zs[i]? with
  |none=>rw[hz] at hv';cases hv'
  |some x=>
   rw[hz] at hv';simp only[Option.map_some,xfy] at hv';subst hv'
   obtain⟨v2,k1,k2⟩:=hob.2.1 (off+i) _ (h9 i x hz)
   cases k2
   exact⟨_,by rw[Nat.add_assoc];exact k1,.int _ _⟩,fun h=>absurd h (Nat.lt_irrefl _)⟩
 have split:∀p y,(h.alloc (.cells 0 (zs.map (.int .i64)))).get p=some y→(p=h.next∧y=.cells 0 (zs.map (.int .i64)))∨(p≠h.next∧h.get p=some y):=fun p y hy=>by
  rw[zaa.zaj] at hy
  by_cases hp:p=h.next
  ·subst hp;simp at hy;exact .inl ⟨rfl,hy.symm⟩
  simp[hp] at hy;exact .inr ⟨hp,hy⟩
 refine⟨_,v,_,μ.put h.next (b,a+off,zch C k),h1,?_,⟨fun p y hy=>?_,fun p p' y y' b' a' C' a2 C2 hlp hy hy' k1 k2=>?_,fun p y hy=>?_,fun p y b' a' C' hlp hy k1 off=>?_,?_⟩,⟨hle,g2.size,by simp,g2.kept,fun b' hb'=>?_,fun p hp=>?_,fun p hp=>Mu.zan _ (by omega),fun p hp hn=>?_,g2.calm⟩,rfl,rfl⟩
 ·rw[hv]
  have hc2:zch (zch C k) inex=zch C k:=by unfold zch;simp
  have:=RelV.slice (μ:=μ.put h.next (b,a+off,zch C k)) h.next 0 zs.length inex b (a+off) (zch C k) (Mu.zae _ _ _) (by rw[hc2];exact hcap) (by decide)
  rw[hc2] at this
  exact this
 ·rcases split p y hy with⟨rfl,rfl⟩|⟨hp,hy⟩
  ·exact⟨b,a+off,zch C k,Mu.zae _ _ _,hnew⟩
  obtain⟨b',a',C',k1,k2⟩:=g1.objs p y hy
  exact⟨b',a',C',by rw[Mu.zan _ hp];exact k1,k2.mono hle⟩
 ·rcases split p y hy with⟨rfl,rfl⟩|⟨hp,hy⟩<;>rcases split p' y' hy' with⟨rfl,rfl⟩|⟨hp',hy'⟩
  ·rfl
  ·rw[Mu.zae] at k1;injection k1 with k1;injection k1 with k1 _;subst k1
   rw[Mu.zan _ hp'] at k2
   have:=hblk p' y' _ _ _ hy' k2
   omega
  ·rw[Mu.zae] at k2;injection k2 with k2;injection k2 with k2 _;subst k2
   rw[Mu.zan _ hp] at k1
   have:=hblk p y _ _ _ hy k1
   omega
  rw[Mu.zan _ hp] at k1;rw[Mu.zan _ hp'] at k2
  exact g1.inj p p' y y' b' a' C' a2 C2 hlp hy hy' k1 k2
 ·by_cases hp:p=h.next
  ·subst hp;simp
  rw[Mu.zan _ hp] at hy
  have:=r.dom p y hy
  simp;omega
 ·rcases split p y hy with⟨rfl,rfl⟩|⟨hp,hy⟩
  ·rw[Mu.zae] at k1;injection k1 with k1;injection k1 with k1 _;subst k1
   exact h3.thaw o _ b a C h6 h8 hm off
  rw[Mu.zan _ hp] at k1
  exact g1.thaw p y b' a' C' hlp hy k1 off
 ·simp;omega
 ·rintro⟨p,y,a',C',k1,k2,k3⟩
  rcases split p y k2 with⟨rfl,rfl⟩|⟨hp,hy⟩
  ·rw[Mu.zae] at k3;injection k3 with k3;injection k3 with k3 _;omega
  rw[Mu.zan _ hp] at k3
  exact⟨p,y,a',C',k1,hy,k3⟩
 ·rw[zaa.zaj,if_neg (by omega)]
 rw[zaa.zaj,if_neg (by omega)];exact hn
def memI (k:Int):List Int→Bool
 |[]=>false
 |a::r=>decide (a=k)||memI k r
def zoq:List Int→Bool
 |[]=>true
 |a::r=>!memI a r&&zoq r
theorem ztz {k:Int}:∀ {l:List Int},memI k l=true↔k∈l
 |[]=>by simp[memI]
 |a::r=>by
  rw[memI,Bool.or_eq_true,decide_eq_true_eq,ztz (l:=r),List.mem_cons]
  exact⟨fun h=>h.elim (fun h=>.inl h.symm) .inr,fun h=>h.elim (fun h=>.inl h.symm) .inr⟩
theorem zoz:∀ {l:List Int},zoq l=true↔l.Nodup
 |[]=>by simp[zoq]
 |a::r=>by
  simp only[zoq,xf3,Bool.not_eq_true',List.nodup_cons,zoz (l:=r)]
  rw[← ztz]
  cases memI a r<;>simp
def ins (k:Int):List Int→List Int
 |[]=>[k]
 |a::r=>bif decide (k≤a) then k::a::r else a::ins k r
def zsq:List Int→List Int
 |[]=>[]
 |a::r=>ins a (zsq r)
theorem zpd (k:Int):∀l,(ins k l).Perm (k::l)
 |[]=>.refl _
 |a::r=>by
  simp only[ins]
  cases decide (k≤a) with
  |true=>exact .refl _
  |false=>exact((zpd k r).cons a).trans (.swap k a r)
theorem zhb:∀l,(zsq l).Perm l
 |[]=>.refl _
 |a::r=>(zpd a _).trans ((zhb r).cons a)
theorem zop (k:Int):∀l,l.Pairwise (·≤·)→(ins k l).Pairwise (·≤·)
 |[],_=>by simp[ins]
 |a::r,h=>by
  simp only[ins]
  rw[List.pairwise_cons] at h
  by_cases hk:k≤a
  ·simp only[hk,decide_true,xf1,List.pairwise_cons]
   exact⟨fun b hb=>by rcases List.mem_cons.1 hb with rfl|hb;exact hk;exact Int.le_trans hk (h.1 b hb),h⟩
  simp only[hk,decide_false,xf2,List.pairwise_cons]
  exact⟨fun b hb=>by rcases List.mem_cons.1 ((zpd k r).mem_iff.1 hb) with rfl|hb;omega;exact h.1 b hb,zop k r h.2⟩
theorem zgo:∀l,(zsq l).Pairwise (·≤·)
 |[]=>.nil
 |a::r=>zop a _ (zgo r)
theorem zgx:∀ {l m:List Int},l.Perm m→l.Pairwise (·≤·)→m.Pairwise (·≤·)→l=m
 |[],m,hp,_,_=>(hp.symm.eq_nil).symm
 |a::r,[],hp,_,_=>hp.eq_nil
 |a::r,b::s,hp,hl,hm=>by
  rw[List.pairwise_cons] at hl hm
  have h1:a≤b:=by rcases List.mem_cons.1 (hp.mem_iff.2 List.mem_cons_self) with h|h;omega;exact hl.1 b h
  have h2:b≤a:=by rcases List.mem_cons.1 (hp.mem_iff.1 List.mem_cons_self) with h|h;omega;exact hm.1 a h
  have:a=b:=by omega
  subst this
  rw[zgx (List.perm_cons a |>.1 hp) hl.2 hm.2]
theorem zp5 (l:List Int):l.mergeSort (fun x y=>decide (x≤y))=zsq l:=by
 refine zgx ((List.mergeSort_perm l _).trans (zhb l).symm) ?_ (zgo l)
 have:=List.pairwise_mergeSort (le:=fun x y:Int=>decide (x≤y)) (fun a b c h1 h2=>by simp only[decide_eq_true_eq] at *;omega) (fun a b=>by simp only[Bool.or_eq_true,decide_eq_true_eq];omega) l
 exact this.imp fun h=>by simpa using h
end
end Go.Am
end
/-
 The abstract machine: a call that fills one map, whatever number it has.
-/
section
namespace Go.Am
section
variable {P:Program} {lo:Nat}
end
end Go.Am
end
/-
 What is visited when a map is ranged over.
-/
section
namespace Go.Am
def kk (l:List (Int×PV))(vis:List Nat):List Int:=vis.map fun k=>(l[k]?.map (·.1)).getD 0
theorem zx0 {a b:List Int}(h:a.Perm b):a.mergeSort (fun x y=>decide (x≤y))=b.mergeSort (fun x y=>decide (x≤y)):=by
 rw[zp5,zp5]
 exact zgx ((zhb a).trans (h.trans (zhb b).symm)) (zgo a) (zgo b)
end Go.Am
end
