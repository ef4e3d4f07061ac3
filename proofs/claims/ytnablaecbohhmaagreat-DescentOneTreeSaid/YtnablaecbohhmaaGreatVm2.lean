/-
 What is used in the proof of a statement (part Vm2); no condition.
-/
import Derived.Shelf.SortM.SortNone
import Derived.SizedLaws
import Derived.ReadAgain
import Derived.ChangeArms
import Derived.ChangeSame
import Derived.Test.YtnablaecbohhmaaGreatVm1
import Derived.Test.YtnablaecbohhmaaGreatAm3
import Derived.Test.YtnablaecbohhmaaGreatAm2
set_option linter.all false
set_option maxHeartbeats 40000000
set_option maxRecDepth 100000
/-
 The value machine, part O: the library's sort.
-/
section
namespace Go.Am
theorem zhy (l:List Int):(l.map (PV.int .i64)).flatMap PV.cells=l.map (PV.int .i64):=by
 induction l with
 |nil=>rfl
 |cons a r ih=>simp only[List.map_cons,List.flatMap_cons,ih];rfl
theorem PRs.ints {g:Fz}:∀ {l:List Int} {l':List Value},PRs (FR g) (l.map (PV.int .i64)) l'→l'=l.map (Value.int .i64)
 |[],l',h=>h.zcd
 |a::r,l',h=>by
  obtain⟨v',r',rfl,h1,h2⟩:=h.zax
  cases h1
  rw[PRs.ints h2];rfl
theorem PRs.zwm {g:Fz}:∀l:List Int,PRs (FR g) (l.map (PV.int .i64)) (l.map (Value.int .i64))
 |[]=>.nil
 |a::r=>.cons (.int _ _) (PRs.zwm r)
section
variable {P:Program} {vh:zab}
theorem zbj.zp5 {ρ:Go.Shelf.Ren}(Ly:Go.Proofs.SlLaysM.n5 P ρ){i n:Nat}{nl:Bool}{zs:List Int}(hg:vh.get i=some (.grow 1 (zs.map (PV.int .i64))))(hn:zs.length=n) :
  zbj P (ρ.f 5) [.grow i n nl] vh fun r vh'=>r=.tup []∧vh'=vh.put i (.grow 1 ((zs.mergeSort fun x y=>decide (x≤y)).map (PV.int .i64))):=fun lo g σ h args' ha s=>by
 subst hn
 obtain⟨v',r',rfl,hv,hr⟩:=ha.zax
 have:=hr.zcd;subst this
 obtain⟨hi,h0,hcl,hin,hor⟩:=s.obj i _ hg
 have empty:∀ {p:Option Addr} {cap:Nat},v'=.slice p 0 cap→zs.length=0→zc0 P lo (ρ.f 5) [v'] h fun r h'=>∃g' σ' v vh',VR g' σ' vh'.next v r∧VS lo g' σ' vh' h'∧g.le g'∧(∀i,i<vh.next→σ' i=σ i)∧VF σ vh h σ' vh' h'∧vh.next≤vh'.next∧GOwn g σ vh h g'∧v=.tup []∧
   vh'=vh.put i (.grow 1 ((zs.mergeSort fun x y=>decide (x≤y)).map (PV.int .i64))):=fun {p cap} hv' hz=>by
  have hz:=List.eq_nil_of_length_eq_zero hz
  subst hz
  subst hv'
  have hs:([]:List Int).mergeSort (fun x y=>decide (x≤y))=[]:=by simp
  rw[hs]
  obtain⟨s1,f1⟩:=s.zaf hg
  refine .zu6 fun μ w cargs hca r=>?_
  obtain⟨v2,r2,hcs,hvr,hrr⟩:=hca.zax
  have:=hrr.zcd;subst this
  have hsh:∃p' cap',v2=.slice p' 0 cap':=by cases hvr<;>exact⟨_,_,rfl⟩
  obtain⟨p',cap',rfl⟩:=hsh
  have hargs:cargs=#[.slice p' 0 cap']:=Array.ext' (by simpa using hcs)
  subst hargs
  refine(Go.Proofs.AnyM.slices_Sort_int_none Ly p' cap' w).mono fun e w' ⟨h1,h2⟩=>?_
  subst h2
  exact⟨.tuple #[],_,h,μ,h1,.tuple #[] #[] rfl (fun i h=>by simp at h),r,Frame.refl _ _ _ _,g,σ,.tup [],_,.fr _ _ zej,s1,Fz.le_refl g,fun _ _=>rfl,f1,Nat.le_refl _,GOwn.refl _ _ _ _,rfl,rfl⟩
 rcases hor with hnil|⟨s0,cs',h1,h2,h3,h4⟩
 ·have hz:zs.length=0:=by have:=congrArg List.length hnil;simpa using this
  have hz0:zs=[]:=List.eq_nil_of_length_eq_zero hz
  subst hz0
  cases hv with
  |fr _ _ h=>cases h
  |growN=>exact empty rfl rfl
  |grow0=>exact empty rfl rfl
  |grow _ _ _ _ _ _ _ _ hn=>simp at hn
 rw[zhy] at h3
 have hcs:=PRs.ints h3
 generalize hm:zs.length=m at hv
 cases hv with
 |fr _ _ h=>cases h
 |growN=>exact empty rfl hm
 |grow0=>exact empty rfl hm
 |grow _ _ o a k _ hi' hs hn=>
  subst hm
  have hlive:(VObj.grow 1 (zs.map (PV.int .i64))).live=true:=by
   cases zs with
   |nil=>simp at hn
   |cons=>rfl
  have hlow:=s.low i _ hg hlive
  rw[hs] at h1 h2 h4 hlow;simp only at h1 h2 h4 hlow;subst h2
  subst hcs
  have hin':zs.length<4611686018427387904:=by have:(zs.map (PV.int .i64)).length<4611686018427387904:=hin;simpa using this
  have hku:k<unk:=by
   show k<9223372036854775808
   rcases h4 with⟨rfl,_⟩|rfl
   ·decide
   have:(zs.map (PV.int .i64)).length<4611686018427387904:=hin
   omega
  have hS:=zc0.z0z (P:=P) (h:=h) (lo:=lo) Ly (off:=0) (k:=k) h1 hlow (Nat.zero_le _) (fun i x hx=>by simp[hx]) hin' hku hn
  refine hS.mono fun r h' ⟨e1,e2⟩=>?_
  have hlen:(zs.mergeSort fun x y=>decide (x≤y)).length=zs.length:=List.length_mergeSort zs
  have hspl:zcb (zs.map (Value.int .i64)) 0 ((zs.mergeSort fun x y=>decide (x≤y)).map (.int .i64))=(zs.mergeSort fun x y=>decide (x≤y)).map (.int .i64):=by
   unfold zcb
   simp[hlen]
  rw[hspl] at e2
  subst e1;subst e2
  have hw:=s.write hg hlive (x':=.grow 1 ((zs.mergeSort fun x y=>decide (x≤y)).map (PV.int .i64))) (.cells s0 ((zs.mergeSort fun x y=>decide (x≤y)).map (.int .i64)))
   ⟨h0,fun e he=>(by obtain⟨x,_,rfl⟩:=List.mem_map.1 he;rfl),by simp[hlen];simpa using hin,.inr ⟨s0,_,by rw[zaa.zaw _ _ _ _ (by rw[hs];exact zaa.zai h1),if_pos rfl],by rw[hs],by rw[zhy];exact PRs.zwm _,by
    rw[hs];simp only[List.length_map,hlen] at h4 ⊢;exact h4⟩⟩
  rw[hs] at hw
  exact⟨g,σ,.tup [],_,.fr _ _ zej,hw.1,Fz.le_refl g,fun _ _=>rfl,hw.2,Nat.le_refl _,GOwn.refl _ _ _ _,rfl,rfl⟩
end
end Go.Am
end
/-
 The value machine, part P: ranges over maps.
-/
section
namespace Go.Am
theorem SimR.lower {N b lo lo':Nat}{g g':Fz}{σ σ':Sg}{vh vh':zab}{h h':zaa}{ts':Tmps}{vts':VTs}(hle:lo≤lo')(a:SimR N b lo' g σ vh h ts' h' g' σ' vts' vh'):SimR N b lo g σ vh h ts' h' g' σ' vts' vh':=
 ⟨a.t,a.len,⟨a.s.obj,a.s.inj,fun i x hx hl=>Nat.le_trans hle (a.s.low i x hx hl),a.s.fz,a.s.dis,Nat.le_trans hle a.s.lole⟩,a.le,a.agree,a.f,a.base,a.own⟩
theorem AOps.mono {P:Program}{lo:Nat}{ops:Array Oper}{K K':Tmps→zaa→Prop}(hk:∀ts h,K ts h→K' ts h):∀ {l:List Nat} {ts:Tmps} {h:zaa},AOps P lo ops K l ts h→AOps P lo ops K' l ts h
 |[],ts,h,ho=>hk ts h ho
 |i::r,ts,h,ho=>by
  simp only[AOps] at ho ⊢
  cases hq:ops[i]? with
  |none=>rw[hq] at ho;exact AOps.mono hk ho
  |some o=>
   rw[hq] at ho
   simp only at ho ⊢
   by_cases hw:Region.wanted o (za2 ops ts)=true
   ·rw[if_pos hw] at ho ⊢;exact zgm.mono ho fun ts h=>AOps.mono hk
   rw[if_neg hw] at ho ⊢;exact AOps.mono hk ho
section
variable {P:Program} {N i j tI tN tB tE:Nat} {o1 o2 o3:Oper} {ops2:Array Oper} {body:Code} {id1 id2:Nat}
theorem zgj (h:zaa)(o:Nat):(zaa.zbi 1 h).get o=h.get o:=zaa.zbq 1 h o
theorem zfy (h:zaa):(zaa.zbi 1 h).next=h.next+1:=zaa.zcu 1 h
theorem VW.mapRange {Q:zfz}{vts:VTs}{id0:Nat}{om o0:Oper}{ty kt et:TypeId}{y:Operand}{tX:Tmp}{es:List (PV×PV)}(st:List Nat→VTs×zab)(I:List Nat→Prop)
  (hm:om.op=.move y) (gm:om.guard=none) (dm:om.dst=some tX) (h0:o0.op=.range ty (.tmp tX)) (g0:o0.guard=none) (d0:o0.dst=some tI) (hu:P.underlying ty=some (.map kt et))
  (h1:o1.op=.next (.tmp tI) false) (g1:o1.guard=none) (d1:o1.dst=some tN) (h2:o2.op=.extract (.tmp tN) 0) (g2:o2.guard=none) (d2:o2.dst=some tB)
  (h3:ops2[0]?=some o3) (h3op:o3.op=.entry (.tmp tI)) (g3:o3.guard=none) (d3:o3.dst=some tE) (hd2:zlo N ops2=true)
  (hlt:tX<N∧tI<N∧tN<N∧tB<N∧tE<N) (hne:tN≠tI∧tB≠tI∧tE≠tI∧tX≠tI)
  (hy:za6 vts y=some (.vmap es)) (hk:∀p∈es,∃kd n,p.1=.int kd n) (hnd:(es.map (·.1)).Nodup)
  (hst:∀vis,tget tI (st vis).1=some (.ptr 0 0)∧tget tN (st vis).1=none)
  (hS:Rec 1 ((tI,.ptr 0 0)::vts) ⟨1,[]⟩ (st []).1 (st []).2) (hSx:tget tX vts=none∧tget tI vts=none) (hI:I [])
  (step:∀vis k p,I vis→vis.Nodup→es[k]?=some p→k∉vis→VOps P N 1 ops2 (VW P N 1 body (zfn j (zs5 (fun vts' vh'=>I (vis++[k])∧Rec 1 vts' vh' (st (vis++[k])).1 (st (vis++[k])).2) (zfn i Q)))) (List.range' 1 (ops2.size - 1)) ((tE,.tup [p.1,p.2])::(tB,.bool true)::(st vis).1) (st vis).2)
  (fin:∀vis,I vis→vis.Nodup→(∀k,k∈vis↔k<es.length)→Q .normal ((tB,.bool false)::(st vis).1) (st vis).2) :
  VW P N 0 (.seq (.region id0 #[om,o0] false) (.block i (.loop (.seq (.region id1 #[o1,o2] false) (.seq (.cond (.tmp tB) .skip (.exit i)) (.block j (.seq (.region id2 ops2 false) body))))))) Q vts zab.empty:=fun lo g σ h ts ht hn s hb=>by
 obtain⟨y',hy1,hy2⟩:=zao ht hy
 have hyf:=hy2.isF rfl
 cases hyf with
 |vmap _ m es' hgm hlen rk rv=>
 have hmh:=s.fz _ _ hgm
 have hml:m<h.next:=zaa.zai hmh
 have hkeys':es'.map (·.1)=(es.map fun p=>match p.1 with|.int kd n=>Value.int kd n|_=>Go.undef):=by
  apply List.ext_getElem?
  intro q
  rw[List.getElem?_map,List.getElem?_map]
  cases hq:es[q]? with
  |none=>rw[List.getElem?_eq_none (by rw[List.getElem?_eq_none_iff] at hq;omega)];rfl
  |some p=>
   have hql:q<es'.length:=by
    rcases Nat.lt_or_ge q es.length with h|h
    ·omega
    rw[List.getElem?_eq_none h] at hq;cases hq
   have hq':es'[q]?=some es'[q]:=by simp[hql]
   rw[hq']
   have hr:=rk q p _ hq hq'
   obtain⟨kd,n,hp⟩:=hk p (List.mem_of_getElem? hq)
   rw[hp] at hr
   simp only[Option.map_some,hp]
   cases hv:es'[q].1<;>rw[hv] at hr<;>cases hr<;>rfl
 have hself:∀p∈es',zen p.1=true:=fun p hp=>by
  have:p.1∈es'.map (·.1):=List.mem_map.2 ⟨p,hp,rfl⟩
  rw[hkeys',List.mem_map] at this
  obtain⟨q,hq,he⟩:=this
  obtain⟨kd,n,hqe⟩:=hk q hq
  rw[hqe] at he
  rw[← he];rfl
 have hinj:∀(a c:Nat) p q,es'[a]?=some p→es'[c]?=some q→p.1=q.1→a=c:=fun a c p q ha hc he=>by
  have hnd':(es'.map (·.1)).Nodup:=by
   rw[hkeys']
   have:es.map (fun p=>match p.1 with|.int kd n=>Value.int kd n|_=>Go.undef)=(es.map (·.1)).map fun p=>match p with|.int kd n=>Value.int kd n|_=>Go.undef:=by rw[List.map_map];rfl
   rw[this]
   refine List.Pairwise.map _ ?_ (List.Pairwise.and_mem.1 hnd)
   rintro a b ⟨ha,hb,hab⟩
   obtain⟨p,hp,rfl⟩:=List.mem_map.1 ha
   obtain⟨q,hq,rfl⟩:=List.mem_map.1 hb
   obtain⟨k1,n1,e1⟩:=hk p hp
   obtain⟨k2,n2,e2⟩:=hk q hq
   rw[e1,e2] at hab ⊢
   intro hh
   apply hab
   simp only[Value.int.injEq] at hh
   rw[hh.1,hh.2]
  have h1:(es'.map (·.1))[a]?=some p.1:=by simp[ha]
  have h2:(es'.map (·.1))[c]?=some q.1:=by simp[hc]
  rw[he] at h1
  have hal:a<(es'.map (·.1)).length:=by
   rcases Nat.lt_or_ge a (es'.map (·.1)).length with h|h
   ·exact h
   rw[List.getElem?_eq_none h] at h1;cases h1
  exact(List.getElem?_inj hal hnd').1 (h1.trans h2.symm)
 obtain⟨hlX,hlI,hlN,hlB,hlE⟩:=hlt
 obtain⟨hn1,hn2,hn3,hn4⟩:=hne
 let ts1:=aput ts (some tX) (.map (some m))
 let hh:=zaa.zbi 1 h
 let σ2:Sg:=σ.put 0 (h.next,0,0)
 let pt:Value:=.pointer (some ⟨h.next,0,none⟩)
 have hts1:ts1.length=N:=by simp[ts1,aput,hn]
 have hts2:(aput ts1 (some tI) pt).length=N:=by simp[aput,hts1]
 have s2:VS h.next g σ2 ⟨1,[]⟩ hh:=⟨fun i x hx=>(by cases hx),fun i j x y hx=>(by cases hx),fun i x hx=>(by cases hx),fun o x hx=>by rw[zgj];exact s.fz o x hx,fun i x hx=>(by cases hx),by rw[zfy];omega⟩
 have hpt:∀g',VR g' σ2 1 (.ptr 0 0) pt:=fun g'=>by
  have:=VR.ptr (g:=g') (σ:=σ2) (n:=1) 0 0 h.next 0 0 (by omega) (Sg.zaf _ _ _)
  simpa using this
 have t2:VT g σ2 1 ((tI,.ptr 0 0)::vts) (aput ts1 (some tI) pt):=fun t v hv=>by
  simp only[tget,beq_eq] at hv
  by_cases ht1:t=tI
  ·subst ht1;simp at hv;subst hv
   rw[zc7 (by rw[hts1];exact hlI)];exact hpt g
  simp[ht1] at hv
  have hX:t≠tX:=fun h=>by subst h;rw[hSx.1] at hv;cases hv
  rw[zck (fun h=>ht1 h.symm)]
  show VR g σ2 1 v ((aput ts (some tX) (.map (some m))).getD t Go.undef)
  rw[zck (fun h=>hX h.symm)]
  exact(ht t v hv).mono (Fz.le_refl g) (Nat.zero_le _) (fun i hi=>(by cases hi))
 have F0:VF σ zab.empty h σ2 ⟨1,[]⟩ hh:=⟨by rw[zfy];omega,fun o _ _=>zgj h o,fun i x hx=>(by cases hx)⟩
 have G0:GOwn g σ zab.empty h g:=GOwn.refl _ _ _ _
 have up:∀ {K:VTs→zab→Prop} {ts' h'},Sim N 1 h.next g σ2 ⟨1,[]⟩ hh K ts' h'→Sim N 0 lo g σ zab.empty h K ts' h':=fun {K ts' h'} ⟨g',σ',vts',vh',a,k⟩=>
  ⟨g',σ',vts',vh',SimR.lower s.lole ⟨a.t,a.len,a.s,a.le,fun i hi=>(by cases hi),F0.trans a.f,Nat.zero_le _,G0.trans F0 a.own⟩,k⟩
 let Inv:List (Value×Value)→Tmps→zaa→Prop:=fun vis' ts' h'=>∃vis g' σ',vis.Nodup∧(∀k∈vis,k<es'.length)∧vis'=vis.filterMap (es'[·]?)∧I vis∧SimR N 1 h.next g σ2 ⟨1,[]⟩ hh ts' h' g' σ' (st vis).1 (st vis).2
 have hIt:∀vis' ts' h',Inv vis' ts' h'→ts'.getD tI Go.undef=pt:=by
  rintro vis' ts' h' ⟨vis,g',σ',_,_,_,_,a⟩
  have hv:=a.t tI _ (hst vis).1
  have hag:=a.agree 0 (by omega)
  generalize ts'.getD tI Go.undef=u at hv
  cases hv with
  |fr _ _ h=>cases h
  |ptr _ _ o a k hi hs=>rw[hag,show σ2 0=(h.next,0,0) from Sg.zaf _ _ _] at hs;cases hs;rfl
 refine(AW.raise h.next s.lole (Nat.le_refl _) (AW.mapRange (Q:=fun e=>Sim N 0 lo g σ zab.empty h (Q e)) (k:=1) (o0:=o0) (x:=.tmp tX) rfl rfl h0 g0 d0 hu h1 g1 d1 h2 g2 d2 h3 h3op g3 d3 ?_)).mono fun e ts' h' hq=>hq.1
 show AOps P h.next #[om,o0] _ [0] ts h
 simp only[AOps]
 have hw:Region.wanted om (za2 #[om,o0] ts)=true:=by simp[Region.wanted,gm]
 show (if Region.wanted om (za2 #[om,o0] ts)=true then zgm P h.next om ts h _ else _)
 rw[if_pos hw]
 refine zgm.op (v:=.map (some m)) (h':=h) (by rw[hm];simp only[aop,hy1,Option.map_some]) ?_
 rw[dm]
 refine⟨m,es',N,Inv,by simp only[za7];rw[zc7 (by rw[hn];exact hlX)],hmh,⟨hlN,hlB,fun h=>hn1 h,fun h=>hn2 h,hml,hself,?_,hIt,?_,?_⟩,?_⟩
 ·rintro vis' ts' h' ⟨vis,g',σ',_,_,_,_,a⟩;exact a.len
 ·rintro vis' p ts' h' ⟨vis,g',σ',hvn,hvl,rfl,hIv,a⟩ hp hnv hgm'
  obtain⟨k,hkp⟩:=List.getElem?_of_mem hp
  have hkl:k<es'.length:=by
   rcases Nat.lt_or_ge k es'.length with h|h
   ·exact h
   rw[List.getElem?_eq_none h] at hkp;cases hkp
  have hkv:k∉vis:=fun hkm=>hnv (List.mem_map.2 ⟨p,List.mem_filterMap.2 ⟨k,hkm,hkp⟩,rfl⟩)
  obtain⟨q,hq⟩:∃q,es[k]?=some q:=⟨es[k]'(by omega),by simp[show k<es.length by omega]⟩
  have hk1:=rk k q p hq hkp
  have hk2:=rv k q p hq hkp
  have hle:g.le g':=a.le
  have hpair:VR g' σ' (st vis).2.next (.tup [q.1,q.2]) (.tuple #[p.1,p.2]):=.fr _ _ (.tup _ _ rfl fun i u u' hu hu'=>by
   match i with
   |0=>simp at hu hu';subst hu;subst hu';exact hk1.mono hle
   |1=>simp at hu hu';subst hu;subst hu';exact hk2.mono hle
   |i+2=>simp at hu)
  have tN0:VT g' σ' (st vis).2.next (st vis).1 (aput ts' (some tN) (.tuple #[.bool true,p.1,p.2])):=fun t v hv=>by
   have:t≠tN:=fun h=>by subst h;rw[(hst vis).2] at hv;cases hv
   rw[zck (fun h=>this h.symm)];exact a.t t v hv
  have hl1:(aput ts' (some tN) (Value.tuple #[.bool true,p.1,p.2])).length=N:=by simp[aput,a.len]
  obtain⟨tB0,hl2⟩:=zeb (Fz.le_refl g') (Nat.le_refl _) (fun _ _=>rfl) tN0 (some tB) (by simp[zc1,hl1,hlB]) (.fr _ _ (.bool true):VR g' σ' (st vis).2.next (.bool true) (.bool true))
  obtain⟨tE0,hl3⟩:=zeb (Fz.le_refl g') (Nat.le_refl _) (fun _ _=>rfl) tB0 (some tE) (by simp[zc1,hl2,hl1,hlE]) hpair
  have a2:SimR N 1 h.next g σ2 ⟨1,[]⟩ hh _ h' g' σ' ((tE,.tup [q.1,q.2])::(tB,.bool true)::(st vis).1) (st vis).2:=⟨tE0,by rw[hl3,hl2,hl1],a.s,a.le,a.agree,a.f,a.base,a.own⟩
  have:=zja (P:=P) (zik hd2) _ _ h' g' σ' _ _ a2 (step vis k q hIv hvn hq hkv)
  refine AOps.mono ?_ this
  rintro ts3 h3' ⟨g3,σ3,vts3,vh3,a3,hW⟩
  refine(hW h.next g3 σ3 h3' ts3 a3.t a3.len a3.s a3.base).mono fun e ts4 h4 hs=>?_
  have hs:=hs.trans a3
  cases e with
  |normal=>
   obtain⟨g4,σ4,vts4,vh4,a4,k4,D,ρ,a5⟩:=hs
   have a6:=a4.trans (a5.sim a4.t a4.len a4.s)
   refine⟨vis++[k],_,_,?_,?_,?_,k4,a6⟩
   ·rw[List.nodup_append];exact⟨hvn,by simp,fun a ha b hb=>by simp at hb;subst hb;rintro rfl;exact hkv ha⟩
   ·intro k' hk'
    rcases List.mem_append.1 hk' with h|h
    ·exact hvl k' h
    simp at h;subst h;exact hkl
   simp[List.filterMap_append,hkp]
  |exit id'=>
   simp only[zb6,zfn] at hs ⊢
   by_cases hij:id'=j
   ·simp only[hij,if_true] at hs ⊢
    obtain⟨g4,σ4,vts4,vh4,a4,k4,D,ρ,a5⟩:=hs
    have a6:=a4.trans (a5.sim a4.t a4.len a4.s)
    refine⟨vis++[k],_,_,?_,?_,?_,k4,a6⟩
    ·rw[List.nodup_append];exact⟨hvn,by simp,fun a ha b hb=>by simp at hb;subst hb;rintro rfl;exact hkv ha⟩
    ·intro k' hk'
     rcases List.mem_append.1 hk' with h|h
     ·exact hvl k' h
     simp at h;subst h;exact hkl
    simp[List.filterMap_append,hkp]
   simp only[hij,if_false,ziw,zs5] at hs ⊢
   simp only[zb6,zfn] at hs ⊢
   by_cases hii:id'=i
   ·simp only[hii,if_true] at hs ⊢;exact up hs
   simp only[hii,if_false] at hs ⊢;exact up hs
  |goto l=>exact up hs
  |ret=>exact up hs
  |panic ch=>exact up hs
  |outgrown=>exact up hs
 ·rintro vis' ts' h' ⟨vis,g',σ',hvn,hvl,rfl,hIv,a⟩ hall hsub hnod hgm'
  have tN0:VT g' σ' (st vis).2.next (st vis).1 (aput ts' (some tN) (.tuple #[.bool false])):=fun t v hv=>by
   have:t≠tN:=fun h=>by subst h;rw[(hst vis).2] at hv;cases hv
   rw[zck (fun h=>this h.symm)];exact a.t t v hv
  have hl1:(aput ts' (some tN) (Value.tuple #[.bool false])).length=N:=by simp[aput,a.len]
  obtain⟨tB0,hl2⟩:=zeb (Fz.le_refl g') (Nat.le_refl _) (fun _ _=>rfl) tN0 (some tB) (by simp[zc1,hl1,hlB]) (.fr _ _ (.bool false):VR g' σ' (st vis).2.next (.bool false) (.bool false))
  refine up ⟨g',σ',_,_,⟨tB0,by rw[hl2,hl1],a.s,a.le,a.agree,a.f,a.base,a.own⟩,fin vis hIv hvn fun k=>⟨fun hkm=>by rw[hlen];exact hvl k hkm,fun hkl=>?_⟩⟩
  have hkl':k<es'.length:=by omega
  have hmem:=hall es'[k] (List.getElem_mem hkl')
  rw[List.mem_filterMap] at hmem
  obtain⟨k2,hk2,hk3⟩:=hmem
  have:=hinj k k2 es'[k] es'[k] (by simp[hkl']) hk3 rfl
  subst this;exact hk2
 refine⟨[],?_⟩
 obtain⟨D,ρ,aS⟩:=hS
 have a0:SimR N 1 h.next g σ2 ⟨1,[]⟩ hh (aput ts1 (some tI) pt) hh g σ2 ((tI,.ptr 0 0)::vts) ⟨1,[]⟩:=.refl t2 hts2 s2 (Nat.le_refl _)
 exact⟨_,_,List.nodup_nil,fun k hk=>(by cases hk),rfl,hI,a0.trans (aS.sim t2 hts2 s2)⟩
end
end Go.Am
end
/-
 The value machine, part Q: the entry. What the caller handed over, read as values.
-/
section
namespace Go.Am
inductive CV (w:World):PV→Value→Prop where
  |bool (b:Bool):CV w (.bool b) (.bool b)
  |int (k:IntKind) (n:Int):CV w (.int k n) (.int k n)
  |str (s:ByteArray):CV w (.str s) (.string s)
  |nilIface:CV w .nilIface .nilIface
  |vecN:CV w (.vec []) (.slice none 0 0)
  |vec0 (p:Addr) (k:Nat):CV w (.vec []) (.slice (some p) 0 k)
  |vec (es:List PV) (b off k sz:Nat) (cs:List Value) (hk:es.length≤k) (hl:es.length<inex) (h0:0<sz) (hsz:∀e∈es,e.cells.length=sz) (hb:b<w.heap.size)
      (hc:∀(n:Nat) v',cs[n]?=some v'→w.cell? ⟨b,off+n,none⟩=some v') (hlen:cs.length=(es.flatMap PV.cells).length)
      (r:∀(n:Nat) v v',(es.flatMap PV.cells)[n]?=some v→cs[n]?=some v'→CV w v v'):CV w (.vec es) (.slice (some ⟨b,off,none⟩) es.length k)
  |agg (cs:List PV) (cs':Array Value) (hs:cs.length=cs'.size) (r:∀(i:Nat) v v',cs[i]?=some v→cs'[i]?=some v'→CV w v v'):CV w (.agg cs) (.agg cs')
structure More (μ:Mu) (h:zaa) (μ':Mu) (h':zaa):Prop where
  le:μ.le μ'
  sub:∀o x,h.get o=some x→h'.get o=some x
theorem More.refl (μ:Mu)(h:zaa):More μ h μ h:=⟨Mu.le_refl μ,fun _ _ h=>h⟩
theorem More.trans {μ μ1 μ2:Mu}{h h1 h2:zaa}(a:More μ h μ1 h1)(b:More μ1 h1 μ2 h2):More μ h μ2 h2:=⟨Mu.le_trans a.le b.le,fun o x hx=>b.sub o x (a.sub o x hx)⟩
def zuo (w:World)(v:PV)(v':Value):Prop:=
 ∀μ h,Rel μ h.next h w→∃μ' h' u,More μ h μ' h'∧Rel μ' h'.next h' w∧FR h'.get v u∧RelV μ' u v'
theorem zhl {w:World}:∀ {l:List PV} {l':List Value},l.length=l'.length→(∀(i:Nat) v v',l[i]?=some v→l'[i]?=some v'→zuo w v v')→
  ∀μ h,Rel μ h.next h w→∃μ' h' us,More μ h μ' h'∧Rel μ' h'.next h' w∧PRs (FR h'.get) l us∧zas μ' us l'
 |[],[],_,_,μ,h,r=>⟨μ,h,[],More.refl μ h,r,⟨rfl,fun i v v' hv=>by simp at hv⟩,.nil _⟩
 |[],_::_,hl,_,_,_,_=>by simp at hl
 |_::_,[],hl,_,_,_,_=>by simp at hl
 |x::l,x'::l',hl,hr,μ,h,r=>by
  obtain⟨μ1,h1,u,m1,r1,f1,v1⟩:=hr 0 x x' rfl rfl μ h r
  obtain⟨μ2,h2,us,m2,r2,f2,v2⟩:=zhl (l:=l) (l':=l') (by simpa using hl) (fun i v v' hv hv'=>hr (i+1) v v' (by simpa using hv) (by simpa using hv')) μ1 h1 r1
  refine⟨μ2,h2,u::us,m1.trans m2,r2,⟨by simp[f2.1],fun i v v' hv hv'=>?_⟩,.cons (v1.mono m2.le) v2⟩
  cases i with
  |zero=>simp at hv hv';subst hv;subst hv';exact f1.mono m2.sub
  |succ i=>exact f2.2 i v v' (by simpa using hv) (by simpa using hv')
theorem zp1 {w:World}{μ:Mu}{h:zaa}(r:Rel μ h.next h w){b off C:Nat}{us cs:List Value}(hb:b<w.heap.size)(hv:zas μ us cs)(hc:∀(n:Nat) v',cs[n]?=some v'→w.cell? ⟨b,off+n,none⟩=some v') :
  More μ h (μ.put h.next (b,off,C)) (h.alloc (.cells 0 us))∧Rel (μ.put h.next (b,off,C)) (h.alloc (.cells 0 us)).next (h.alloc (.cells 0 us)) w:=by
 have hle:=r.zjq (b,off,C)
 refine⟨⟨hle,fun o x hx=>?_⟩,⟨fun o x hx=>?_,fun o o' x x' b1 a1 C1 a2 C2 hl hx=>?_,fun o x hx=>?_,fun o x b1 a1 C1 hl hx=>?_,Nat.le_refl _⟩⟩
 ·rw[zaa.zay,if_neg (by have:=zaa.zai hx;omega)];exact hx
 ·rw[zaa.zay] at hx
  by_cases ho:o=h.next
  ·simp[ho] at hx
   subst hx;subst ho
   refine⟨b,off,C,Mu.zaf _ _ _,hb,fun i v hi=>?_,fun h=>absurd h (Nat.lt_irrefl _)⟩
   obtain⟨v',h1,h2⟩:=hv.2 i v hi
   exact⟨v',hc i v' h1,h2.mono hle⟩
  simp[ho] at hx
  obtain⟨b1,a1,C1,h1,h2⟩:=r.objs o x hx
  exact⟨b1,a1,C1,hle _ _ h1,h2.mono hle⟩
 ·have:=zaa.zai hx;omega
 ·by_cases ho:o=h.next
  ·subst ho;simp
  rw[Mu.zaj _ ho] at hx
  have:=r.dom o x hx
  simp;omega
 have:=zaa.zai hx;omega
theorem CV.z0f {w:World}{v:PV}{v':Value}(hc:CV w v v'):zuo w v v':=by
 induction hc with
 |bool b=>exact fun μ h r=>⟨μ,h,_,.refl _ _,r,.bool b,.bool b⟩
 |int k n=>exact fun μ h r=>⟨μ,h,_,.refl _ _,r,.int k n,.int k n⟩
 |str s=>exact fun μ h r=>⟨μ,h,_,.refl _ _,r,.str s,.string s⟩
 |nilIface=>exact fun μ h r=>⟨μ,h,_,.refl _ _,r,.nilIface,.nilIface⟩
 |vecN=>exact fun μ h r=>⟨μ,h,_,.refl _ _,r,.vecN,.sliceNil⟩
 |vec0 p k=>exact fun μ h r=>⟨μ,h,_,.refl _ _,r,.vec0 0 0 unk,.sliceZ _ _ _⟩
 |vec es b off k sz cs hk hl h0 hsz hb hcell hlen _ ih=>
  intro μ h r
  obtain⟨μ1,h1,us,m1,r1,f1,v1⟩:=zhl hlen.symm ih μ h r
  have hx:∃C kk,zcy C kk=k∧kk≤inex∧es.length≤kk:=by
   by_cases hki:k<inex
   ·exact⟨0,k,by simp[zcy,hki],Nat.le_of_lt hki,hk⟩
   exact⟨k,inex,by simp[zcy],Nat.le_refl _,Nat.le_of_lt hl⟩
  obtain⟨C,kk,e1,e2,e3⟩:=hx
  obtain⟨m2,r2⟩:=zp1 (C:=C) r1 hb v1 hcell
  refine⟨_,_,.slice (some ⟨h1.next,0,none⟩) es.length kk,m1.trans m2,r2,?_,?_⟩
  ·refine .vec es h1.next 0 kk 0 sz us e3 ?_ (by rw[zaa.zay];simp) h0 (fun i e he=>hsz e (List.mem_of_getElem? he)) ?_ (fun i e j v v' he hv hv'=>?_)
   ·simp only[inex] at hl e2;simp only[unk];omega
   ·have:=f1.1
    rw[zdz hsz] at this
    omega
   exact(zgs (R:=FR h1.get) hsz f1 i e j v v' he hv (by simpa using hv')).mono m2.sub
  have:=RelV.slice (μ:=μ1.put h1.next (b,off,C)) h1.next 0 es.length kk b off C (Mu.zaf _ _ _) (by rw[e1];exact hk) (by simp only[inex] at e2;simp only[unk];omega)
  rw[e1] at this
  exact this
 |agg cs cs' hs _ ih=>
  intro μ h r
  obtain⟨μ1,h1,us,m1,r1,f1,v1⟩:=zhl (l':=cs'.toList) (by simpa using hs) (fun i v v' hv hv'=>ih i v v' hv (by simpa using hv')) μ h r
  refine⟨μ1,h1,.agg us.toArray,m1,r1,.agg cs us.toArray (by simpa using f1.1) (fun i v v' hv hv'=>f1.2 i v v' hv (by simpa using hv')),?_⟩
  refine .agg us.toArray cs' (by have:=v1.1;simpa using this) (fun i hi hi'=>?_)
  obtain⟨u',k1,k2⟩:=v1.2 i us[i] (by simp at hi ⊢)
  have:cs'[i]=u':=by simpa[hi'] using k1
  rw[this];simpa using k2
def zgp (w w':World):Prop:=Calm w w'∧w.heap.size≤w'.heap.size∧∀b,b<w.heap.size→w'.heap[b]?=w.heap[b]?
theorem zat.enter {P:Program}{f:FuncId}{args:List PV}{t:Bool}(hp:zat P f args fun r=>r=.bool t){w:World}{cargs:Array Value}(hl:args.length=cargs.size)
  (ha:∀(i:Nat) v v',args[i]?=some v→cargs[i]?=some v'→CV w v v'):Calls P f cargs w fun e w'=>e=.returned (.bool t)∧zgp w w':=by
 have e0:∀o x,zaa.empty.get o=some x→False:=fun o x hx=>by rw[zaa.zl5] at hx;cases hx
 have r0:Rel (fun _=>none) zaa.empty.next zaa.empty w:=⟨fun o x hx=>(e0 o x hx).elim,fun o o' x x' b a C a' C' _ hx=>(e0 o x hx).elim,fun o x hx=>(by cases hx),fun o x b a C _ hx=>(e0 o x hx).elim,Nat.le_refl _⟩
 obtain⟨μ,h,us,m,r,f1,v1⟩:=zhl (l':=cargs.toList) (by simpa using hl) (fun i v v' hv hv'=>(ha i v v' hv (by simpa using hv')).z0f) _ _ r0
 have hc:zc0 P h.next f us h _:=hp h.next h.get (fun _=>(0,0,0)) h us ⟨f1.1,fun i v v' hv hv'=>.fr _ _ (f1.2 i v v' hv hv')⟩ (VS.none (fun _ _ hx=>hx) (Nat.le_refl _) _)
 refine Calls.mono (callsIn_wide.1 (hc Fence.wide zwj rfl 0 μ w cargs v1 r)) fun e w' ⟨r',v,h',μ',k1,k2,k3,k4,g',σ',pv,vh',k5,_,_,_,_,_,_,k6,k7⟩=>?_
 subst k7
 cases k5 with
 |fr _ _ hf=>
  cases hf
  cases k2
  exact⟨k1,k4.calm,k4.size,fun b hb=>k4.kept b hb (by rintro⟨o,x,a,C,g1,g2,_⟩;have:=zaa.zai g2;omega)⟩
end Go.Am
end
/-
 The value machine, part R: what the statement's reading of an argument says of its value.
-/
section
namespace Go.Am
section
variable {H:Type} {enc:TypeId×Value→H} {P:Program} {w:World}
def Reads (enc:TypeId×Value→H)(P:Program)(w:World)(t:TypeId)(Q:PV→Prop):Prop:=
 ∀n cs x,DataW.trod enc P w 0 (fun _=>true) true n t cs=some x→(∀m∈x.1.weights P t,m≤reachBytes)→∃p:PV,p.cells.length=P.cellsOf t∧PRs (CV w) p.cells cs∧Q p
theorem Reads.mono {t:TypeId}{Q Q':PV→Prop}(h:Reads enc P w t Q)(hq:∀p,Q p→Q' p):Reads enc P w t Q':=fun n cs x hx hm=>let ⟨p,h1,h2,h3⟩:=h n cs x hx hm;⟨p,h1,h2,hq p h3⟩
theorem zxi {t:TypeId}{k:IntKind}(ht:P.underlying t=some (.int k))(hc:P.cellsOf t=1):Reads enc P w t fun p=>∃n,p=.int k n∧(Lit.int k n).wf=true:=by
 intro n cs x hx _
 cases n with
 |zero=>simp[DataW.trod] at hx
 |succ n=>
  unfold DataW.trod at hx
  rw[ht] at hx
  split at hx<;>simp_all
  obtain⟨⟨rfl,hw⟩,_⟩:=hx
  exact⟨_,rfl,.cons (.int _ _) .nil,_,rfl,hw⟩
theorem zsi {e:TypeId}{l:List (DataW H)}{d:DataW H}(hd:d∈l):∀m∈d.weights P e,m∈DataW.weightsAll P e l:=by
 induction l with
 |nil=>cases hd
 |cons a r ih=>
  intro m hm
  simp only[DataW.weightsAll,List.mem_append]
  rcases List.mem_cons.1 hd with rfl|hd
  ·exact .inl hm
  exact .inr (ih hd m hm)
theorem zxa {a:Addr}{v:Value}(h:w.cell? a=some v):a.spot=none:=by
 cases hs:a.spot with
 |none=>rfl
 |some s=>
  simp only[World.cell?] at h
  split at h
  ·simp[hs] at h
  cases h
theorem zrb {t e:TypeId}{Q:PV→Prop}(ht:P.underlying t=some (.slice e))(hc:P.cellsOf t=1)(h0:0<P.cellsOf e)(hby:0<P.bytesOf e)(he:Reads enc P w e Q) :
  Reads enc P w t fun p=>∃es,p=.vec es∧(∀x∈es,Q x)∧es.length<inex∧es.length*P.bytesOf e≤reachBytes:=by
 intro n cs x hx hm
 rcases DataW.trod_slice ht hx with⟨rfl,rfl⟩|⟨a,len,cap,elems,rest,n',_,rfl,rfl,_,hlc,_,hlen,hel,_,_⟩
 ·exact⟨.vec [],by rw[hc];rfl,.cons .vecN .nil,[],rfl,fun x h=>(by cases h),by decide,by simp⟩
 simp only[DataW.weights,ht] at hm
 have hwt:len*P.bytesOf e≤reachBytes:=by
  have:=hm _ (List.mem_cons_self ..)
  simp only[List.length_map,hlen] at this
  exact Nat.le_trans (Nat.mul_le_mul_right _ (Nat.le_add_right _ _)) this
 have hbound:len<inex:=by
  have:=hm _ (List.mem_cons_self ..)
  simp only[List.length_map,hlen] at this
  have h2:len≤(len+rest.length)*P.bytesOf e:=Nat.le_trans (Nat.le_add_right _ _) (Nat.le_mul_of_pos_right _ hby)
  have:=reachBytes_lt
  simp only[inex];omega
 rcases Nat.eq_zero_or_pos len with h00|hpos
 ·subst h00
  exact⟨.vec [],by rw[hc];rfl,.cons (.vec0 a cap) .nil,[],rfl,fun x h=>(by cases h),by decide,by simp⟩
 have at0:∀i,i<len→∃c y,w.cells? 0 (a.add (i*P.cellsOf e)) (P.cellsOf e)=some c∧DataW.trod enc P w 0 (fun _=>true) true n' e c=some y∧elems[i]?=some y:=fun i hi=>by
  have h1:=hel i hi
  rw[List.getElem?_eq_getElem (by omega)] at h1
  obtain⟨c,h2,h3⟩:=Option.bind_eq_some_iff.1 h1
  exact⟨c,_,h2,h3,by rw[List.getElem?_eq_getElem (by omega)]⟩
 have hspot:a.spot=none:=by
  obtain⟨c,y,h1,_,_⟩:=at0 0 hpos
  obtain⟨_,h2,h3⟩:=World.cells?_some h1
  have h4:=h3 0 h0
  rw[List.getElem?_eq_getElem (by omega)] at h4
  have:=zxa h4
  simpa[Addr.add] using this
 obtain⟨b,off,sp⟩:=a
 simp only at hspot
 subst hspot
 have build:∀m,m≤len→∃(es:List PV) (cc:List Value),es.length=m∧(∀p∈es,p.cells.length=P.cellsOf e∧Q p)∧PRs (CV w) (es.flatMap PV.cells) cc∧(∀(k:Nat) v',cc[k]?=some v'→w.cell? ⟨b,off+k,none⟩=some v'):=by
  intro m
  induction m with
  |zero=>exact fun _=>⟨[],[],rfl,fun p h=>(by cases h),.nil,fun k v' h=>by simp at h⟩
  |succ m ih=>
   intro hm1
   obtain⟨es,cc,h1,h2,h3,h4⟩:=ih (by omega)
   obtain⟨c,y,k1,k2,k3⟩:=at0 m (by omega)
   obtain⟨p,p1,p2,p3⟩:=he n' c y k2 (fun q hq=>hm q (List.mem_cons_of_mem _ (List.mem_append_left _ (zsi (List.mem_map.2 ⟨y,List.mem_of_getElem? k3,rfl⟩) q hq))))
   obtain⟨_,g2,g3⟩:=World.cells?_some k1
   have hlen2:cc.length=m*P.cellsOf e:=by rw[← h3.1,zdz (fun x hx=>(h2 x hx).1),h1]
   refine⟨es++[p],cc++c,by simp[h1],fun x hx=>?_,by simpa using h3.append p2,fun k v' hk=>?_⟩
   ·rcases List.mem_append.1 hx with hx|hx
    ·exact h2 x hx
    simp at hx;subst hx;exact⟨p1,p3⟩
   by_cases hkc:k<cc.length
   ·rw[List.getElem?_append_left hkc] at hk;exact h4 k v' hk
   rw[List.getElem?_append_right (by omega)] at hk
   have hlt:=(List.getElem?_eq_some_iff.1 hk).1
   have:=g3 (k - cc.length) (by omega)
   rw[zd4,zd4,hk] at this
   rw[← this]
   congr 2
   omega
 obtain⟨es,cc,h1,h2,h3,h4⟩:=build len (Nat.le_refl _)
 have hb:b<w.heap.size:=by
  obtain⟨c,y,k1,_,_⟩:=at0 0 hpos
  have:=World.cells?_block k1 h0
  simpa[Addr.add] using this
 refine⟨.vec es,by rw[hc];rfl,.cons ?_ .nil,es,rfl,fun x hx=>(h2 x hx).2,by omega,by rw[h1];exact hwt⟩
 subst h1
 exact .vec es b off cap (P.cellsOf e) cc hlc hbound h0 (fun p hp=>(h2 p hp).1) hb h4 h3.1.symm (fun k v v' hv hv'=>h3.2 k v v' hv hv')
theorem zjl {t e:TypeId}{Q:PV→Prop}(ht:P.underlying t=some (.slice e))(hc:P.cellsOf t=1)(h0:0<P.cellsOf e)(hby:0<P.bytesOf e)(he:Reads enc P w e Q) :
 Reads enc P w t fun p=>∃es,p=.vec es∧(∀x∈es,Q x)∧es.length<inex:=(zrb ht hc h0 hby he).mono fun p ⟨es,h1,h2,h3,_⟩=>⟨es,h1,h2,h3⟩
def total (P:Program):List Field→Nat
 |[]=>0
 |f::r=>P.cellsOf f.type+total P r
def zi3 (P:Program):Nat→List Field→Bool
 |_,[]=>true
 |off,f::r=>decide (f.offset=off)&&zi3 P (off+P.cellsOf f.type) r
theorem zk9 {n:Nat}{cs:List Value}:∀(fs:List Field) (off:Nat) (Qs:List (PV→Prop)) (xs:List (DataW H×List MemPlace)),fs.length=Qs.length→(∀(i:Nat) f Q,fs[i]?=some f→Qs[i]?=some Q→Reads enc P w f.type Q)→zi3 P off fs=true→
  xs.length=fs.length→off+total P fs≤cs.length→
  (∀(i:Nat) (f:Field),fs[i]?=some f→DataW.trod enc P w 0 (fun _=>true) true n f.type ((cs.drop f.offset).take (P.cellsOf f.type))=xs[i]?)→
  (∀m∈DataW.weightsEach P (fs.map (·.type)) (xs.map (·.1)),m≤reachBytes)→
  ∃ps:List PV,ps.length=fs.length∧(ps.flatMap PV.cells).length=total P fs∧PRs (CV w) (ps.flatMap PV.cells) ((cs.drop off).take (total P fs))∧∀(i:Nat) Q p,Qs[i]?=some Q→ps[i]?=some p→Q p
 |[],off,Qs,xs,hQ,_,_,_,_,_,_=>⟨[],rfl,rfl,by simp only[total,List.take_zero];exact .nil,fun i Q p _ hp=>by simp at hp⟩
 |f::fs,off,[],xs,hQ,_,_,_,_,_,_=>by simp at hQ
 |f::fs,off,Q::Qs,[],_,_,_,hx,_,_,_=>by simp at hx
 |f::fs,off,Q::Qs,x::xs,hQ,hr,hcg,hx,htot,htr,hm=>by
  simp only[zi3,xfr,decide_eq_true_eq] at hcg
  obtain⟨ho,hcg⟩:=hcg
  simp only[total] at htot
  simp only[List.map_cons,DataW.weightsEach,List.mem_append] at hm
  have t0:=htr 0 f rfl
  simp only[List.getElem?_cons_zero] at t0
  obtain⟨p,p1,p2,p3⟩:=hr 0 f Q rfl rfl n _ x t0 (fun m h=>hm m (.inl h))
  obtain⟨ps,h1,h2,h3,h4⟩:=zk9 (n:=n) (cs:=cs) fs (off+P.cellsOf f.type) Qs xs (by simpa using hQ) (fun i f Q hf hq=>hr (i+1) f Q (by simpa using hf) (by simpa using hq)) hcg (by simpa using hx) (by omega)
   (fun i f' hf=>by have:=htr (i+1) f' (by simpa using hf);simpa using this) (fun m h=>hm m (.inr h))
  refine⟨p::ps,by simp[h1],by simp[total,h2,p1],?_,fun i Q' p' hq hp=>?_⟩
  ·have e1:(cs.drop off).take (total P (f::fs))=(cs.drop f.offset).take (P.cellsOf f.type)++(cs.drop (off+P.cellsOf f.type)).take (total P fs):=by
    subst ho
    rw[total,List.take_add,List.drop_drop]
   rw[e1,List.flatMap_cons]
   exact p2.append h3
  cases i with
  |zero=>simp at hq hp;subst hq;subst hp;exact p3
  |succ i=>exact h4 i Q' p' (by simpa using hq) (by simpa using hp)
theorem zeo {t:TypeId}{fs:Array Field}(Qs:List (PV→Prop))(ht:P.underlying t=some (.struct fs))(hQ:fs.toList.length=Qs.length)(hr:∀(i:Nat) f Q,fs.toList[i]?=some f→Qs[i]?=some Q→Reads enc P w f.type Q)
  (hcg:zi3 P 0 fs.toList=true) (htot:total P fs.toList=P.cellsOf t):Reads enc P w t fun p=>∃ps:List PV,p=.agg (ps.flatMap PV.cells)∧ps.length=Qs.length∧∀(i:Nat) Q p,Qs[i]?=some Q→ps[i]?=some p→Q p:=by
 intro n cs x hx hm
 obtain⟨xs,n',_,rfl,hl,hlen,hf⟩:=DataW.trod_struct ht hx
 simp only[DataW.weights,ht] at hm
 obtain⟨ps,h1,h2,h3,h4⟩:=zk9 (n:=n') (cs:=cs) fs.toList 0 Qs xs hQ hr hcg (by simpa using hlen) (by rw[htot];omega) (fun i f hfi=>hf i f (by simpa using hfi)) hm
 refine⟨.agg (ps.flatMap PV.cells),by rw[← htot];exact h2,?_,ps,rfl,by rw[h1,hQ],h4⟩
 have e:(cs.drop 0).take (total P fs.toList)=cs:=by rw[htot,← hl];simp
 rw[e] at h3
 exact h3
end
end Go.Am
end
/-
 The value machine, part S: a call that touches nothing leaves the arguments as they read.
-/
section
namespace Go.Am
open Go.ChangeShapes Go.WideShapes
section
variable {H:Type} {enc:TypeId×Value→H} {P:Program} {w w':World}
theorem zgp.sameAt (u:zgp w w'){p:MemPlace}(hp:p.block<w.heap.size):w.sameAt w' p:=by
 cases p with
 |cell b off=>exact zhi (u.2.2 b hp)
 |map b=>exact u.2.2 b hp
theorem zgp.keptBut (u:zgp w w')(may:MemPlace→Prop):w.keptBut w' may:=by
 refine⟨u.1.1,u.1.2,fun i hi=>?_⟩
 rw[u.2.2 i hi]
 cases w.heap[i]? with
 |none=>rfl
 |some o=>cases o<;>first|exact⟨rfl,rfl,rfl,fun _ _=>rfl⟩|exact .inr ⟨rfl,rfl⟩|rfl
theorem zjx {base:Nat}{spare:Nat→Bool}{held:Bool}:∀ {ts:List TypeId} {vs:List Value} {ds:List (DataW H)} {ps:List MemPlace},DataW.TrodAll enc P w base spare held ts vs ds ps→(∀p∈ps,w.sameAt w' p)→
  DataW.TrodAll enc P w' base spare held ts vs ds ps
 |[],_,_,_,h,_=>by
  obtain⟨rfl,rfl,rfl⟩:=trodAll_nil h
  exact trodAll_mk0
 |_::_,_,_,_,h,hs=>by
  obtain⟨v,vs1,d,ds1,a,b,rfl,rfl,rfl,⟨n,h1⟩,h2⟩:=trodAll_cons h
  exact⟨a,b,⟨n,DataW.trod_carry n _ _ _ h1 (fun p hp=>hs p (List.mem_append_left _ hp))⟩,zjx h2 (fun p hp=>hs p (List.mem_append_right _ hp)),rfl⟩
theorem znt {T:TypeId→Prop}(K:Kids P T)(hz:∀t e,T t→P.underlying t=some (.slice e)→0<P.cellsOf e){f:Func}(hT:∀t∈f.params.toList,T t){s:ChangeSpec}{apart fresh handsOn:Bool}{args:Array Value}{v:Value}
  {ds gs:List (DataW H)} {before:List MemPlace} (hW:DataW.Whole enc P f.params.toList s.vars apart w args.toList ds gs before) (hvars:s.vars=[])
  (hres:∀(b:Nat) (sp:Nat→Bool) (hd:Bool),DataW.TrodAll enc P w' b sp hd f.resultTypes.toList (v.resultList f.resultTypes.size) (s.fn H (ds++gs)).results [])
  (hargs:(s.fn H (ds++gs)).args=ds) (hv:(s.fn H (ds++gs)).vars=[]) (hu:zgp w w'):s.post enc P f apart fresh handsOn false w args v w':=by
 have hlt:=hW.lt
 refine⟨ds,gs,before,[],before,[],hW,hres _ _ _,?_,by rw[hvars,hv];rfl,hu.keptBut _,fun h=>by cases h⟩
 obtain⟨p,q,h1,h2,rfl,_,_⟩:=hW
 rw[hvars] at h2
 obtain⟨_,rfl⟩:=trodVars_none h2
 rw[List.append_nil] at hlt ⊢
 rw[hargs]
 exact DataW.TrodAll.respare K hz hT (zjx h1 (fun x hx=>hu.sameAt (hlt x hx))) (fun x hx=>by simpa using hlt x hx)
def zwf (enc:TypeId×Value→H)(P:Program)(w:World)(base:Nat)(t:TypeId)(Q:PV→Prop):Prop:=
 ∀v d p,Value.okWide P w .any base t v→DataW.Trod enc P w 0 (fun _=>true) true t v d p→(∀m∈d.weights P t,m≤reachBytes)→∃pv:PV,CV w pv v∧Q pv
theorem zh5 {base:Nat}{t:TypeId}{fs:Array Field}{Q:PV→Prop}(ht:P.underlying t=some (.struct fs))(hq:∀p,Q p→∃cs,p=.agg cs)(hr:Reads enc P w t Q):zwf enc P w base t Q:=by
 intro v d p hok ⟨n,hn⟩ hm
 obtain⟨cs,rfl,_⟩:=okWide_struct ht hok
 obtain⟨pv,_,h2,h3⟩:=hr n _ _ hn hm
 obtain⟨ps,rfl⟩:=hq pv h3
 exact⟨_,.agg ps cs (by have:=h2.1;simpa[PV.cells,Value.cells] using this) (fun i v v' hv hv'=>h2.2 i v v' hv (by simpa[Value.cells] using hv')),h3⟩
theorem zyi {base:Nat}:∀ {ts:List TypeId} (Qs:List (PV→Prop)) {vs:List Value} {ds:List (DataW H)} {ps:List MemPlace},ts.length=Qs.length→(∀(i:Nat) t Q,ts[i]?=some t→Qs[i]?=some Q→zwf enc P w base t Q)→
  (∀(i:Nat) t v,ts[i]?=some t→vs[i]?=some v→Value.okWide P w .any base t v)→DataW.TrodAll enc P w 0 (fun _=>true) true ts vs ds ps→(∀m∈DataW.weightsEach P ts ds,m≤reachBytes)→
  ∃pvs:List PV,pvs.length=Qs.length∧PRs (CV w) pvs vs∧∀(i:Nat) Q p,Qs[i]?=some Q→pvs[i]?=some p→Q p
 |[],[],_,_,_,_,_,_,h,_=>by
  obtain⟨rfl,rfl,rfl⟩:=trodAll_nil h
  exact⟨[],rfl,.nil,fun i Q p _ hp=>by simp at hp⟩
 |[],_::_,_,_,_,hl,_,_,_,_=>by simp at hl
 |_::_,[],_,_,_,hl,_,_,_,_=>by simp at hl
 |t::ts,Q::Qs,_,_,_,hl,ha,hok,h,hm=>by
  obtain⟨v,vs1,d,ds1,a,b,rfl,rfl,rfl,h1,h2⟩:=trodAll_cons h
  simp only[DataW.weightsEach,List.mem_append] at hm
  obtain⟨p,k1,k2⟩:=ha 0 t Q rfl rfl v d a (hok 0 t v rfl rfl) h1 (fun m hx=>hm m (.inl hx))
  obtain⟨pvs,k3,k4,k5⟩:=zyi (base:=base) Qs (by simpa using hl) (fun i t Q ht hq=>ha (i+1) t Q (by simpa using ht) (by simpa using hq)) (fun i t v ht hv=>hok (i+1) t v (by simpa using ht) (by simpa using hv)) h2 (fun m hx=>hm m (.inr hx))
  refine⟨p::pvs,by simp[k3],k4.cons k1,fun i Q' p' hq hp=>?_⟩
  cases i with
  |zero=>simp at hq hp;subst hq;subst hp;exact k2
  |succ i=>exact k5 i Q' p' (by simpa using hq) (by simpa using hp)
theorem zrt {T:TypeId→Prop}(K:Kids P T)(hz:∀t e,T t→P.underlying t=some (.slice e)→0<P.cellsOf e){fid:FuncId}{f:Func}(hT:∀t∈f.params.toList,T t){tb:TypeId}(hb:P.underlying tb=some .bool)(hrt:f.resultTypes=#[tb])
  {s:ChangeSpec} (hvars:s.vars=[]) {base:Nat} {args:Array Value} {ds gs:List (DataW H)} {before:List MemPlace}
  (hval:∀(j:Nat) t v,f.params[j]?=some t→args[j]?=some v→Value.okWide P w .any base t v) (hW:DataW.Whole enc P f.params.toList s.vars false w args.toList ds gs before)
  (hsz:(DataW.weightsEach P (f.params.toList++s.plain.varTypes P) (ds++gs)).all (·≤reachBytes)=true) (hvt:s.plain.varTypes P=[])
  (hspec:∀l:List (DataW H),l.length=f.params.toList.length→s.fn H l={ results:=[.lit (.bool true)],args:=l })
  (Qs:List (PV→Prop)) (hQ:f.params.toList.length=Qs.length) (ha:∀(i:Nat) t Q,f.params.toList[i]?=some t→Qs[i]?=some Q→zwf enc P w base t Q)
  (walk:∀pvs:List PV,pvs.length=Qs.length→(∀(i:Nat) Q p,Qs[i]?=some Q→pvs[i]?=some p→Q p)→zat P fid pvs fun r=>r=.bool true) :
  Calls P fid args w fun e w'=>∃v,e=.returned v∧s.post enc P f false true false false w args v w':=by
 have hW':=hW
 obtain⟨p,q,h1,h2,rfl,_,_⟩:=hW
 rw[hvars] at h2
 obtain⟨rfl,rfl⟩:=trodVars_none h2
 rw[hvt,List.append_nil,List.append_nil] at hsz
 have hds:ds.length=f.params.toList.length:=by
  have:∀ {ts:List TypeId} {vs:List Value} {ds:List (DataW H)} {ps:List MemPlace},DataW.TrodAll enc P w 0 (fun _=>true) true ts vs ds ps→ds.length=ts.length:=by
   intro ts
   induction ts with
   |nil=>intro vs ds ps h;obtain⟨_,rfl,_⟩:=trodAll_nil h;rfl
   |cons t ts ih=>intro vs ds ps h;obtain⟨_,_,_,_,_,_,_,rfl,_,_,h⟩:=trodAll_cons h;simp[ih h]
  exact this h1
 obtain⟨pvs,k1,k2,k3⟩:=zyi (base:=base) Qs hQ ha (fun i t v ht hv=>hval i t v (by simpa using ht) (by simpa using hv)) h1 (fun m hm=>by simpa using List.all_eq_true.1 hsz m hm)
 refine((walk pvs k1 k3).enter (w:=w) (cargs:=args) (by have:=k2.1;simpa using this) (fun i v v' hv hv'=>k2.2 i v v' hv (by simpa using hv'))).mono fun e w' ⟨he,hu⟩=>⟨_,he,?_⟩
 have hs:=hspec (ds++[]) (by simpa using hds)
 refine znt K hz hT hW' hvars (fun b sp hd=>?_) (by rw[hs];simp) (by rw[hs]) hu
 rw[hs,hrt]
 exact trodAll_mk1 (v:=.bool true) (p:=[]) ⟨1,by simp[Value.cells,DataW.trod,hb]⟩
end
end Go.Am
end
/-
 The value machine, part T: a closed call that was evaluated.
-/
section
namespace Go.Am
theorem zat.of_closed {P:Program}{f:FuncId}{b:Bool}(hc:zc0 P 0 f [] zaa.empty fun r _=>r=.bool b):zat P f [] fun r=>r=.bool b:=by
 intro lo g σ h args' ha s
 have e:args'=[]:=ha.zcd
 subst e
 have h1:zc0 P 0 f [] zaa.empty fun r _=>zen r=true∧r=.bool b:=hc.mono fun r h' hr=>by subst hr;exact⟨rfl,rfl⟩
 refine(zc0.closed h1 lo h).mono fun r h' ⟨hr,hh⟩=>?_
 subst hr;subst hh
 exact⟨g,σ,.bool b,zab.empty,.fr _ _ (.bool b),s,Fz.le_refl g,fun _ _=>rfl,VF.refl _ _ _,Nat.le_refl _,GOwn.refl _ _ _ _,rfl,rfl⟩
end Go.Am
end
/-
 The value machine, part U: ranges over functions.
-/
section
namespace Go.Am
def zab.back (vh:zab)(i:Nat)(x:VObj):zab:=⟨vh.next,(i,x)::vh.objs⟩
theorem zab.zhb (vh:zab)(i j:Nat)(x:VObj):(vh.back i x).get j=if j=i then some x else vh.get j:=by
 simp only[zab.get,zab.back,zce,beq_eq]
 by_cases h:j=i<;>simp[h]
section
variable {P:Program} {N b:Nat} {Q:zfz} {vts:VTs} {vh:zab} {lo:Nat} {g:Fz} {σ:Sg} {h:zaa}
def zb2 (vts:VTs):List (Tmp×PV)→VTs
 |[]=>vts
 |(t,v)::r=>zb2 ((t,v)::vts) r
@[irreducible] def rfEnd (i:Nat)(vts:VTs)(Q:zfz)(vh':zab):Prop:=match vh'.get i with
 |some (.loop _ _ _ _ _ none)=>Q .normal vts (vh'.drop i)
 |some (.loop _ _ _ _ _ (some .ret))=>Q .ret vts (vh'.drop i)
 |some (.loop _ _ _ _ _ (some (.exit id)))=>Q (.exit id) vts (vh'.drop i)
 |_=>False
end
end Go.Am
end
/-
 The value machine, part V: stretches whose order is drawn, with objects that float.
-/
section
namespace Go.Am
section
variable {P:Program} {N b lo:Nat} {Q:zfz} {vts:VTs} {vh vh':zab} {g g':Fz} {σ σ':Sg} {h h':zaa}
theorem VS.hide (s:VS lo g σ vh h){T:zaa}{V:zab}{ids:List Nat}(hn:T.next=h.next)(hv:V.next=vh.next)(hV:∀j x,V.get j=some x→vh.get j=some x∧j∉ids)
  (hT:∀o,T.get o=h.get o∨∃i x,i∈ids∧vh.get i=some x∧x.live=true∧(σ i).1=o):VS lo g σ V T:=by
 refine⟨fun j x hx=>?_,fun i j x y hx hy=>s.inj i j x y (hV i x hx).1 (hV j y hy).1,fun j x hx=>s.low j x (hV j x hx).1,fun o x hx=>?_,fun j x hx=>s.dis j x (hV j x hx).1,hn▸s.lole⟩
 ·obtain⟨h1,h2⟩:=hV j x hx
  obtain⟨k1,k2⟩:=s.obj j x h1
  rw[hv]
  refine⟨k1,k2.mono (Fz.le_refl g) (Nat.le_refl _) (fun _ _=>rfl) k1 fun hl=>?_⟩
  rcases hT (σ j).1 with h|⟨i,y,hi,hy,hly,he⟩
  ·exact h
  have:=s.inj i j y x hy h1 hly hl he
  subst this;exact absurd hi h2
 rcases hT o with h|⟨i,y,hi,hy,hly,he⟩
 ·rw[h];exact s.fz o x hx
 have:=s.dis i y hy hly
 rw[he,hx] at this;cases this
theorem SimR.xev {σs:Sg}{gs:Fz}{vhs:zab}{hs:zaa}{ts0 ts':Tmps}{vts0 vts':VTs}{V V2:zab}{T H2:zaa}{ids:List Nat}(a0:SimR N b lo gs σs vhs hs ts0 h g σ vts0 vh)
  (hn:T.next=h.next) (hv:V.next=vh.next) (hV:∀j x,V.get j=some x→vh.get j=some x∧j∉ids)
  (hid:∀i∈ids,∃x,vh.get i=some x∧x.live=true)
  (hT:∀o,T.get o=h.get o∨∃i,i∈ids∧(σ i).1=o)
  (a:SimR N vh.next lo g σ V T ts' h' g' σ' vts' vh')
  (h2n:H2.next=h'.next) (h2:∀o,(∃i,i∈ids∧(σ i).1=o∧H2.get o=h.get o)∨((∀i∈ids,(σ i).1≠o)∧H2.get o=h'.get o))
  (v2n:V2.next=vh'.next) (hV2:∀j x,V2.get j=some x→(j∈ids∧vh.get j=some x)∨(j∉ids∧vh'.get j=some x)) :
  SimR N b lo gs σs vhs hs ts' H2 g' σ' vts' V2:=by
 have s:=a0.s
 have lt:∀i x,vh.get i=some x→i<vh.next:=fun i x hx=>(s.obj i x hx).1
 have hag:∀i,i<vh.next→σ' i=σ i:=a.agree
 have hown:∀j z,vh'.get j=some z→z.live=true→∀i∈ids,(σ' j).1≠(σ i).1:=fun j z hz hlz i hi he=>by
  obtain⟨x,hx,hl⟩:=hid i hi
  obtain⟨k,u,k1,k2,k3⟩:=a.f.own j z hz hlz (by rw[he,hn];exact(s.obj i x hx).2.lt hl)
  obtain⟨k4,k5⟩:=hV k u k1
  have:=s.inj k i u x k4 hx k2 hl (k3.trans he)
  subst this;exact k5 hi
 have hgn:∀i∈ids,g' (σ i).1=none:=fun i hi=>by
  obtain⟨x,hx,hl⟩:=hid i hi
  cases hg:g' (σ i).1 with
  |none=>rfl
  |some z=>
   rcases a.own _ z hg (by rw[hn];exact(s.obj i x hx).2.lt hl) with h1|⟨k,u,k1,k2,k3⟩
   ·rw[s.dis i x hx hl] at h1;cases h1
   obtain⟨k4,k5⟩:=hV k u k1
   have:=s.inj k i u x k4 hx k2 hl k3
   subst this;exact absurd hi k5
 have hsame:∀j x,j∈ids→vh.get j=some x→x.live=true→H2.get (σ j).1=h.get (σ j).1:=fun j x hj hx hl=>by
  rcases h2 (σ j).1 with⟨i,hi,he,h3⟩|⟨h3,_⟩
  ·exact h3
  exact absurd rfl (h3 j hj)
 refine⟨?_,a.len,⟨fun j x hx=>?_,fun j k x y hx hy hlx hly he=>?_,fun j x hx hl=>?_,fun o x hx=>?_,fun j x hx hl=>?_,h2n▸a.s.lole⟩,Fz.le_trans a0.le a.le,fun i hi=>(hag i (Nat.lt_of_lt_of_le hi a0.base)).trans (a0.agree i hi),
  ⟨h2n▸(Nat.le_trans a0.f.next (hn▸a.f.next)),fun o ho hno=>?_,fun j x hx hl hlt=>?_⟩,v2n▸(Nat.le_trans a0.base a.base),fun o x hx ho=>?_⟩
 ·rw[v2n];exact a.t
 ·rw[v2n]
  rcases hV2 j x hx with⟨hj,hx⟩|⟨hj,hx⟩
  ·obtain⟨k1,k2⟩:=s.obj j x hx
   exact⟨Nat.lt_of_lt_of_le k1 a.base,k2.mono a.le a.base hag k1 fun hl=>hsame j x hj hx hl⟩
  obtain⟨k1,k2⟩:=a.s.obj j x hx
  refine⟨k1,k2.mono (Fz.le_refl g') (Nat.le_refl _) (fun _ _=>rfl) k1 fun hl=>?_⟩
  rcases h2 (σ' j).1 with⟨i,hi,he,h3⟩|⟨_,h3⟩
  ·exact absurd he.symm (hown j x hx hl i hi)
  exact h3
 ·rcases hV2 j x hx with⟨hj,hx⟩|⟨hj,hx⟩<;>rcases hV2 k y hy with⟨hk,hy⟩|⟨hk,hy⟩
  ·rw[hag j (lt j x hx),hag k (lt k y hy)] at he;exact s.inj j k x y hx hy hlx hly he
  ·rw[hag j (lt j x hx)] at he;exact absurd he.symm (hown k y hy hly j hj)
  ·rw[hag k (lt k y hy)] at he;exact absurd he (hown j x hx hlx k hk)
  exact a.s.inj j k x y hx hy hlx hly he
 ·rcases hV2 j x hx with⟨hj,hx⟩|⟨hj,hx⟩
  ·rw[hag j (lt j x hx)];exact s.low j x hx hl
  exact a.s.low j x hx hl
 ·rcases h2 o with⟨i,hi,he,h3⟩|⟨_,h3⟩
  ·subst he;rw[hgn i hi] at hx;cases hx
  rw[h3];exact a.s.fz o x hx
 ·rcases hV2 j x hx with⟨hj,hx⟩|⟨hj,hx⟩
  ·rw[hag j (lt j x hx)];exact hgn j hj
  exact a.s.dis j x hx hl
 ·have h3:=a0.f.pres o ho hno
  have hlt:o<h.next:=Nat.lt_of_lt_of_le ho a0.f.next
  rcases h2 o with⟨i,hi,he,h4⟩|⟨h4,h5⟩
  ·rw[h4,h3]
  rw[h5,a.f.pres o (by rw[hn];exact hlt) fun j x hx hl he=>?_]
  ·rcases hT o with h6|⟨i,hi,he⟩
   ·rw[h6,h3]
   exact absurd he (h4 i hi)
  obtain⟨k,u,k1,k2,k3⟩:=a0.f.own j x (hV j x hx).1 hl (by rw[he];exact ho)
  exact hno k u k1 k2 (k3.trans he)
 ·rcases hV2 j x hx with⟨hj,hx⟩|⟨hj,hx⟩
  ·rw[hag j (lt j x hx)] at hlt ⊢;exact a0.f.own j x hx hl hlt
  obtain⟨k,u,k1,k2,k3⟩:=a.f.own j x hx hl (by rw[hn];exact Nat.lt_of_lt_of_le hlt a0.f.next)
  obtain⟨q,w,q1,q2,q3⟩:=a0.f.own k u (hV k u k1).1 k2 (by rw[k3];exact hlt)
  exact⟨q,w,q1,q2,q3.trans k3⟩
 rcases a.own o x hx (by rw[hn];exact Nat.lt_of_lt_of_le ho a0.f.next) with h3|⟨k,u,k1,k2,k3⟩
 ·exact a0.own o x h3 ho
 obtain⟨q,w,q1,q2,q3⟩:=a0.f.own k u (hV k u k1).1 k2 (by rw[k3];exact ho)
 exact .inr ⟨q,w,q1,q2,q3.trans k3⟩
def vopA (P:Program)(vts:VTs)(vh:zab):Op→Option (PV×VObj)
 |.alloc t=>(zb1 P t).map fun z=>(.ptr vh.next 0,.box z)
 |.box _ x=>(za6 vts x).map fun v=>(.ptr vh.next 0,.box v.cells)
 |.buildSlice t n parts=>match zb4 vts parts.toList with
  |some l=>match zak P ⟨vh.next,[]⟩ t n l with
   |some (v,vh2)=>match vh2.get vh.next with
    |some x=>some (v,x)
    |none=>none
   |none=>none
  |none=>none
 |.makeSlice t l c=>match za6 vts l,za6 vts c with
  |some a,some b=>match zaq P ⟨vh.next,[]⟩ t a b with
   |some (v,vh2)=>match vh2.get vh.next with
    |some x=>some (v,x)
    |none=>none
   |none=>none
  |_,_=>none
 |_=>none
theorem z2w {ts:Tmps}(ht:VT g σ vh.next vts ts){op:Op}{v:PV}{x:VObj}(hv:vopA P vts vh op=some (v,x))(id:Nat):∃v' y,aopA P ts id op=some (v',y)∧x.live=true∧
  ∀(σ2:Sg) (h2:zaa),σ2 vh.next=(id,0,0)→(∀i,i<vh.next→σ2 i=σ i)→h2.get id=some y→VR g σ2 (vh.next+1) v v'∧VRO g σ2 (vh.next+1) h2 vh.next x:=by
 cases op<;>simp only[vopA] at hv<;>try (cases hv;done)
 case alloc t=>
  obtain⟨z,h1,h2⟩:=zad hv
  simp only[xfn] at h2
  obtain⟨rfl,rfl⟩:=h2
  obtain⟨z',k1,k2⟩:=zfa (g:=g) h1
  refine⟨_,_,by simp only[aopA,k1];rfl,rfl,fun σ2 h2 e1 e2 e3=>⟨?_,0,z',by rw[e1];exact e3,by rw[e1],k2.vr⟩⟩
  have:=VR.ptr (g:=g) (σ:=σ2) (n:=vh.next+1) vh.next 0 id 0 0 (by omega) e1
  simpa using this
 case box t y=>
  obtain⟨u,h1,h2⟩:=zad hv
  simp only[xfn] at h2
  obtain⟨rfl,rfl⟩:=h2
  obtain⟨u',k1,k2⟩:=zao ht h1
  refine⟨_,_,by simp only[aopA,k1];rfl,rfl,fun σ2 h2 e1 e2 e3=>⟨?_,0,u'.cells.toList,by rw[e1];exact e3,by rw[e1],k2.cells.zyz (Fz.le_refl g) (Nat.le_succ _) e2⟩⟩
  have:=VR.ptr (g:=g) (σ:=σ2) (n:=vh.next+1) vh.next 0 id 0 0 (by omega) e1
  simpa using this
 case buildSlice t len parts=>
  split at hv
  ·rename_i l hl
   obtain⟨l',k1,k2⟩:=zj2 ht hl
   split at hv
   ·rename_i v0 vh2 hb
    unfold zak at hb
    split at hb
    ·rename_i e n2 hte
     split at hb
     ·rename_i z ag hz hag
      obtain⟨z',h1,h2⟩:=zfa (g:=g) hz
      cases hbb:(Nat.beq z.length n2&&Nat.ble (len*n2) 16777216&&Nat.blt 0 n2) with
      |false=>rw[hbb] at hb;cases hb
      |true=>
       rw[hbb] at hb
       simp only[xfp] at hb
       split at hb
       ·rename_i cs hf
        cases ha:PV.allF cs with
        |false=>rw[ha] at hb;cases hb
        |true=>
         rw[ha] at hb
         simp only[xfp,xfm,xfn] at hb
         obtain⟨rfl,rfl⟩:=hb
         have hg0:(zab.alloc ⟨vh.next,[]⟩ (.arr ag n2 cs)).get vh.next=some (.arr ag n2 cs):=by rw[zab.zay];simp
         rw[hg0] at hv
         simp only[xfm,xfn] at hv
         obtain⟨rfl,rfl⟩:=hv
         obtain⟨cs',h4,h5⟩:=zjo k2 (zim h2.vr len) hf
         have hb':(Nat.beq z'.length n2&&Nat.ble (len*n2) 16777216&&Nat.blt 0 n2)=true:=by rw[← h2.1];exact hbb
         simp only[xfr,Nat.blt_eq,Nat.ble_eq] at hbb
         have hlen:len≤len*n2:=Nat.le_mul_of_pos_right _ hbb.2
         have hin:(16777216:Nat)<inex:=by decide
         refine⟨_,_,by simp only[aopA,k1,hte,h1,hb',xfp,h4];rfl,rfl,fun σ2 h3 e1 e2 e3=>⟨?_,hbb.2,0,cs',by rw[e1];exact e3,by rw[e1],h5.isF ha⟩⟩
         have:=VR.own (g:=g) (σ:=σ2) (n:=vh.next+1) vh.next 0 len len id 0 0 (by omega) e1 (Nat.le_refl _) (by omega)
         simpa using this
       cases hb
     cases hb
    cases hb
   cases hv
  cases hv
 case makeSlice t lx cx=>
  split at hv
  ·rename_i la ca hla hca
   obtain⟨l',q1,q2⟩:=zao ht hla
   obtain⟨c',q3,q4⟩:=zao ht hca
   split at hv
   ·rename_i v0 vh2 hb
    unfold zaq at hb
    split at hb
    ·rename_i l c e n hte
     have:=q2.isF rfl;cases this
     have:=q4.isF rfl;cases this
     split at hb
     ·rename_i z bytes ag hz hby hag
      obtain⟨z',h1,h2⟩:=zfa (g:=g) hz
      cases hbb:(decide (0≤l∧l≤c∧c≤4294967296)&&Nat.beq z.length n&&Nat.ble bytes 4096&&Nat.blt 0 n) with
      |false=>rw[hbb] at hb;cases hb
      |true=>
       rw[hbb] at hb
       simp only[xfp,xfm,xfn] at hb
       obtain⟨rfl,rfl⟩:=hb
       have hg0:(zab.alloc ⟨vh.next,[]⟩ (.arr ag n (zda z c.toNat))).get vh.next=some (.arr ag n (zda z c.toNat)):=by rw[zab.zay];simp
       rw[hg0] at hv
       simp only[xfm,xfn] at hv
       obtain⟨rfl,rfl⟩:=hv
       simp only[xfr,decide_eq_true_eq,Nat.blt_eq,Nat.ble_eq] at hbb
       obtain⟨⟨⟨⟨hb1,hb2,hb3⟩,hb4⟩,hb5⟩,hb6⟩:=hbb
       have hzl:z'.length=n:=by rw[← h2.1];simpa using hb4
       cases l with
       |negSucc l=>omega
       |ofNat l=>
        cases c with
        |negSucc c=>omega
        |ofNat c=>
         have e1:l≤c:=by have:(l:Int)≤(c:Int):=hb2;omega
         have e2:c≤4294967296:=by have:(c:Int)≤4294967296:=hb3;omega
         have e3:bytes*c≤4096*4294967296:=Nat.mul_le_mul hb5 e2
         have hcond:(Nat.beq z'.length n&&Nat.ble l c&&Nat.ble (bytes*c) 281474976710656&&Nat.blt 0 n&&Nat.ble c 281474976710656)=true:=by
          simp only[xfr,Nat.ble_eq,Nat.blt_eq]
          exact⟨⟨⟨⟨by rw[hzl];exact Nat.beq_refl n,e1⟩,by omega⟩,hb6⟩,by omega⟩
         have hin:(4294967296:Nat)<inex:=by decide
         refine⟨_,_,by simp only[aopA,q1,q3,hte,h1,hby,hcond,xfp];rfl,rfl,fun σ2 h3 k1 k2 k3=>⟨?_,hb6,0,reps z' c,by rw[k1];exact k3,by rw[k1],zim h2 c⟩⟩
         have:=VR.own (g:=g) (σ:=σ2) (n:=vh.next+1) vh.next 0 l c id 0 0 (by omega) k1 e1 (by omega)
         simpa using this
     cases hb
    cases hb
   cases hv
  cases hv
end
end Go.Am
end
/-
 The value machine, part W: schedules with objects that float.
-/
section
namespace Go.Am
theorem zcg {base:Nat}{M:Nat→Bool}{h:zaa}:∀fl:List (Nat×AObj),(zcw base M fl h).next=h.next
 |[]=>rfl
 |(i,x)::r=>by
  simp only[zcw]
  cases M i<;>simp[zcg r]
theorem ze6 {base:Nat}{M:Nat→Bool}{h:zaa}{o:Nat}:∀ {fl:List (Nat×AObj)},(∀q∈fl,base+q.1<h.next)→(∀q∈fl,M q.1=true→base+q.1≠o)→(zcw base M fl h).get o=h.get o
 |[],_,_=>rfl
 |(i,x)::r,hl,hq=>by
  have ih:=ze6 (base:=base) (M:=M) (h:=h) (o:=o) (fl:=r) (fun q hm=>hl q (List.mem_cons_of_mem _ hm)) fun q hm=>hq q (List.mem_cons_of_mem _ hm)
  simp only[zcw]
  cases hM:M i with
  |false=>simpa using ih
  |true=>
   have h1:=hl (i,x) List.mem_cons_self
   rw[xfp,zaa.zaw _ _ _ _ (by rw[zcg];exact h1),if_neg fun he=>hq (i,x) List.mem_cons_self hM he.symm,ih]
theorem zj4 {base:Nat}{M:Nat→Bool}{h:zaa}:∀ {fl:List (Nat×AObj)},(∀q∈fl,base+q.1<h.next)→(fl.map (·.1)).Nodup→∀q∈fl,M q.1=true→(zcw base M fl h).get (base+q.1)=some q.2
 |[],_,_,q,hq,_=>by cases hq
 |(i,x)::r,hl,hn,q,hq,hM=>by
  rw[List.map_cons,List.nodup_cons] at hn
  have hr:∀q∈r,base+q.1<h.next:=fun q hm=>hl q (List.mem_cons_of_mem _ hm)
  have h1:=hl (i,x) List.mem_cons_self
  simp only[zcw]
  rcases List.mem_cons.1 hq with rfl|hq
  ·rw[hM,xfp,zaa.zaw _ _ _ _ (by rw[zcg];exact h1),if_pos rfl]
  have ih:=zj4 (base:=base) (M:=M) hr hn.2 q hq hM
  cases hMi:M i with
  |false=>simpa using ih
  |true=>
   have hne:base+q.1≠base+i:=fun he=>hn.1 (by
    have:q.1=i:=by omega
    exact List.mem_map.2 ⟨q,hq,this⟩)
   rw[xfp,zaa.zaw _ _ _ _ (by rw[zcg];exact h1),if_neg hne,ih]
def hidF (ms:List Nat)(k:Nat)(vfl:List (Nat×Nat)):List (Nat×Nat):=vfl.filter fun p=>!bm ms p.1 k
def hidI (ms:List Nat)(k:Nat)(vfl:List (Nat×Nat)):List Nat:=(hidF ms k vfl).map (·.2)
def zdh (vh0:zab):List Nat→zab→zab
 |[],vh=>vh
 |i::r,vh=>match vh0.get i with
  |some x=>(zdh vh0 r vh).back i x
  |none=>zdh vh0 r vh
theorem zk4 (vh0:zab):∀(l:List Nat) (vh:zab),(zdh vh0 l vh).next=vh.next
 |[],_=>rfl
 |i::r,vh=>by
  simp only[zdh]
  split
  ·exact zk4 vh0 r vh
  exact zk4 vh0 r vh
theorem zrz (vh0:zab):∀(l:List Nat) (vh:zab),(∀i∈l,∃x,vh0.get i=some x)→∀j x,(zdh vh0 l vh).get j=some x→(j∈l∧vh0.get j=some x)∨(j∉l∧vh.get j=some x)
 |[],vh,_,j,x,h=>.inr ⟨by simp,h⟩
 |i::r,vh,hl,j,x,h=>by
  obtain⟨y,hy⟩:=hl i List.mem_cons_self
  simp only[zdh,hy,zab.zhb] at h
  by_cases hj:j=i
  ·subst hj;simp at h;subst h;exact .inl ⟨List.mem_cons_self,hy⟩
  simp[hj] at h
  rcases zrz vh0 r vh (fun k hk=>hl k (List.mem_cons_of_mem _ hk)) j x h with⟨h1,h2⟩|⟨h1,h2⟩
  ·exact .inl ⟨List.mem_cons_of_mem _ h1,h2⟩
  exact .inr ⟨by simp[hj,h1],h2⟩
structure FlA (base:Nat) (σ':Sg) (vh':zab) (h':zaa) (vfl:List (Nat×Nat)) (fl:List (Nat×AObj)):Prop where
  ms:vfl.map (·.1)=fl.map (·.1)
  nd:(fl.map (·.1)).Nodup
  place:∀p∈vfl,(σ' p.2).1=base+p.1∧∃x,vh'.get p.2=some x∧x.live=true
  free:∀q∈fl,h'.get (base+q.1)=none∧base+q.1<h'.next
def zeu (P:Program)(N b:Nat)(ops:Array Oper)(ms W As:List Nat)(K:VTs→zab→Prop):List zfl→List Nat→List (Nat×Nat)→List Nat→VTs→zab→Prop
 |[],_,_,_,vts,vh=>K vts vh
 |.op m::r,todo,vfl,Ar,vts,vh=>
  match ops[m]? with
  |none=>False
  |some o=>match zaz ops o vts with
   |none=>False
   |some false=>zc1 N o.dst=true∧zeu P N b ops ms W As K r (zee ops todo o.dst) vfl Ar (tput vts o.dst (.tup [])) vh
   |some true=>bif W.contains m then zfb P N vh.next ops o todo (fun todo' vts2 vh2=>zeu P N b ops ms W As K r todo' (hidF ms m vfl) Ar vts2 (zdh vh (hidI ms m vfl) vh2)) vts (zcc (hidI ms m vfl) vh)
    else bif Ar.contains m then As.contains m=true∧zc1 N o.dst=true∧∃v x,vopA P vts vh o.op=some (v,x)∧zeu P N b ops ms W As K r (zee ops todo o.dst) ((m,vh.next)::vfl) (Ar.filter fun k=>!Nat.beq k m) (tput vts o.dst v) (vh.alloc x)
    else As.contains m=false∧isR o.op=true∧zc1 N o.dst=true∧∃v,vop P vts (zcc (hidI ms m vfl) vh) o.op=some (v,zcc (hidI ms m vfl) vh)∧
     zeu P N b ops ms W As K r (bif zfm o&&vfl.isEmpty then m::zee ops todo o.dst else zee ops todo o.dst) vfl Ar (tput vts o.dst v) vh
 |.ck m::r,todo,vfl,Ar,vts,vh=>
  match ops[m]? with
  |none=>False
  |some o=>(todo.contains m=true∨o.dst.isSome=true∧zaz ops o vts=some false)∧zeu P N b ops ms W As K r todo vfl Ar vts vh
section
variable {P:Program} {N b lo:Nat} {ops:Array Oper} {g g':Fz} {σ σ':Sg} {vh vh':zab} {hs h':zaa} {base:Nat} {ms W As:List Nat}
theorem zw4 {k:Nat}{vfl:List (Nat×Nat)}{i:Nat}(h:i∈hidI ms k vfl):∃p∈vfl,p.2=i∧bm ms p.1 k=false:=by
 unfold hidI hidF at h
 obtain⟨p,h1,h2⟩:=List.mem_map.1 h
 obtain⟨h3,h4⟩:=List.mem_filter.1 h1
 exact⟨p,h3,h2,by simpa using h4⟩
theorem z2c {k:Nat}{vfl:List (Nat×Nat)}{p:Nat×Nat}(h:p∈vfl)(hb:bm ms p.1 k=false):p.2∈hidI ms k vfl:=
 List.mem_map.2 ⟨p,List.mem_filter.2 ⟨h,by simp[hb]⟩,rfl⟩
theorem z7z {vfl:List (Nat×Nat)}{fl:List (Nat×AObj)}(hm:vfl.map (·.1)=fl.map (·.1)){q:Nat×AObj}(hq:q∈fl):∃p∈vfl,p.1=q.1:=by
 have:q.1∈vfl.map (·.1):=by rw[hm];exact List.mem_map_of_mem hq
 obtain⟨p,h1,h2⟩:=List.mem_map.1 this
 exact⟨p,h1,h2⟩
theorem xbj {vfl:List (Nat×Nat)}{fl:List (Nat×AObj)}(hm:vfl.map (·.1)=fl.map (·.1)){p:Nat×Nat}(hp:p∈vfl):∃q∈fl,q.1=p.1:=by
 have:p.1∈fl.map (·.1):=by rw[← hm];exact List.mem_map_of_mem hp
 obtain⟨q,h1,h2⟩:=List.mem_map.1 this
 exact⟨q,h1,h2⟩
theorem zy3 {vfl:List (Nat×Nat)}{fl:List (Nat×AObj)}(f:FlA base σ' vh' h' vfl fl)(k:Nat)(o:Nat) :
  (zcw base (fun i=>bm ms i k) fl h').get o=(zcw base (fun _=>true) fl h').get o∨∃i,i∈hidI ms k vfl∧(σ' i).1=o:=by
 have hl:∀q∈fl,base+q.1<h'.next:=fun q hq=>(f.free q hq).2
 by_cases hq:∃q∈fl,base+q.1=o
 ·obtain⟨q,hq,rfl⟩:=hq
  obtain⟨p,hp,hpq⟩:=z7z f.ms hq
  cases hb:bm ms q.1 k with
  |true=>exact .inl (by rw[zj4 (M:=fun i=>bm ms i k) hl f.nd q hq hb,zj4 (M:=fun _=>true) hl f.nd q hq rfl])
  |false=>exact .inr ⟨p.2,z2c hp (hpq▸hb),by rw[(f.place p hp).1,hpq]⟩
 refine .inl ?_
 have h1:∀q∈fl,base+q.1≠o:=fun q hm he=>hq ⟨q,hm,he⟩
 rw[ze6 hl fun q hm _=>h1 q hm,ze6 hl fun q hm _=>h1 q hm]
theorem zio (hd:∀d∈(ops.toList.filterMap (·.dst)),d<N){K:VTs→zab→Prop}(hbase:hs.next≤base)(hlo:lo≤hs.next):∀(items:List zfl) (todo:List Nat) (vfl:List (Nat×Nat)) (Ar:List Nat) (ts':Tmps) (fl:List (Nat×AObj)) (h':zaa) (g':Fz) (σ':Sg) (vts':VTs) (vh':zab),
  SimR N b lo g σ vh hs ts' (zcw base (fun _=>true) fl h') g' σ' vts' vh'→FlA base σ' vh' h' vfl fl→(∀j∈Ar,h'.get (base+j)=none∧base+j<h'.next∧j∉fl.map (·.1))→
  (∀m∈todo,CkF P lo ops ts' h' m)→zeu P N b ops ms W As K items todo vfl Ar vts' vh'→Scr P lo ops base ms W As (Sim N b lo g σ vh hs K) items ts' fl h'
 |[],todo,vfl,Ar,ts',fl,h',g',σ',vts',vh',a,f,har,hck,k=>⟨g',σ',vts',vh',a,k⟩
 |.op m::r,todo,vfl,Ar,ts',fl,h',g',σ',vts',vh',a,f,har,hck,k=>by
  simp only[zeu] at k
  have hl:∀q∈fl,base+q.1<h'.next:=fun q hq=>(f.free q hq).2
  have hTsub:h'.sub (zcw base (fun i=>bm ms i m) fl h'):=fun o x hx=>by
   rw[ze6 hl fun q hq _ he=>by have:=(f.free q hq).1;rw[he,hx] at this;cases this];exact hx
  cases ho:ops[m]? with
  |none=>rw[ho] at k;exact k.elim
  |some o=>
   rw[ho] at k
   simp only at k
   refine⟨o,ho,?_⟩
   split at k
   ·exact k.elim
   ·rename_i hw
    rw[zes (a.len▸hd) a.t hw]
    simp only[xfq]
    obtain⟨g1,g2⟩:=zeb (Fz.le_refl g') (Nat.le_refl _) (fun _ _=>rfl) a.t o.dst (a.len▸k.1) (.fr _ _ zej)
    refine zio hd hbase hlo r _ vfl Ar _ fl h' g' σ' _ vh' ⟨g1,g2.trans a.len,a.s,a.le,a.agree,a.f,a.base,a.own⟩ f har (fun m hm=>?_) k.2
    simp only[zee,List.mem_filter] at hm
    exact(hck m hm.1).put _ (fun _ _ hx=>hx) hm.2
   rename_i hw
   rw[zes (a.len▸hd) a.t hw]
   simp only[xfp]
   have hids:∀i∈hidI ms m vfl,∃x,vh'.get i=some x∧x.live=true:=fun i hi=>by
    obtain⟨p,hp,rfl,_⟩:=zw4 hi
    exact(f.place p hp).2
   have hTn:(zcw base (fun i=>bm ms i m) fl h').next=(zcw base (fun _=>true) fl h').next:=by rw[zcg,zcg]
   have hdr:∀j x,(zcc (hidI ms m vfl) vh').get j=some x→vh'.get j=some x∧j∉hidI ms m vfl:=fun j x hx=>let ⟨h1,h2⟩:=zc4 _ _ j x hx;⟨h2,h1⟩
   have sT:VS lo g' σ' (zcc (hidI ms m vfl) vh') (zcw base (fun i=>bm ms i m) fl h'):=a.s.hide hTn (zdm _ _) hdr fun o=>by
    rcases zy3 (ms:=ms) f m o with h|⟨i,hi,he⟩
    ·exact .inl h
    obtain⟨x,hx,hlx⟩:=hids i hi
    exact .inr ⟨i,x,hi,hx,hlx,he⟩
   have tT:VT g' σ' (zcc (hidI ms m vfl) vh').next vts' ts':=by rw[zdm];exact a.t
   cases hW:W.contains m with
   |true=>
    rw[hW] at k
    simp only[xfp] at k ⊢
    intro ts1 hag
    refine(k lo g' σ' _ ts' tT a.len sT (by rw[zdm];exact Nat.le_refl _) (fun q hq=>?_) ts1 hag).mono fun ts2 h2 ⟨v',e,todo',hck',g2,σ2,vts2,vh2,c,k2⟩=>⟨v',e,?_⟩
    ·obtain⟨o2,d2,u,h1,c1,c2,c3,c4,c5⟩:=hck q hq
     obtain⟨_,e2⟩:=zep c3 c5
     exact⟨o2,d2,u,_,c1,c2,c3,c4,e2 _ hTsub⟩
    have hfm:∀q∈fl.filter (fun p=>!bm ms p.1 m),q∈fl∧bm ms q.1 m=false:=fun q hq=>by
     obtain⟨h1,h2⟩:=List.mem_filter.1 hq
     exact⟨h1,by simpa using h2⟩
    have hag':∀i,i<vh'.next→σ2 i=σ' i:=c.agree
    have hfree:∀q∈fl,bm ms q.1 m=false→h2.get (base+q.1)=none∧base+q.1<h2.next:=fun q hq hb=>by
     have h1:=hl q hq
     have hT:(zcw base (fun i=>bm ms i m) fl h').get (base+q.1)=none:=by
      rw[ze6 hl fun q' hq' hM he=>?_]
      ·exact(f.free q hq).1
      have:q'.1=q.1:=by omega
      rw[this,hb] at hM;cases hM
     refine⟨?_,Nat.lt_of_lt_of_le (by rw[zcg];exact h1) c.f.next⟩
     rw[c.f.pres _ (by rw[zcg];exact h1) fun i x hx hlx he=>?_]
     ·exact hT
     obtain⟨h2,h3⟩:=(sT.obj i x hx)
     have:∃y,(zcw base (fun i=>bm ms i m) fl h').get (σ' i).1=some y:=by
      cases x with
      |box cs=>obtain⟨s0,cs',q1,_⟩:=h3;exact⟨_,q1⟩
      |arr ag sz cs=>obtain⟨_,s0,cs',q1,_⟩:=h3;exact⟨_,q1⟩
      |map es=>obtain⟨es',q1,_⟩:=h3;exact⟨_,q1⟩
      |fmap es=>obtain⟨es',q1,_⟩:=h3;exact⟨_,q1⟩
      |fgrow es=>obtain⟨_,_,_,s0,cs',q1,_⟩:=h3;exact⟨_,q1⟩
      |emap es=>obtain⟨es',q1,_⟩:=h3;exact⟨_,q1⟩
      |loop=>obtain⟨L,q1,_⟩:=h3;exact⟨_,q1⟩
      |grow sz es=>
       obtain⟨_,_,_,hor⟩:=h3
       rcases hor with rfl|⟨s0,cs',q1,_⟩
       ·cases hlx
       exact⟨_,q1⟩
     obtain⟨y,hy⟩:=this
     rw[he,hT] at hy;cases hy
    have hlf:∀q∈fl.filter (fun p=>!bm ms p.1 m),base+q.1<h2.next:=fun q hq=>(hfree q (hfm q hq).1 (hfm q hq).2).2
    have ndf:((fl.filter (fun p=>!bm ms p.1 m)).map (·.1)).Nodup:=f.nd.sublist (List.filter_sublist.map _)
    refine zio hd hbase hlo r todo' (hidF ms m vfl) Ar _ _ h2 g2 σ2 vts2 _ (SimR.xev a hTn (zdm _ _) hdr hids (zy3 f m) c (zcg _) (fun o=>?_) (zk4 _ _ _) (zrz _ _ _ fun i hi=>let ⟨x,hx,_⟩:=hids i hi;⟨x,hx⟩)) ⟨?_,ndf,fun p hp=>?_,fun q hq=>hfree q (hfm q hq).1 (hfm q hq).2⟩ (fun j hj=>?_) hck' k2
    ·by_cases hq:∃q∈fl,bm ms q.1 m=false∧base+q.1=o
     ·obtain⟨q,hq,hb,rfl⟩:=hq
      obtain⟨p,hp,hpq⟩:=z7z f.ms hq
      refine .inl ⟨p.2,z2c hp (hpq▸hb),by rw[(f.place p hp).1,hpq],?_⟩
      rw[zj4 (M:=fun _=>true) hl f.nd q hq rfl,zj4 (M:=fun _=>true) hlf ndf q (List.mem_filter.2 ⟨hq,by simp[hb]⟩) rfl]
     refine .inr ⟨fun i hi he=>?_,?_⟩
     ·obtain⟨p,hp,rfl,hb⟩:=zw4 hi
      obtain⟨q,hq',hqp⟩:=xbj f.ms hp
      exact hq ⟨q,hq',by rw[hqp];exact hb,by rw[hqp,← he,(f.place p hp).1]⟩
     exact ze6 hlf fun q hqm _ he=>hq ⟨q,(hfm q hqm).1,(hfm q hqm).2,he⟩
    ·have:∀(l:List (Nat×Nat)) (l2:List (Nat×AObj)),l.map (·.1)=l2.map (·.1)→(l.filter fun p=>!bm ms p.1 m).map (·.1)=(l2.filter fun p=>!bm ms p.1 m).map (·.1):=by
      intro l
      induction l with
      |nil=>intro l2 h;cases l2 with|nil=>rfl|cons=>simp at h
      |cons p l ih=>
       intro l2 h
       cases l2 with
       |nil=>simp at h
       |cons q l2=>
        simp only[List.map_cons,List.cons.injEq] at h
        simp only[List.filter_cons,h.1]
        cases bm ms q.1 m<;>simp[ih l2 h.2,h.1]
     exact this vfl fl f.ms
    ·obtain⟨h1,h2'⟩:=List.mem_filter.1 hp
     obtain⟨e1,x,e2,e3⟩:=f.place p h1
     have hmem:p.2∈hidI ms m vfl:=List.mem_map.2 ⟨p,hp,rfl⟩
     refine⟨by rw[hag' _ (a.s.obj p.2 x e2).1];exact e1,x,?_,e3⟩
     have:∀(l:List Nat),p.2∈l→(∀i∈l,∃x,vh'.get i=some x)→(zdh vh' l vh2).get p.2=some x:=by
      intro l
      induction l with
      |nil=>intro h;cases h
      |cons i l ih=>
       intro hm hex
       obtain⟨y,hy⟩:=hex i List.mem_cons_self
       simp only[zdh,hy,zab.zhb]
       by_cases hpi:p.2=i
       ·subst hpi;rw[e2] at hy;injection hy with hy;simp[hy]
       simp only[hpi,if_false]
       exact ih (by rcases List.mem_cons.1 hm with h|h;exact absurd h hpi;exact h) fun k hk=>hex k (List.mem_cons_of_mem _ hk)
     exact this _ hmem fun i hi=>let ⟨x,hx,_⟩:=hids i hi;⟨x,hx⟩
    obtain⟨h1,h3,h4⟩:=har j hj
    have hT:(zcw base (fun i=>bm ms i m) fl h').get (base+j)=none:=by
     rw[ze6 hl fun q' hq' hM he=>?_]
     ·exact h1
     exact h4 (List.mem_map.2 ⟨q',hq',by omega⟩)
    refine⟨?_,Nat.lt_of_lt_of_le (by rw[zcg];exact h3) c.f.next,fun hm=>h4 ?_⟩
    ·rw[c.f.pres _ (by rw[zcg];exact h3) fun i x hx hlx he=>?_]
     ·exact hT
     obtain⟨h5,h6⟩:=(sT.obj i x hx)
     have:∃y,(zcw base (fun i=>bm ms i m) fl h').get (σ' i).1=some y:=by
      cases x with
      |box cs=>obtain⟨s0,cs',q1,_⟩:=h6;exact⟨_,q1⟩
      |arr ag sz cs=>obtain⟨_,s0,cs',q1,_⟩:=h6;exact⟨_,q1⟩
      |map es=>obtain⟨es',q1,_⟩:=h6;exact⟨_,q1⟩
      |fmap es=>obtain⟨es',q1,_⟩:=h6;exact⟨_,q1⟩
      |fgrow es=>obtain⟨_,_,_,s0,cs',q1,_⟩:=h6;exact⟨_,q1⟩
      |emap es=>obtain⟨es',q1,_⟩:=h6;exact⟨_,q1⟩
      |loop=>obtain⟨L,q1,_⟩:=h6;exact⟨_,q1⟩
      |grow sz es=>
       obtain⟨_,_,_,hor⟩:=h6
       rcases hor with rfl|⟨s0,cs',q1,_⟩
       ·cases hlx
       exact⟨_,q1⟩
     obtain⟨y,hy⟩:=this
     rw[he,hT] at hy;cases hy
    obtain⟨q,hq,rfl⟩:=List.mem_map.1 hm
    exact List.mem_map_of_mem (hfm q hq).1
   |false=>
    rw[hW] at k
    simp only[xfq] at k ⊢
    cases hA:Ar.contains m with
    |true=>
     rw[hA] at k
     simp only[xfp] at k
     obtain⟨kA,hdo,v,x,hv,k2⟩:=k
     rw[kA]
     simp only[xfp]
     have hmA:m∈Ar:=by simpa using hA
     obtain⟨r1,r2,r3⟩:=har m hmA
     obtain⟨v',y,e1,e2,e3⟩:=z2w a.t hv (base+m)
     refine⟨v',y,e1,?_⟩
     have hσ:∀i,i<vh'.next→(σ'.put vh'.next (base+m,0,0)) i=σ' i:=fun i hi=>Sg.zix _ _ (by omega)
     have hnext:∀o,(zcw base (fun _=>true) ((m,y)::fl) h').get o=if o=base+m then some y else (zcw base (fun _=>true) fl h').get o:=fun o=>by
      show ((zcw base (fun _=>true) fl h').put (base+m) (some y)).get o=_
      rw[zaa.zaw _ _ _ _ (by rw[zcg];exact r2)]
     have hHn:(zcw base (fun _=>true) fl h').get (base+m)=none:=by
      rw[ze6 hl fun q hq _ he=>r3 (List.mem_map.2 ⟨q,hq,by omega⟩)];exact r1
     obtain⟨e4,e5⟩:=e3 (σ'.put vh'.next (base+m,0,0)) (zcw base (fun _=>true) ((m,y)::fl) h') (Sg.zaf _ _ _) hσ (by rw[hnext];simp)
     have hno:∀i z,vh'.get i=some z→z.live=true→(σ' i).1≠base+m:=fun i z hz hlz he=>by
      obtain⟨h5,h6⟩:=a.s.obj i z hz
      have:∃y,(zcw base (fun _=>true) fl h').get (σ' i).1=some y:=by
       cases z with
       |box cs=>obtain⟨s0,cs',q1,_⟩:=h6;exact⟨_,q1⟩
       |arr ag sz cs=>obtain⟨_,s0,cs',q1,_⟩:=h6;exact⟨_,q1⟩
       |map es=>obtain⟨es',q1,_⟩:=h6;exact⟨_,q1⟩
       |fmap es=>obtain⟨es',q1,_⟩:=h6;exact⟨_,q1⟩
       |fgrow es=>obtain⟨_,_,_,s0,cs',q1,_⟩:=h6;exact⟨_,q1⟩
       |emap es=>obtain⟨es',q1,_⟩:=h6;exact⟨_,q1⟩
       |loop=>obtain⟨L,q1,_⟩:=h6;exact⟨_,q1⟩
       |grow sz es=>
        obtain⟨_,_,_,hor⟩:=h6
        rcases hor with rfl|⟨s0,cs',q1,_⟩
        ·cases hlz
        exact⟨_,q1⟩
      obtain⟨u,hu⟩:=this
      rw[he,hHn] at hu;cases hu
     have split:∀i z,(vh'.alloc x).get i=some z→(i=vh'.next∧z=x)∨(i<vh'.next∧vh'.get i=some z):=fun i z hz=>by
      rw[zab.zay] at hz
      by_cases hi:i=vh'.next
      ·subst hi;simp at hz;exact .inl ⟨rfl,hz.symm⟩
      simp[hi] at hz;exact .inr ⟨(a.s.obj i z hz).1,hz⟩
     obtain⟨g1,g2⟩:=zeb (Fz.le_refl g') (Nat.le_succ vh'.next) hσ a.t o.dst (a.len▸hdo) e4
     refine zio hd hbase hlo r _ _ _ _ ((m,y)::fl) h' g' _ _ (vh'.alloc x) ⟨g1,g2.trans a.len,⟨fun i z hz=>?_,fun i j z u hz hu hlz hlu he=>?_,fun i z hz hlz=>?_,fun o z hz=>?_,fun i z hz hlz=>?_,?_⟩,a.le,fun i hi=>(hσ i (Nat.lt_of_lt_of_le hi a.base)).trans (a.agree i hi),
      ⟨?_,fun o ho hno'=>?_,fun i z hz hlz hlt=>?_⟩,Nat.le_trans a.base (Nat.le_succ _),a.own⟩ ⟨by simp[f.ms],by rw[List.map_cons,List.nodup_cons];exact⟨r3,f.nd⟩,fun p hp=>?_,fun q hq=>?_⟩ (fun j hj=>?_) (fun q hq=>?_) k2
     ·rcases split i z hz with⟨rfl,rfl⟩|⟨hi,hz⟩
      ·exact⟨Nat.lt_succ_self _,e5⟩
      refine⟨Nat.lt_succ_of_lt hi,(a.s.obj i z hz).2.mono (Fz.le_refl g') (Nat.le_succ _) hσ hi fun hlz=>?_⟩
      rw[hnext,if_neg (hno i z hz hlz)]
     ·rcases split i z hz with⟨hi,_⟩|⟨hi,hz⟩<;>rcases split j u hu with⟨hj,_⟩|⟨hj,hu⟩
      ·rw[hi,hj]
      ·rw[hi,Sg.zaf,hσ j hj] at he;exact absurd he.symm (hno j u hu hlu)
      ·rw[hj,Sg.zaf,hσ i hi] at he;exact absurd he (hno i z hz hlz)
      rw[hσ i hi,hσ j hj] at he;exact a.s.inj i j z u hz hu hlz hlu he
     ·rcases split i z hz with⟨rfl,rfl⟩|⟨hi,hz⟩
      ·rw[Sg.zaf];show lo≤base+m;omega
      rw[hσ i hi];exact a.s.low i z hz hlz
     ·rw[hnext,if_neg (by rintro rfl;have:=a.s.fz _ z hz;rw[hHn] at this;cases this)];exact a.s.fz o z hz
     ·rcases split i z hz with⟨rfl,rfl⟩|⟨hi,hz⟩
      ·rw[Sg.zaf]
       cases hg:g' (base+m) with
       |none=>rfl
       |some w=>have:=a.s.fz _ w hg;rw[hHn] at this;cases this
      rw[hσ i hi];exact a.s.dis i z hz hlz
     ·have:=a.s.lole;rw[zcg] at this ⊢;exact this
     ·have:=a.f.next;rw[zcg] at this ⊢;exact this
     ·rw[hnext,if_neg (by omega)];exact a.f.pres o ho hno'
     ·rcases split i z hz with⟨rfl,rfl⟩|⟨hi,hz⟩
      ·rw[Sg.zaf] at hlt;simp only at hlt;omega
      rw[hσ i hi] at hlt ⊢;exact a.f.own i z hz hlz hlt
     ·rcases List.mem_cons.1 hp with rfl|hp
      ·exact⟨by rw[Sg.zaf],x,by rw[zab.zay];simp,e2⟩
      obtain⟨q1,z,q2,q3⟩:=f.place p hp
      have hi:=(a.s.obj p.2 z q2).1
      exact⟨by rw[hσ _ hi];exact q1,z,by rw[zab.zay,if_neg (by omega)];exact q2,q3⟩
     ·rcases List.mem_cons.1 hq with rfl|hq
      ·exact⟨r1,r2⟩
      exact f.free q hq
     ·obtain⟨h1,h2⟩:=List.mem_filter.1 hj
      have hjm:j≠m:=by simpa[beq_eq] using h2
      obtain⟨s1,s2,s3⟩:=har j h1
      exact⟨s1,s2,by simp only[List.map_cons,List.mem_cons,not_or];exact⟨hjm,s3⟩⟩
     simp only[zee,List.mem_filter] at hq
     exact(hck q hq.1).put _ (fun _ _ hx=>hx) hq.2
    |false=>
     rw[hA] at k
     simp only[xfq] at k
     obtain⟨kA,hr,hdo,v,hv,k2⟩:=k
     rw[kA]
     simp only[xfq]
     obtain⟨v',h1,e1,σ2,e2,e3,e4,e5,e6⟩:=zog (lo:=lo) sT tT hv
     obtain⟨e7,_⟩:=zep hr e1
     subst e7
     rw[zdm] at e6 e2
     have e2':VR g' σ' vh'.next v v':=e2.mono (Fz.le_refl g') (Nat.le_refl _) fun i hi=>(e6 i hi).symm
     obtain⟨g1,g2⟩:=zeb (Fz.le_refl g') (Nat.le_refl _) (fun _ _=>rfl) a.t o.dst (a.len▸hdo) e2'
     refine⟨v',_,e1,zio hd hbase hlo r _ vfl Ar _ fl h' g' σ' _ vh' ⟨g1,g2.trans a.len,a.s,a.le,a.agree,a.f,a.base,a.own⟩ f har (fun m' hm=>?_) k2⟩
     have old:m'∈zee ops todo o.dst→CkF P lo ops (aput ts' o.dst v') h' m':=fun hm=>by
      simp only[zee,List.mem_filter] at hm
      exact(hck m' hm.1).put _ (fun _ _ hx=>hx) hm.2
     cases hsf:(zfm o&&vfl.isEmpty) with
     |false=>rw[hsf] at hm;exact old hm
     |true=>
      rw[hsf] at hm
      simp only[xfp,List.mem_cons] at hm
      rcases hm with rfl|hm
      ·rw[xfr] at hsf
       obtain⟨hsf,hem⟩:=hsf
       have hv0:vfl=[]:=by simpa using hem
       have hf0:fl=[]:=by have:=f.ms;rw[hv0] at this;simpa using this.symm
       subst hf0
       unfold zfm at hsf
       cases hdd:o.dst with
       |none=>rw[hdd] at hsf;cases hsf
       |some d=>
        rw[hdd] at hsf
        have hlt:d<ts'.length:=by
         have:=a.len▸hdo
         rw[hdd] at this
         simpa[zc1] using this
        have:=CkF.new (P:=P) (lo:=lo) ho hdd hlt hr e1 hsf
        rwa [hdd] at this
      exact old hm
 |.ck m::r,todo,vfl,Ar,ts',fl,h',g',σ',vts',vh',a,f,har,hck,k=>by
  simp only[zeu] at k
  have hl:∀q∈fl,base+q.1<h'.next:=fun q hq=>(f.free q hq).2
  have hTsub:h'.sub (zcw base (fun i=>bm ms i m) fl h'):=fun o x hx=>by
   rw[ze6 hl fun q hq _ he=>by have:=(f.free q hq).1;rw[he,hx] at this;cases this];exact hx
  cases ho:ops[m]? with
  |none=>rw[ho] at k;exact k.elim
  |some o=>
   rw[ho] at k
   simp only at k
   obtain⟨k1,k2⟩:=k
   have rest:=zio hd hbase hlo r _ vfl Ar ts' fl h' g' σ' vts' vh' a f har hck k2
   rcases k1 with k1|⟨k1,hw⟩
   ·have hm:m∈todo:=by simpa using k1
    obtain⟨o',d,v,h1,c1,c2,c3,c4,c5⟩:=hck m hm
    rw[ho] at c1;injection c1 with c1;subst c1
    obtain⟨_,e2⟩:=zep c3 c5
    exact⟨o,d,ho,c2,fun _=>⟨v,_,c4,e2 _ hTsub⟩,rest⟩
   cases hdd:o.dst with
   |none=>rw[hdd] at k1;cases k1
   |some d=>exact⟨o,d,ho,hdd,fun hwt=>(by rw[zes (a.len▸hd) a.t hw] at hwt;cases hwt),rest⟩
theorem VW.xam {id:Nat}{Q:zfz}{vts:VTs}{vh:zab}{ms W As:List Nat}{items:List zfl}(hm:P.follows .mixedOrders=true)(hst:zsd ops ms W As=true)(hdec:znw As=true)(hc:zhn ops ms W As [] W [] items=true)(hd:zlo N ops=true)
  (hAs:As.all (Nat.blt · (nAof As ops.size))=true)
  (hs:zeu P N b ops ms W As (Q .normal) items [] [] As vts vh):VW P N b (.region id ops true) Q vts vh:=fun lo g σ h ts ht hn s hb=>by
 refine .sched hm hst hdec hc ?_
 have hg:=zaa.zbq (nAof As ops.size) h
 have hnx:=zaa.zcu (nAof As ops.size) h
 have s2:VS lo g σ vh (zaa.zbi (nAof As ops.size) h):=⟨fun i x hx=>let ⟨k1,k2⟩:=s.obj i x hx;⟨k1,k2.mono (Fz.le_refl g) (Nat.le_refl _) (fun _ _=>rfl) k1 fun _=>hg _⟩,s.inj,s.low,fun o x hx=>by rw[hg];exact s.fz o x hx,s.dis,by rw[hnx];have:=s.lole;omega⟩
 refine zio (base:=h.next) (zik hd) (Nat.le_refl _) s.lole items [] [] As ts [] _ g σ vts vh ⟨ht,hn,s2,Fz.le_refl g,fun _ _=>rfl,⟨by rw[zcg,hnx];omega,fun o _ _=>hg o,fun i x hx hl _=>⟨i,x,hx,hl,rfl⟩⟩,hb,GOwn.refl _ _ _ _⟩
  ⟨rfl,List.nodup_nil,fun p hp=>(by cases hp),fun q hq=>(by cases hq)⟩ (fun j hj=>?_) (fun m hm=>(by cases hm)) hs
 rw[List.all_eq_true] at hAs
 have hlt:j<nAof As ops.size:=by simpa using hAs j hj
 refine⟨?_,by rw[hnx];omega,by simp⟩
 rw[hg]
 cases hq:h.get (h.next+j) with
 |none=>rfl
 |some x=>have:=zaa.zai hq;omega
variable {vts:VTs} {todo:List Nat} {vfl:List (Nat×Nat)} {Ar:List Nat} {K:VTs→zab→Prop} {m:Nat} {r:List zfl} {o:Oper}
theorem zeu.rd {v:PV}(ho:ops[m]?=some o)(hw:zaz ops o vts=some true)(hW:W.contains m=false)(hA:Ar.contains m=false)(hA2:As.contains m=false)(hr:isR o.op=true)(hd:zc1 N o.dst=true)
  (hv:vop P vts (zcc (hidI ms m vfl) vh) o.op=some (v,zcc (hidI ms m vfl) vh)) (hk:zeu P N b ops ms W As K r (bif zfm o&&vfl.isEmpty then m::zee ops todo o.dst else zee ops todo o.dst) vfl Ar (tput vts o.dst v) vh) :
  zeu P N b ops ms W As K (.op m::r) todo vfl Ar vts vh:=by
 simp only[zeu,ho,hw,hW,hA,xfq]
 exact⟨hA2,hr,hd,v,hv,hk⟩
theorem zeu.al {v:PV}{x:VObj}(ho:ops[m]?=some o)(hw:zaz ops o vts=some true)(hW:W.contains m=false)(hA:Ar.contains m=true)(hA2:As.contains m=true)(hd:zc1 N o.dst=true)
  (hv:vopA P vts vh o.op=some (v,x)) (hk:zeu P N b ops ms W As K r (zee ops todo o.dst) ((m,vh.next)::vfl) (Ar.filter fun k=>!Nat.beq k m) (tput vts o.dst v) (vh.alloc x)) :
  zeu P N b ops ms W As K (.op m::r) todo vfl Ar vts vh:=by
 simp only[zeu,ho,hw,hW,hA,xfq,xfp]
 exact⟨hA2,hd,v,x,hv,hk⟩
theorem zeu.wr (ho:ops[m]?=some o)(hw:zaz ops o vts=some true)(hW:W.contains m=true)
  (hs:zfb P N vh.next ops o todo (fun todo' vts2 vh2=>zeu P N b ops ms W As K r todo' (hidF ms m vfl) Ar vts2 (zdh vh (hidI ms m vfl) vh2)) vts (zcc (hidI ms m vfl) vh)) :
  zeu P N b ops ms W As K (.op m::r) todo vfl Ar vts vh:=by
 simp only[zeu,ho,hw,hW,xfp]
 exact hs
theorem zeu.ck (ho:ops[m]?=some o)(hc:todo.contains m=true)(hk:zeu P N b ops ms W As K r todo vfl Ar vts vh):zeu P N b ops ms W As K (.ck m::r) todo vfl Ar vts vh:=by
 simp only[zeu,ho]
 exact⟨.inl hc,hk⟩
theorem zeu.done (hk:K vts vh):zeu P N b ops ms W As K [] todo vfl Ar vts vh:=hk
end
end Go.Am
end
/-
 The value machine, part X: what is handed over to be written; what comes new; nil or not.
-/
section
namespace Go.Am
theorem Alt.ofEq {vh:zab}{n2:Nat}{D:Nat→Bool}{ρ:Nat→Nat}{v v2:PV}(hf:v.isF=true)(h:v=v2):Alt vh n2 D ρ v v2:=h▸.same v hf
theorem Alt.zlm {vh:zab}{n2:Nat}{D:Nat→Bool}{ρ:Nat→Nat}{v2:PV}(h:v2=.vec []):Alt vh n2 D ρ .sl0 v2:=h▸.sl0v
theorem Alt.sl0E {vh:zab}{n2:Nat}{D:Nat→Bool}{ρ:Nat→Nat}(j n:Nat)(nl:Bool)(hn:n=0):Alt vh n2 D ρ .sl0 (.grow j n nl):=hn▸.sl0 j nl
section
variable {P:Program} {N b:Nat} {vts:VTs} {vh:zab}
theorem zgz.nilQ {o:Oper}{t ek:TypeId}{x y:Operand}{next:VTs→zab→Prop}(ho:∃pos,o.op=.binOp .eql t x y pos)(ht:P.underlying t=some (.slice ek))(hx:za6 vts x=some (.vec []))(hy:za6 vts y=some .sl0)(hd:zc1 N o.dst=true)
  (hn:∀q:Bool,next (tput vts o.dst (.bool q)) vh):zgz P N b o next vts vh:=fun lo g σ h ts hts hl s hb=>by
 obtain⟨pos,ho⟩:=ho
 obtain⟨x',k1,k2⟩:=zao hts hx
 obtain⟨y',k3,k4⟩:=zao hts hy
 have:=k4.isF rfl;cases this
 have hq:∃q:Bool,aeql P t x' (.slice none 0 0)=some q:=by
  have:=k2.isF rfl
  cases this with
  |vecN=>exact⟨true,by simp[aeql,ht]⟩
  |vec0=>exact⟨false,by simp[aeql,ht]⟩
  |vec _ o off k s0 sz cs'=>exact⟨false,by simp[aeql,ht]⟩
 obtain⟨q,hq⟩:=hq
 obtain⟨e1,_⟩:=zkv (P:=P) hq (fun k x k' y hh=>by have:=hh.2;cases this) (fun x y hh=>by have:=hh.2;cases this)
 obtain⟨g1,g2⟩:=zeb (Fz.le_refl g) (Nat.le_refl _) (fun _ _=>rfl) hts o.dst (hl▸hd) (.fr _ _ (.bool q):VR g σ vh.next (.bool q) (.bool q))
 refine .op (v:=.bool q) (h':=h) (by rw[ho];simp only[aop,k1,k3,e1,Option.map_some]) ?_
 exact⟨g,σ,_,vh,⟨g1,g2.trans hl,s,Fz.le_refl g,fun _ _=>rfl,VF.refl _ _ _,hb,GOwn.refl _ _ _ _⟩,hn q⟩
theorem zbj.fresh {f:FuncId}{args es:List PV}{sz:Nat}(hp:zbj P f args zab.empty fun v vh'=>∃i nl,v=.grow i es.length nl∧vh'.get i=some (.grow sz es))(hf:PV.allF args=true)(hne:0<es.length) :
  zbj P f args vh fun v vh'=>v=.grow vh.next es.length false∧vh'=vh.alloc (.grow sz es):=fun lo g σ h args' ha s=>by
 have ha0:PRs (VR g σ zab.empty.next) args args':=(ha.isF hf).vr
 refine(hp lo g σ h args' ha0 (.none s.fz s.lole σ)).mono fun r h' ⟨g',σ',v,vh',h1,h2,h3,h4,h5,h6,h7,i,nl,h8,h9⟩=>?_
 subst h8
 have hkeep:∀o,o<h.next→h'.get o=h.get o:=fun o ho=>h5.pres o ho fun i x hx=>by cases hx
 have hlive:VObj.live (.grow sz es)=true:=by
  cases es with
  |nil=>simp at hne
  |cons=>rfl
 obtain⟨hi,hob⟩:=h2.obj i _ h9
 have hge:h.next≤(σ' i).1:=by
  rcases Nat.lt_or_ge (σ' i).1 h.next with hlt|hge
  ·obtain⟨j,y,hj,_⟩:=h5.own i _ h9 hlive hlt
   cases hj
  exact hge
 have hg:∀o x,g' o=some x→o<h.next→∃y,g o=some y:=fun o x hx ho=>by
  rcases h7 o x hx ho with h|⟨i,y,h,_⟩
  ·exact⟨_,h⟩
  cases h
 have hσ:∀j,j<vh.next→(σ.put vh.next (σ' i)) j=σ j:=fun j hj=>Sg.zix _ _ (by omega)
 have split:∀j z,(vh.alloc (.grow sz es)).get j=some z→(j=vh.next∧z=.grow sz es)∨(j<vh.next∧vh.get j=some z):=fun j z hz=>by
  rw[zab.zay] at hz
  by_cases hj:j=vh.next
  ·subst hj;simp at hz;exact .inl ⟨rfl,hz.symm⟩
  simp[hj] at hz;exact .inr ⟨(s.obj j z hz).1,hz⟩
 refine⟨g',σ.put vh.next (σ' i),.grow vh.next es.length false,vh.alloc (.grow sz es),?_,⟨fun j z hz=>?_,fun j k z u hz hu hlz hlu he=>?_,fun j z hz hlz=>?_,h2.fz,fun j z hz hlz=>?_,h2.lole⟩,h3,hσ,⟨h5.next,fun o ho _=>hkeep o ho,fun j z hz hlz hlt=>?_⟩,Nat.le_succ _,fun o x hx ho=>.inl (h7 o x hx ho |>.elim id fun⟨i,y,h,_⟩=>by cases h),rfl,rfl⟩
 ·generalize hm:es.length=m at h1 hne ⊢
  cases h1 with
  |fr _ _ h=>cases h
  |growN=>omega
  |grow0=>omega
  |grow _ _ o a k _ hi' hs hn=>exact .grow vh.next m o a k false (Nat.lt_succ_self _) (by rw[Sg.zaf];exact hs) hn
 ·rcases split j z hz with⟨rfl,rfl⟩|⟨hj,hz⟩
  ·refine⟨Nat.lt_succ_self _,?_⟩
   obtain⟨q0,q1,q2,q3⟩:=hob
   refine⟨q0,q1,q2,q3.imp_right fun⟨s0,cs',k1,k2,k3,k4⟩=>⟨s0,cs',by rw[Sg.zaf];exact k1,by rw[Sg.zaf];exact k2,k3,by rw[Sg.zaf];exact k4⟩⟩
  obtain⟨k1,k2⟩:=s.obj j z hz
  exact⟨Nat.lt_succ_of_lt hj,k2.mono h3 (Nat.le_succ _) hσ hj fun hlz=>hkeep _ (k2.lt hlz)⟩
 ·rcases split j z hz with⟨hj,_⟩|⟨hj,hz⟩<;>rcases split k u hu with⟨hk,_⟩|⟨hk,hu⟩
  ·rw[hj,hk]
  ·rw[hj,Sg.zaf,hσ k hk] at he
   have:=(s.obj k u hu).2.lt hlu;omega
  ·rw[hk,Sg.zaf,hσ j hj] at he
   have:=(s.obj j z hz).2.lt hlz;omega
  rw[hσ j hj,hσ k hk] at he;exact s.inj j k z u hz hu hlz hlu he
 ·rcases split j z hz with⟨rfl,rfl⟩|⟨hj,hz⟩
  ·rw[Sg.zaf];exact h2.low i _ h9 hlive
  rw[hσ j hj];exact s.low j z hz hlz
 ·rcases split j z hz with⟨rfl,rfl⟩|⟨hj,hz⟩
  ·rw[Sg.zaf];exact h2.dis i _ h9 hlive
  rw[hσ j hj]
  have hd:=s.dis j z hz hlz
  have hlt:=(s.obj j z hz).2.lt hlz
  cases hgo:g' (σ j).1 with
  |none=>rfl
  |some y=>
   obtain⟨w,hw⟩:=hg _ y hgo hlt
   rw[hd] at hw;cases hw
 rcases split j z hz with⟨rfl,rfl⟩|⟨hj,hz⟩
 ·rw[Sg.zaf] at hlt;omega
 rw[hσ j hj] at hlt ⊢;exact⟨j,z,hz,hlz,rfl⟩
theorem zbj.fresh' {f:FuncId}{args es:List PV}{sz n:Nat}(hn:es.length=n)(hp:zbj P f args zab.empty fun v vh'=>∃i nl,v=.grow i n nl∧vh'.get i=some (.grow sz es))(hf:PV.allF args=true)(hne:0<n) :
  zbj P f args vh fun v vh'=>v=.grow vh.next n false∧vh'=vh.alloc (.grow sz es):=by
 subst hn;exact zbj.fresh hp hf hne
theorem zbj.give {f:FuncId}{args args0:List PV}{R:PV→Prop}{i:Nat}{x x0:VObj}(hi:vh.get i=some x)(hl:x.live=true)(hx:AltO vh 1 (fun _=>false) (fun _=>i) x x0)
  (ha:AltL vh 1 (fun _=>false) (fun _=>i) args args0) (hp:zbj P f args0 ⟨1,[(0,x0)]⟩ fun v _=>v.isF=true∧R v):zbj P f args vh fun v vh'=>vh'=vh.drop i∧R v:=fun lo g σ h args' hargs s=>by
 have get0:∀j y,zab.get ⟨1,[(0,x0)]⟩ j=some y→j=0∧y=x0:=fun j y hy=>by
  simp only[zab.get,zce,beq_eq] at hy
  by_cases hj:j=0
  ·subst hj;simp at hy;exact⟨rfl,hy.symm⟩
  simp[hj] at hy
 have a:AltS 0 (fun _=>false) (fun _=>i) [] vh [] ⟨1,[(0,x0)]⟩:=⟨fun t v2 hv=>by simp[tget] at hv,fun j y hy=>by
  obtain⟨rfl,rfl⟩:=get0 j y hy
  exact⟨Nat.lt_succ_self 0,.inr ⟨rfl,x,hi,hx⟩⟩,fun j k y z hy hz _ _ _=>by rw[(get0 j y hy).1,(get0 k z hz).1],fun j hj=>absurd hj (Nat.not_lt_zero j),Nat.zero_le _⟩
 have sr:=a.sim (N:=0) (ts:=[]) (lo:=lo) (g:=g) (σ:=σ) (h:=h) (fun t v hv=>by simp[tget] at hv) rfl s
 have hmore:g.more σ vh h (fun _=>false)=g:=funext fun o=>by
  unfold Fz.more
  rw[if_neg]
  rintro⟨_,_,h,_⟩;cases h
 have ha0:=AltL.ok s ha hargs
 have s0:=sr.s
 rw[hmore] at ha0 s0
 refine(hp lo g (fun _=>σ i) h args' ha0 s0).mono fun r h' ⟨g',σ',v,vh',h1,h2,h3,h4,h5,h6,h7,h8,h9⟩=>?_
 have hkeep:∀o,o<h.next→o≠(σ i).1→h'.get o=h.get o:=fun o ho hne=>h5.pres o ho fun j y hy _ he=>hne he.symm
 have hne:∀j y,(vh.drop i).get j=some y→y.live=true→(σ j).1≠(σ i).1:=fun j y hy hly he=>by
  obtain⟨k1,k2⟩:=zbd hy
  exact k1 (s.inj j i y x k2 hi hly hl he)
 refine⟨g',σ,v,vh.drop i,.fr _ _ (h1.isF h8),⟨fun j y hy=>?_,fun j k y z hy hz=>s.inj j k y z (zbd hy).2 (zbd hz).2,fun j y hy=>s.low j y (zbd hy).2,h2.fz,fun j y hy hly=>?_,h2.lole⟩,h3,fun _ _=>rfl,⟨h5.next,fun o ho hn=>hkeep o ho fun he=>hn i x hi hl he.symm,fun j y hy hly _=>⟨j,y,(zbd hy).2,hly,rfl⟩⟩,Nat.le_refl _,fun o z hz ho=>?_,rfl,h9⟩
 ·obtain⟨k1,k2⟩:=s.obj j y (zbd hy).2
  exact⟨k1,k2.mono h3 (Nat.le_refl _) (fun _ _=>rfl) k1 fun hly=>hkeep _ (k2.lt hly) (hne j y hy hly)⟩
 ·have hy2:=(zbd hy).2
  have hd:=s.dis j y hy2 hly
  have hlt:=(s.obj j y hy2).2.lt hly
  cases hgo:g' (σ j).1 with
  |none=>rfl
  |some z=>
   rcases h7 _ z hgo hlt with h10|⟨k,u,_,_,k3⟩
   ·rw[hd] at h10;cases h10
   exact absurd k3.symm (hne j y hy hly)
 rcases h7 o z hz ho with h10|⟨k,u,_,_,k3⟩
 ·exact .inl h10
 exact .inr ⟨i,x,hi,hl,k3⟩
theorem zbj.z1h {f:FuncId}{fn:Func}{c:Code}{args:List PV}{R:PV→Prop}(hf:P.funcs[f]?=some fn)(hb:fn.body=some c)(hn:Nat.ble args.length fn.ntmps=true)
  (hc:VW P fn.ntmps vh.next c (retP P fn R) (zdd 0 args) vh):zbj P f args vh fun v _=>v.isF=true∧R v:=by
 have h1:zbj P f args vh fun v vh'=>∃v2,frz vh' v=some v2∧R v2:=by
  refine .zah hf hb hn (hc.mono fun e vts vh hq=>?_)
  cases e with
  |normal=>obtain⟨l,v,h1,h2,h3⟩:=hq;exact⟨l,h1,v,h2,h3⟩
  |ret=>obtain⟨l,v,h1,h2,h3⟩:=hq;exact⟨l,h1,v,h2,h3⟩
  |exit id=>exact hq.elim
  |goto l=>exact hq.elim
  |panic ch=>exact hq.elim
  |outgrown=>exact hq.elim
 intro lo g σ h args' ha s
 refine(h1 lo g σ h args' ha s).mono fun r h' ⟨g',σ',v,vh',k1,k2,k3,k4,k5,k6,k7,v2,k8,k9⟩=>?_
 have k10:=(zst vh' v v2 k8).ok k2 r k1
 have hF:v2.isF=true:=zti vh' v v2 k8
 exact⟨_,σ',v2,⟨vh'.next,[]⟩,.fr _ _ (k10.isF hF),⟨fun i x hx=>(by cases hx),fun i j x y hx=>(by cases hx),fun i x hx=>(by cases hx),zky (D:=fun _=>true) k2,fun i x hx=>(by cases hx),k2.lole⟩,Fz.le_trans k3 (zew k2),k4,⟨k5.next,k5.pres,fun i x hx=>(by cases hx)⟩,k6,k7.trans k5 zjz,hF,k9⟩
def zne (P:Program)(vts:VTs)(vh2:zab)(ops:Array Oper)(todo:List Nat):List Nat→Prop
 |[]=>True
 |m::r=>(todo.contains m=true∧∃om u,ops[m]?=some om∧vop P vts vh2 om.op=some (u,vh2))∧zne P vts vh2 ops todo r
theorem zne.mem {vts:VTs}{vh2:zab}{ops:Array Oper}{todo:List Nat}:∀ {l:List Nat},zne P vts vh2 ops todo l→∀m∈l,m∈todo∧∃om u,ops[m]?=some om∧vop P vts vh2 om.op=some (u,vh2)
 |[],_,m,hm=>by cases hm
 |k::r,h,m,hm=>by
  rcases List.mem_cons.1 hm with rfl|hm
  ·exact⟨by simpa using h.1.1,h.1.2⟩
  exact zne.mem h.2 m hm
theorem zvd {lo:Nat}{h h':zaa}{t:TypeId}{o off:Nat}{v:Value}(hs:zj6 P lo h t (.pointer (some ⟨o,off,none⟩)) v=some h'):∃z,h'=h.put o z:=by
 unfold zj6 at hs
 simp only at hs
 split at hs
 ·rename_i s cs n hg hn
  cases hb:(Nat.ble lo o&&Nat.beq v.cells.toList.length n&&v.cells.toList.all (·.oneCell')&&Nat.ble (off+n) cs.length) with
  |false=>rw[hb] at hs;cases hs
  |true=>rw[hb] at hs;simp only[xfp,xfm] at hs;exact⟨_,hs.symm⟩
 cases hs
theorem zfb.stor {ops:Array Oper}{o:Oper}{todo todo':List Nat}{next:List Nat→VTs→zab→Prop}{t:TypeId}{a x:Operand}{i off:Nat}{y0:VObj}{v:PV}{vh':zab}(ho:o.op=.store t a x)(hp:za6 vts a=some (.ptr i off))(hvi:vh.get i=some y0)(hl0:y0.live=true)
  (hv:Go.Am.vop P vts vh o.op=some (v,vh')) (hd:o.dst=none) (ht:zne P vts (vh.drop i) ops todo todo') (hn:next todo' (tput vts o.dst v) vh'):zfb P N b ops o todo next vts vh:=fun lo g σ h ts htv hl s hb hck ts1 hag=>by
 obtain⟨v',h',k1,σ',k2,k3,k4,k5,k6⟩:=zog (lo:=lo) s htv hv
 obtain⟨g1,g2⟩:=zeb (Fz.le_refl g) k5 k6 htv o.dst (by rw[hd];simp[zc1]) k2
 refine .op (v:=v') (h':=h') (by rw[zfp (fun x hx=>hag.eval x hx)];exact k1) ⟨v',rfl,todo',fun m hm=>?_,g,σ',_,vh',⟨g1,g2.trans hl,k3,Fz.le_refl g,fun i hi=>k6 i (by omega),k4,by omega,GOwn.refl _ _ _ _⟩,hn⟩
 rw[hd]
 obtain⟨h1,om,u,h2,h3⟩:=ht.mem m hm
 obtain⟨o',d,w,h4,c1,c2,c3,c4,c5⟩:=hck m h1
 rw[h2] at c1;injection c1 with c1;subst c1
 obtain⟨sk,_⟩:=s.kill hvi hl0
 have hlt:=(s.obj i y0 hvi).2.lt hl0
 obtain⟨w',h5,e1,_⟩:=zog (lo:=lo) (vh:=vh.drop i) sk htv h3
 obtain⟨e2,e3⟩:=zep c3 e1
 have sub:∀z,(h.put (σ i).1 none).sub (h.put (σ i).1 z):=fun z p q hq=>by
  rw[zaa.zaw _ _ _ _ hlt] at hq ⊢
  by_cases hpi:p=(σ i).1
  ·simp[hpi] at hq
  simpa[hpi] using hq
 have sub0:(h.put (σ i).1 none).sub h:=fun p q hq=>by
  rw[zaa.zaw _ _ _ _ hlt] at hq
  by_cases hpi:p=(σ i).1
  ·simp[hpi] at hq
  simpa[hpi] using hq
 have ew:w'=w:=by
  have:=e3 h sub0
  rw[c5] at this
  simp only[xfm,xfn] at this
  exact this.1.symm
 subst ew
 obtain⟨a',q1,q2⟩:=zao htv hp
 have hz:∃z,h'=h.put (σ i).1 z:=by
  rw[ho] at k1
  simp only[aop,q1] at k1
  cases q2 with
  |fr _ _ hh=>cases hh
  |ptr _ _ o2 a2 k2 hi2 hs2=>
   split at k1
   ·rename_i p2 v2 hp2 hv2
    injection hp2 with hp2;subst hp2
    obtain⟨h6,e5,e6⟩:=zad k1
    simp only[xfn] at e6
    obtain⟨_,rfl⟩:=e6
    rw[hs2]
    exact zvd e5
   cases k1
 obtain⟨z,rfl⟩:=hz
 exact⟨om,d,w',_,h2,c2,c3,c4,e3 _ (sub z)⟩
theorem VScr.ckU {ops:Array Oper}{W todo:List Nat}{K:VTs→zab→Prop}{m:Nat}{r:List zfl}{o:Oper}(ho:ops[m]?=some o)(hw:zaz ops o vts=some false)(hd:o.dst.isSome=true)
  (k:VScr P N b ops W K r todo vts vh):VScr P N b ops W K (.ck m::r) todo vts vh:=by
 simp only[VScr,ho];exact⟨.inr ⟨hd,hw⟩,k⟩
end
end Go.Am
end
/-
  The value machine, part Y: where the branches of a statement meet again.
-/
section
namespace Go.Am
theorem zqs {sz:Nat}:∀ {es:List PV} {q:Nat} {e:PV},(∀e∈es,e.cells.length=sz)→es[q]?=some e→((es.flatMap PV.cells).drop (q*sz)).take sz=e.cells∧q*sz+sz≤(es.flatMap PV.cells).length
 |[],q,e,_,h=>by simp at h
 |a::r,0,e,hs,h=>by
  simp at h;subst h
  have:=hs a List.mem_cons_self
  rw[Nat.zero_mul,List.drop_zero,List.flatMap_cons,List.take_append_of_le_length (by omega),← this,List.take_length]
  exact⟨rfl,by rw[List.length_append];omega⟩
 |a::r,q+1,e,hs,h=>by
  have h1:=hs a List.mem_cons_self
  obtain⟨h2,h3⟩:=zqs (es:=r) (q:=q) (fun x hx=>hs x (List.mem_cons_of_mem _ hx)) (by simpa using h)
  rw[List.flatMap_cons,Nat.succ_mul,show q*sz+sz=a.cells.length+q*sz by omega,List.drop_append,List.drop_eq_nil_of_le (by omega),List.nil_append,show a.cells.length+q*sz - a.cells.length=q*sz by omega]
  exact⟨h2,by rw[List.length_append];omega⟩
section
variable {P:Program} {N b:Nat} {vts:VTs} {vh:zab}
theorem zgz.idxG {o:Oper}{t e:TypeId}{x y:Operand}{i n q sz:Nat}{nl:Bool}{kd:IntKind}{next:VTs→zab→Prop}(ho:o.op=.indexAddr t x y)(ht:zc8 P t=some (e,sz))(hx:za6 vts x=some (.grow i n nl))(hy:za6 vts y=some (.int kd (q:Int)))(hq:q<n)(hd:zc1 N o.dst=true)
  (hn:next (tput vts o.dst (.ptr i (q*sz))) vh):zgz P N b o next vts vh:=fun lo g σ h ts hts hl s hb=>by
 obtain⟨x',k1,k2⟩:=zao hts hx
 obtain⟨y',k3,k4⟩:=zao hts hy
 have:=k4.isF rfl;cases this
 have hw:vidx (q:Int) n=some q:=by unfold vidx;rw[if_pos ⟨by omega,by omega⟩];rfl
 cases k2 with
 |fr _ _ h=>cases h
 |growN=>omega
 |grow0=>omega
 |grow _ _ o2 a k _ hi hs hm=>
  have hp:VR g σ vh.next (.ptr i (q*sz)) (.pointer (some ⟨o2,a+q*sz,none⟩)):=.ptr i (q*sz) o2 a k hi hs
  obtain⟨g1,g2⟩:=zeb (Fz.le_refl g) (Nat.le_refl _) (fun _ _=>rfl) hts o.dst (hl▸hd) hp
  refine .op (v:=.pointer (some ⟨o2,a+q*sz,none⟩)) (h':=h) (by rw[ho];simp only[aop,k1,k3,zc9,ht,zji,hw,Option.map_some]) ?_
  exact⟨g,σ,_,vh,⟨g1,g2.trans hl,s,Fz.le_refl g,fun _ _=>rfl,VF.refl _ _ _,hb,GOwn.refl _ _ _ _⟩,hn⟩
end
end Go.Am
end
/-
 The value machine: objects of a call's result heap are forgotten.
-/
section
namespace Go.Am
open Go
theorem zbj.only {P:Program}{f:FuncId}{args:List PV}{vh:zab}{R R2:PV→zab→Prop}(hc:zbj P f args vh R)(hw:∀v vh',R v vh'→∃vh2:zab,(∀j y,vh2.get j=some y→vh'.get j=some y)∧vh2.next=vh'.next∧R2 v vh2):zbj P f args vh R2:=fun lo g σ h args' ha s=>by
 refine(hc lo g σ h args' ha s).mono fun r h' ⟨g',σ',v,vh1,h1,h2,h3,h4,h5,h6,h7,h8⟩=>?_
 obtain⟨vh2,k1,k2,k3⟩:=hw v vh1 h8
 exact⟨g',σ',v,vh2,by rw[k2];exact h1,⟨fun j y hy=>by rw[k2];exact h2.obj j y (k1 j y hy),fun j k y z hy hz=>h2.inj j k y z (k1 j y hy) (k1 k z hz),fun j y hy=>h2.low j y (k1 j y hy),h2.fz,fun j y hy=>h2.dis j y (k1 j y hy),h2.lole⟩,
  h3,h4,⟨h5.next,h5.pres,fun j z hz=>h5.own j z (k1 j z hz)⟩,by rw[k2];exact h6,h7,k3⟩
theorem zvf {vh':zab}{x:VObj}(h:vh'.get 0=some x):∀j y,(⟨vh'.next,[(0,x)]⟩:zab).get j=some y→vh'.get j=some y:=fun j y hj=>by
 simp only[zab.get,zce,beq_eq] at hj
 by_cases h0:j=0
 ·subst h0;simp at hj;subst hj;exact h
 simp[h0] at hj
theorem zat.sl0k {P:Program}{f:FuncId}{r:List PV}{R:PV→Prop}(hp:zat P f (.vec []::r) R):zat P f (.sl0::r) R:=fun lo g σ h args' ha s=>by
 obtain⟨v',r',rfl,h1,h2⟩:=ha.zax
 refine hp lo g σ h (v'::r') (.cons ?_ h2) s
 cases h1 with
 |fr _ _ h=>cases h;exact .fr _ _ .vecN
theorem zgz.ldG1 {P:Program}{N b:Nat}{vts:VTs}{vh:zab}{o:Oper}{t:TypeId}{x:Operand}{i q:Nat}{es:List PV}{e:PV}{next:VTs→zab→Prop}(ho:o.op=.load t x)(hx:za6 vts x=some (.ptr i (q*1)))(hg:vh.get i=some (.grow 1 es))(he:es[q]?=some e)(he1:e.cells=[e])(hag:tagg P t=some false)(hd:zc1 N o.dst=true)
  (hn:next (tput vts o.dst e) vh):zgz P N b o next vts vh:=fun lo g σ h ts hts hl s hb=>by
 obtain⟨x',k1,k2⟩:=zao hts hx
 cases k2 with
 |fr _ _ h=>cases h
 |ptr _ _ o2 a k hi hs=>
  obtain⟨_,h1,_,h2⟩:=(s.obj i _ hg).2
  rcases h2 with h2|⟨s0,cs',h3,h4,h5,_⟩
  ·subst h2;simp at he
  rw[hs] at h3 h4
  simp only at h3 h4;subst h4
  obtain⟨f1,f2⟩:=zqs h1 he
  have hq:(es.flatMap PV.cells)[q*1]?=some e:=by
   have:=congrArg (·[0]?) f1
   simpa[he1] using this
  have hv:zby P t (es.flatMap PV.cells) (q*1)=some e:=by
   unfold zby
   rw[hag]
   simpa using hq
  obtain⟨v',e1,e2⟩:=zju (σ:=σ) (n:=vh.next) h3 h5.vr hv
  obtain⟨g1,g2⟩:=zeb (Fz.le_refl g) (Nat.le_refl _) (fun _ _=>rfl) hts o.dst (hl▸hd) e2
  refine .op (v:=v') (h':=h) (by rw[ho];simp only[aop,k1];rw[Nat.zero_add,e1];rfl) ?_
  exact⟨g,σ,_,vh,⟨g1,g2.trans hl,s,Fz.le_refl g,fun _ _=>rfl,VF.refl _ _ _,hb,GOwn.refl _ _ _ _⟩,hn⟩
theorem PV.zk6 {v:PV}(h:v.one=true):v.cells=[v]:=by cases v<;>first|rfl|cases h
theorem zgz.ztg {P:Program}{N b:Nat}{vts:VTs}{vh:zab}{o:Oper}{t e:TypeId}{x:Operand}{v z:PV}{next:VTs→zab→Prop}(ho:o.op=.buildSlice t 1 #[(0,x)])(ht:zc8 P t=some (e,1))(hz:zb1 P e=some [z])
 (hx:za6 vts x=some v) (hv:v.one=true) (hf:v.isF=true) (hd:zc1 N o.dst=true) (hn:next (tput vts o.dst (.grow vh.next 1 false)) (vh.alloc (.grow 1 [v]))):zgz P N b o next vts vh:=fun lo g σ h ts hts hl s hb=>by
 obtain⟨x',k1,k2⟩:=zao hts hx
 obtain⟨z',h1,h2⟩:=zfa (g:=g) hz
 have hz1:z'.length=1:=h2.1.symm
 have hc:x'.cells.toList=[x']:=by
  have h3:=k2.cells
  rw[PV.zk6 hv] at h3
  obtain⟨q,l,e1,e2,e3⟩:=h3.zax
  have:l=[]:=by have:=e3.1;simpa using this.symm
  subst this
  have ho:=k2.one
  rw[hv] at ho
  cases x'<;>first|rfl|cases ho
 obtain⟨z1,rfl⟩:∃z1,z'=[z1]:=by
  match z',hz1 with
  |[z1],_=>exact⟨z1,rfl⟩
 have k3:=k2.isF hf
 obtain⟨g1,g2⟩:=s.alloc (x:=.grow 1 [v]) (.cells 0 [x']) 1 ⟨Nat.zero_lt_one,by intro e he;simp at he;subst he;rw[PV.zk6 hv];rfl,(by show 1<inex;decide),.inr ⟨0,[x'],by rw[Sg.zaf,zaa.zay,if_pos rfl],by rw[Sg.zaf],by simp only[List.flatMap_cons,List.flatMap_nil,List.append_nil,PV.zk6 hv];exact .cons k3 .nil,.inr (by rw[Sg.zaf];rfl)⟩⟩
 have hr:VR g (σ.put vh.next (h.next,0,1)) (vh.alloc (.grow 1 [v])).next (.grow vh.next 1 false) (.slice (some ⟨h.next,0,none⟩) 1 1):=.grow vh.next 1 h.next 0 1 false (Nat.lt_succ_self _) (Sg.zaf _ _ _) Nat.zero_lt_one
 have hσ:∀i,i<vh.next→(σ.put vh.next (h.next,0,1)) i=σ i:=fun i hi=>Sg.zix _ _ (by omega)
 obtain⟨q1,q2⟩:=zeb (Fz.le_refl g) (Nat.le_succ _) hσ hts o.dst (hl▸hd) hr
 refine .op (v:=.slice (some ⟨h.next,0,none⟩) 1 1) (h':=h.alloc (.cells 0 [x'])) ?_ ⟨g,_,_,_,⟨q1,q2.trans hl,g1,Fz.le_refl g,fun i hi=>hσ i (by omega),g2,Nat.le_trans hb (Nat.le_succ _),GOwn.refl _ _ _ _⟩,hn⟩
 rw[ho]
 simp only[aop,zgg,k1,zdy,ht,h1]
 simp[reps,zj3,hc,zcb]
 rfl
end Go.Am
end
/-
 The value machine: a range over a frozen map that other operations of the same region bring.
-/
section
namespace Go.Am
open Go
section
variable {P:Program} {lo:Nat} {Q:zev} {i j tI tN tB tE:Nat} {o1 o2 o3:Oper} {ops2:Array Oper} {body:Code} {id1 id2:Nat}
theorem AW.zxj {id0 k:Nat}{ops0:Array Oper}{o0:Oper}{ty kt et:TypeId}{x:Operand}{ts:Tmps}{h:zaa}(hr:ops0[k]?=some o0)(hk:ops0.size=k+1)(h0:o0.op=.range ty x)(g0:o0.guard=none)(d0:o0.dst=some tI)(hu:P.underlying ty=some (.map kt et))
  (h1:o1.op=.next (.tmp tI) false) (g1:o1.guard=none) (d1:o1.dst=some tN) (h2:o2.op=.extract (.tmp tN) 0) (g2:o2.guard=none) (d2:o2.dst=some tB)
  (h3:ops2[0]?=some o3) (h3op:o3.op=.entry (.tmp tI)) (g3:o3.guard=none) (d3:o3.dst=some tE)
  (pre:AOps P lo ops0 (fun ts1 hh=>∃m es nT Inv,za7 ts1 x=some (.map (some m))∧hh.get m=some (.map es)∧zpe P hh.next i j tI tN tB tE m hh.next nT ops2 body es Inv Q∧
   Inv [] (aput ts1 (some tI) (.pointer (some ⟨hh.next,0,none⟩))) (zaa.zbi 1 hh)) (List.range k) ts h) :
  AW P lo (.seq (.region id0 ops0 false) (.block i (.loop (.seq (.region id1 #[o1,o2] false) (.seq (.cond (.tmp tB) .skip (.exit i)) (.block j (.seq (.region id2 ops2 false) body))))))) Q ts h:=by
 intro F hF n μ a w ht r ro
 refine wpIn_seq (wpIn_region ?_)
 have hrange:List.range ops0.size=List.range k++[k]:=by rw[hk,List.range_succ]
 rw[hrange]
 refine zcv _ _ _ _ ?_
 have hops:=zi7 (Q:=ziw (fun ts1 hh=>∃m es nT Inv,za7 ts1 x=some (.map (some m))∧hh.get m=some (.map es)∧zpe P hh.next i j tI tN tB tE m hh.next nT ops2 body es Inv Q∧
   Inv [] (aput ts1 (some tI) (.pointer (some ⟨hh.next,0,none⟩))) (zaa.zbi 1 hh)) fun _ _ _=>False) (n:=n) hF (List.range k) ts h μ h w μ a w ht r (Frame.refl _ _ _ _) pre
 refine zde hops fun e a1 w1 hl=>?_
 obtain⟨ts1,hh,μ1,ht1,r1,f1,hd1,hq⟩:=hl
 cases e with
 |normal=>
  obtain⟨m,es,nT,Inv,hx,hget,ml,hinv⟩:=hq
  have hxr:=zan ht1 hx
  simp only[wpOpsIn,hr]
  have hw0:Region.wanted o0 (yielded ops0 a1.tmps)=true:=by simp[Region.wanted,g0]
  rw[if_pos hw0]
  refine⟨zc3 F hF,?_⟩
  rw[Oper.semAt_eq _ _ _ (fun c hc=>by rw[h0] at hc;cases hc)]
  generalize hxe:a1.eval x=xv at hxr
  cases hxr with
  |map _ bm C hm=>
   obtain⟨b',a',C',hm',hob⟩:=r1.objs m _ hget
   rw[hm] at hm';injection hm' with hm';injection hm' with k1 k2;injection k2 with k2 k3;subst k1;subst k2;subst k3
   obtain⟨_,ents,clock,hmb,l,hperm,hlk,hll,hre,hpw,hclk⟩:=hob
   have hrun:(execOp a1.eval o0).run P w1=.ok (.value (.pointer (some ⟨w1.heap.size,0,none⟩))) (w1.alloc (.mapIter (some bm) clock #[] clock)):=by
    simp only[execOp,h0,hxe,Sem.run_bind,run_range_map w1 ty kt et bm ents clock hu hmb,Result.andThen_ok,Sem.run_pure]
   rw[hrun]
   simp only[Oper.uponIn]
   have hlo:=r1.lole
   have r1q:Rel μ1 hh.next hh w1:=r1.sub (Nat.le_refl _) (fun _ _ hx=>hx) hlo (Nat.le_refl _)
   refine wpIn_mono (Q:=LiftM hh.next μ1 hh w1 a1.defers Q) ?_ fun e a9 w9 ⟨ts9,h9,μ9,ms,q1,q2,q3,q4,q5,q6⟩=>?_
   rotate_left
   ·obtain⟨k1,k2⟩:=zng r1 hlo q2 q3
    have:LiftM lo μ1 hh w1 ([]++a.defers) Q e a9 w9:=⟨ts9,h9,μ9,ms,q1,k1,k2,by rw[q4,hd1];rfl,q5,q6⟩
    exact LiftM.trans (ms:=[]) f1 trivial this
   obtain⟨r2,f2,hun⟩:=zhv (.mapIter (some bm) clock #[] clock) r1q
   have r3:=r2.zbi 1
   have f3:=((Frame.refl hh.next μ1 hh w1).trans f2).trans (Frame.zbi (lo:=hh.next) (μ:=μ1) (h:=hh) (w:=w1.alloc (.mapIter (some bm) clock #[] clock)) 1)
   have hgn:(zaa.zbi 1 hh).get hh.next=none:=by
    rw[zaa.zbq]
    cases hg:hh.get hh.next with
    |none=>rfl
    |some y=>have:=zaa.zai hg;omega
   have hnn:hh.next<(zaa.zbi 1 hh).next:=by rw[zaa.zcu];omega
   have hmn:=r1q.zkb (Nat.le_refl hh.next)
   obtain⟨hle,r4⟩:=ztt r3 (w1.heap.size,0,0) hnn hgn hmn
   have f4:Frame hh.next μ1 hh w1 (μ1.put hh.next (w1.heap.size,0,0)) (zaa.zbi 1 hh) (w1.alloc (.mapIter (some bm) clock #[] clock)):=by
    refine⟨Mu.le_trans f3.le hle,f3.size,f3.next,f3.kept,fun b hb=>?_,f3.low,fun o ho=>?_,f3.born,f3.calm⟩
    ·rintro⟨o,y,a,C',k1,k2,k3⟩
     have hne:o≠hh.next:=fun ho=>by subst ho;rw[hgn] at k2;cases k2
     rw[Mu.zaj _ hne] at k3
     exact f3.own b hb ⟨o,y,a,C',k1,k2,k3⟩
    rw[Mu.zaj _ (by omega)]
   have ht4:RelT (μ1.put hh.next (w1.heap.size,0,0)) (aput ts1 (some tI) (.pointer (some ⟨hh.next,0,none⟩))) (a1.put o0.dst (.pointer (some ⟨w1.heap.size,0,none⟩))).tmps:=by
    have hp:RelV (μ1.put hh.next (w1.heap.size,0,0)) (.pointer (some ⟨hh.next,0,none⟩)) (.pointer (some ⟨w1.heap.size,0,none⟩)):=by
     have:=RelV.ptr hh.next 0 w1.heap.size 0 0 (Mu.zaf μ1 hh.next (w1.heap.size,0,0))
     simpa using this
    exact d0▸zek (ht1.mono hle) hp o0.dst
   have hd4:(a1.put o0.dst (.pointer (some ⟨w1.heap.size,0,none⟩))).defers=a1.defers:=by rw[put_defers]
   refine wpIn_block (wpIn_loop_rounds (ents.size+1) ?_)
   have hbornN:(ents.toList.map (·.born)).Nodup:=hpw.imp (fun h=>Nat.ne_of_lt h)
   have hu4:Unm (μ1.put hh.next (w1.heap.size,0,0)) (zaa.zbi 1 hh) w1.heap.size:=fun o y a' C' hy hmu=>by
    have hne:o≠hh.next:=fun ho=>by subst ho;rw[hgn] at hy;cases hy
    rw[Mu.zaj _ hne] at hmu
    rw[zaa.zbq] at hy
    exact hun o y a' C' hy hmu
   refine zmp (P:=P) (it:=hh.next) h1 g1 d1 h2 g2 d2 h3 h3op g3 d3 ml.hN ml.hB ml.hIN ml.hIB ml.hml ml.hkeys ml.hlen ml.hI ml.step ml.fin hF (ro.frame f1) hperm hlk hll hbornN (fun e he=>hclk e he) (bm:=bm) (C:=C) (Nat.le_refl _) (ents.size+1) [] #[]
    _ _ _ _ _ [] hinv ht4 r4 f4 hd4 trivial (Mu.zaf _ _ _) (by rw[heap_alloc];simp) hu4 (hle _ _ hm) (by rw[zaa.zbq];exact hget) ?_ (fun y p e hp he=>⟨(hre y p e hp he).1,(hre y p e hp he).2.mono hle⟩)
    ⟨fun _ h=>(by cases h),.nil,fun _ _ _ _ _=>⟨fun h=>(by cases h),fun h=>(by cases h)⟩⟩ ?_
   ·rw[heap_alloc_old _ _ (zbm hmb)];exact hmb
   have:=List.length_filter_le (fun e:MapEntry=>decide (e.born∉(#[]:Array Nat).toList)) ents.toList
   have h5:ents.toList.length=ents.size:=by simp
   omega
 |exit id=>exact hq.elim
 |goto l=>exact hq.elim
 |ret=>exact hq.elim
 |panic ch=>exact hq.elim
 |outgrown=>exact hq.elim
end
section
variable {P:Program} {N i j tI tN tB tE:Nat} {o1 o2 o3:Oper} {ops2:Array Oper} {body:Code} {id1 id2:Nat}
theorem VW.zyh {Q:zfz}{vts vts0:VTs}{id0 k0:Nat}{ops0:Array Oper}{o0:Oper}{ty kt et:TypeId}{tX:Tmp}{es:List (PV×PV)}(st:List Nat→VTs×zab)(I:List Nat→Prop)
  (hr:ops0[k0]?=some o0) (hk0:ops0.size=k0+1) (hd0:zlo N ops0=true) (h0:o0.op=.range ty (.tmp tX)) (g0:o0.guard=none) (d0:o0.dst=some tI) (hu:P.underlying ty=some (.map kt et))
  (h1:o1.op=.next (.tmp tI) false) (g1:o1.guard=none) (d1:o1.dst=some tN) (h2:o2.op=.extract (.tmp tN) 0) (g2:o2.guard=none) (d2:o2.dst=some tB)
  (h3:ops2[0]?=some o3) (h3op:o3.op=.entry (.tmp tI)) (g3:o3.guard=none) (d3:o3.dst=some tE) (hd2:zlo N ops2=true)
  (hlt:tX<N∧tI<N∧tN<N∧tB<N∧tE<N) (hne:tN≠tI∧tB≠tI∧tE≠tI∧tX≠tI)
  (pre:VOps P N 0 ops0 (fun vts1 vh1=>vts1=vts0∧vh1=zab.empty) (List.range k0) vts zab.empty)
  (hy:tget tX vts0=some (.vmap es)) (hk:∀p∈es,∃kd n,p.1=.int kd n) (hnd:(es.map (·.1)).Nodup)
  (hst:∀vis,tget tI (st vis).1=some (.ptr 0 0)∧tget tN (st vis).1=none)
  (hS:Rec 1 ((tI,.ptr 0 0)::vts0) ⟨1,[]⟩ (st []).1 (st []).2) (hSx:tget tI vts0=none) (hI:I [])
  (step:∀vis k p,I vis→vis.Nodup→es[k]?=some p→k∉vis→VOps P N 1 ops2 (VW P N 1 body (zfn j (zs5 (fun vts' vh'=>I (vis++[k])∧Rec 1 vts' vh' (st (vis++[k])).1 (st (vis++[k])).2) (zfn i Q)))) (List.range' 1 (ops2.size - 1)) ((tE,.tup [p.1,p.2])::(tB,.bool true)::(st vis).1) (st vis).2)
  (fin:∀vis,I vis→vis.Nodup→(∀k,k∈vis↔k<es.length)→Q .normal ((tB,.bool false)::(st vis).1) (st vis).2) :
  VW P N 0 (.seq (.region id0 ops0 false) (.block i (.loop (.seq (.region id1 #[o1,o2] false) (.seq (.cond (.tmp tB) .skip (.exit i)) (.block j (.seq (.region id2 ops2 false) body))))))) Q vts zab.empty:=fun lo gA σA hA tsA htA hnA sA hb=>by
 refine AW.zxj (Q:=fun e=>Sim N 0 lo gA σA zab.empty hA (Q e)) (k:=k0) (o0:=o0) (x:=.tmp tX) hr hk0 h0 g0 d0 hu h1 g1 d1 h2 g2 d2 h3 h3op g3 d3 ?_
 have hops:=zja (P:=P) (zik hd0) (List.range k0) tsA hA gA σA vts zab.empty (SimR.refl htA hnA sA hb) pre
 refine AOps.mono ?_ hops
 rintro ts h ⟨g,σ,vts1,vh1,aA,rfl,rfl⟩
 have ht:=aA.t
 have hn:=aA.len
 have s:=aA.s
 have hy2:=ht tX _ hy
 have hyf:=hy2.isF rfl
 obtain⟨y',hye⟩:∃y',ts.getD tX Go.undef=y':=⟨_,rfl⟩
 rw[hye] at hyf
 cases hyf with
 |vmap _ m es' hgm hlen rk rv=>
 have hmh:=s.fz _ _ hgm
 have hml:m<h.next:=zaa.zai hmh
 have hkeys':es'.map (·.1)=(es.map fun p=>match p.1 with|.int kd n=>Value.int kd n|_=>Go.undef):=by
  apply List.ext_getElem?
  intro q
  rw[List.getElem?_map,List.getElem?_map]
  cases hq:es[q]? with
  |none=>rw[List.getElem?_eq_none (by rw[List.getElem?_eq_none_iff] at hq;omega)];rfl
  |some p=>
   have hql:q<es'.length:=by
    rcases Nat.lt_or_ge q es.length with h|h
    ·omega
    rw[List.getElem?_eq_none h] at hq;cases hq
   have hq':es'[q]?=some es'[q]:=by simp[hql]
   rw[hq']
   have hr:=rk q p _ hq hq'
   obtain⟨kd,n,hp⟩:=hk p (List.mem_of_getElem? hq)
   rw[hp] at hr
   simp only[Option.map_some,hp]
   cases hv:es'[q].1<;>rw[hv] at hr<;>cases hr<;>rfl
 have hself:∀p∈es',zen p.1=true:=fun p hp=>by
  have:p.1∈es'.map (·.1):=List.mem_map.2 ⟨p,hp,rfl⟩
  rw[hkeys',List.mem_map] at this
  obtain⟨q,hq,he⟩:=this
  obtain⟨kd,n,hqe⟩:=hk q hq
  rw[hqe] at he
  rw[← he];rfl
 have hinj:∀(a c:Nat) p q,es'[a]?=some p→es'[c]?=some q→p.1=q.1→a=c:=fun a c p q ha hc he=>by
  have hnd':(es'.map (·.1)).Nodup:=by
   rw[hkeys']
   have:es.map (fun p=>match p.1 with|.int kd n=>Value.int kd n|_=>Go.undef)=(es.map (·.1)).map fun p=>match p with|.int kd n=>Value.int kd n|_=>Go.undef:=by rw[List.map_map];rfl
   rw[this]
   refine List.Pairwise.map _ ?_ (List.Pairwise.and_mem.1 hnd)
   rintro a b ⟨ha,hb,hab⟩
   obtain⟨p,hp,rfl⟩:=List.mem_map.1 ha
   obtain⟨q,hq,rfl⟩:=List.mem_map.1 hb
   obtain⟨k1,n1,e1⟩:=hk p hp
   obtain⟨k2,n2,e2⟩:=hk q hq
   rw[e1,e2] at hab ⊢
   intro hh
   apply hab
   simp only[Value.int.injEq] at hh
   rw[hh.1,hh.2]
  have h1:(es'.map (·.1))[a]?=some p.1:=by simp[ha]
  have h2:(es'.map (·.1))[c]?=some q.1:=by simp[hc]
  rw[he] at h1
  have hal:a<(es'.map (·.1)).length:=by
   rcases Nat.lt_or_ge a (es'.map (·.1)).length with h|h
   ·exact h
   rw[List.getElem?_eq_none h] at h1;cases h1
  exact(List.getElem?_inj hal hnd').1 (h1.trans h2.symm)
 obtain⟨hlX,hlI,hlN,hlB,hlE⟩:=hlt
 obtain⟨hn1,hn2,hn3,hn4⟩:=hne
 let hh:=zaa.zbi 1 h
 let σ2:Sg:=σ.put 0 (h.next,0,0)
 let pt:Value:=.pointer (some ⟨h.next,0,none⟩)
 have hts2:(aput ts (some tI) pt).length=N:=by simp[aput,hn]
 have s2:VS h.next g σ2 ⟨1,[]⟩ hh:=⟨fun i x hx=>(by cases hx),fun i j x y hx=>(by cases hx),fun i x hx=>(by cases hx),fun o x hx=>by rw[zgj];exact s.fz o x hx,fun i x hx=>(by cases hx),by rw[zfy];have:=s.lole;omega⟩
 have hpt:∀g',VR g' σ2 1 (.ptr 0 0) pt:=fun g'=>by
  have:=VR.ptr (g:=g') (σ:=σ2) (n:=1) 0 0 h.next 0 0 (by omega) (Sg.zaf _ _ _)
  simpa using this
 have t2:VT g σ2 1 ((tI,.ptr 0 0)::vts1) (aput ts (some tI) pt):=fun t v hv=>by
  simp only[tget,beq_eq] at hv
  by_cases ht1:t=tI
  ·subst ht1;simp at hv;subst hv
   rw[zc7 (by rw[hn];exact hlI)];exact hpt g
  simp[ht1] at hv
  rw[zck (fun h=>ht1 h.symm)]
  exact(ht t v hv).mono (Fz.le_refl g) (Nat.zero_le _) (fun i hi=>(by cases hi))
 have F1:VF σ zab.empty h σ2 ⟨1,[]⟩ hh:=⟨by rw[zfy];omega,fun o _ _=>zgj h o,fun i x hx=>(by cases hx)⟩
 have F0:VF σA zab.empty hA σ2 ⟨1,[]⟩ hh:=aA.f.trans F1
 have up:∀ {K:VTs→zab→Prop} {ts' h'},Sim N 1 h.next g σ2 ⟨1,[]⟩ hh K ts' h'→Sim N 0 lo gA σA zab.empty hA K ts' h':=fun {K ts' h'} ⟨g',σ',vts',vh',a,k⟩=>
  ⟨g',σ',vts',vh',SimR.lower (Nat.le_trans sA.lole aA.f.next) ⟨a.t,a.len,a.s,Fz.le_trans aA.le a.le,fun i hi=>(by cases hi),F0.trans a.f,Nat.zero_le _,aA.own.trans F0 a.own⟩,k⟩
 let Inv:List (Value×Value)→Tmps→zaa→Prop:=fun vis' ts' h'=>∃vis g' σ',vis.Nodup∧(∀k∈vis,k<es'.length)∧vis'=vis.filterMap (es'[·]?)∧I vis∧SimR N 1 h.next g σ2 ⟨1,[]⟩ hh ts' h' g' σ' (st vis).1 (st vis).2
 have hIt:∀vis' ts' h',Inv vis' ts' h'→ts'.getD tI Go.undef=pt:=by
  rintro vis' ts' h' ⟨vis,g',σ',_,_,_,_,a⟩
  have hv:=a.t tI _ (hst vis).1
  have hag:=a.agree 0 (by omega)
  generalize ts'.getD tI Go.undef=u at hv
  cases hv with
  |fr _ _ h=>cases h
  |ptr _ _ o a k hi hs=>rw[hag,show σ2 0=(h.next,0,0) from Sg.zaf _ _ _] at hs;cases hs;rfl
 refine⟨m,es',N,Inv,by simp only[za7];exact congrArg some hye,hmh,⟨hlN,hlB,fun h=>hn1 h,fun h=>hn2 h,hml,hself,?_,hIt,?_,?_⟩,?_⟩
 ·rintro vis' ts' h' ⟨vis,g',σ',_,_,_,_,a⟩;exact a.len
 ·rintro vis' p ts' h' ⟨vis,g',σ',hvn,hvl,rfl,hIv,a⟩ hp hnv hgm'
  obtain⟨k,hkp⟩:=List.getElem?_of_mem hp
  have hkl:k<es'.length:=by
   rcases Nat.lt_or_ge k es'.length with h|h
   ·exact h
   rw[List.getElem?_eq_none h] at hkp;cases hkp
  have hkv:k∉vis:=fun hkm=>hnv (List.mem_map.2 ⟨p,List.mem_filterMap.2 ⟨k,hkm,hkp⟩,rfl⟩)
  obtain⟨q,hq⟩:∃q,es[k]?=some q:=⟨es[k]'(by omega),by simp[show k<es.length by omega]⟩
  have hk1:=rk k q p hq hkp
  have hk2:=rv k q p hq hkp
  have hle:g.le g':=a.le
  have hpair:VR g' σ' (st vis).2.next (.tup [q.1,q.2]) (.tuple #[p.1,p.2]):=.fr _ _ (.tup _ _ rfl fun i u u' hu hu'=>by
   match i with
   |0=>simp at hu hu';subst hu;subst hu';exact hk1.mono hle
   |1=>simp at hu hu';subst hu;subst hu';exact hk2.mono hle
   |i+2=>simp at hu)
  have tN0:VT g' σ' (st vis).2.next (st vis).1 (aput ts' (some tN) (.tuple #[.bool true,p.1,p.2])):=fun t v hv=>by
   have:t≠tN:=fun h=>by subst h;rw[(hst vis).2] at hv;cases hv
   rw[zck (fun h=>this h.symm)];exact a.t t v hv
  have hl1:(aput ts' (some tN) (Value.tuple #[.bool true,p.1,p.2])).length=N:=by simp[aput,a.len]
  obtain⟨tB0,hl2⟩:=zeb (Fz.le_refl g') (Nat.le_refl _) (fun _ _=>rfl) tN0 (some tB) (by simp[zc1,hl1,hlB]) (.fr _ _ (.bool true):VR g' σ' (st vis).2.next (.bool true) (.bool true))
  obtain⟨tE0,hl3⟩:=zeb (Fz.le_refl g') (Nat.le_refl _) (fun _ _=>rfl) tB0 (some tE) (by simp[zc1,hl2,hl1,hlE]) hpair
  have a2:SimR N 1 h.next g σ2 ⟨1,[]⟩ hh _ h' g' σ' ((tE,.tup [q.1,q.2])::(tB,.bool true)::(st vis).1) (st vis).2:=⟨tE0,by rw[hl3,hl2,hl1],a.s,a.le,a.agree,a.f,a.base,a.own⟩
  have:=zja (P:=P) (zik hd2) _ _ h' g' σ' _ _ a2 (step vis k q hIv hvn hq hkv)
  refine AOps.mono ?_ this
  rintro ts3 h3' ⟨g3,σ3,vts3,vh3,a3,hW⟩
  refine(hW h.next g3 σ3 h3' ts3 a3.t a3.len a3.s a3.base).mono fun e ts4 h4 hs=>?_
  have hs:=hs.trans a3
  cases e with
  |normal=>
   obtain⟨g4,σ4,vts4,vh4,a4,k4,D,ρ,a5⟩:=hs
   have a6:=a4.trans (a5.sim a4.t a4.len a4.s)
   refine⟨vis++[k],_,_,?_,?_,?_,k4,a6⟩
   ·rw[List.nodup_append];exact⟨hvn,by simp,fun a ha b hb=>by simp at hb;subst hb;rintro rfl;exact hkv ha⟩
   ·intro k' hk'
    rcases List.mem_append.1 hk' with h|h
    ·exact hvl k' h
    simp at h;subst h;exact hkl
   simp[List.filterMap_append,hkp]
  |exit id'=>
   simp only[zb6,zfn] at hs ⊢
   by_cases hij:id'=j
   ·simp only[hij,if_true] at hs ⊢
    obtain⟨g4,σ4,vts4,vh4,a4,k4,D,ρ,a5⟩:=hs
    have a6:=a4.trans (a5.sim a4.t a4.len a4.s)
    refine⟨vis++[k],_,_,?_,?_,?_,k4,a6⟩
    ·rw[List.nodup_append];exact⟨hvn,by simp,fun a ha b hb=>by simp at hb;subst hb;rintro rfl;exact hkv ha⟩
    ·intro k' hk'
     rcases List.mem_append.1 hk' with h|h
     ·exact hvl k' h
     simp at h;subst h;exact hkl
    simp[List.filterMap_append,hkp]
   simp only[hij,if_false,ziw,zs5] at hs ⊢
   simp only[zb6,zfn] at hs ⊢
   by_cases hii:id'=i
   ·simp only[hii,if_true] at hs ⊢;exact up hs
   simp only[hii,if_false] at hs ⊢;exact up hs
  |goto l=>exact up hs
  |ret=>exact up hs
  |panic ch=>exact up hs
  |outgrown=>exact up hs
 ·rintro vis' ts' h' ⟨vis,g',σ',hvn,hvl,rfl,hIv,a⟩ hall hsub hnod hgm'
  have tN0:VT g' σ' (st vis).2.next (st vis).1 (aput ts' (some tN) (.tuple #[.bool false])):=fun t v hv=>by
   have:t≠tN:=fun h=>by subst h;rw[(hst vis).2] at hv;cases hv
   rw[zck (fun h=>this h.symm)];exact a.t t v hv
  have hl1:(aput ts' (some tN) (Value.tuple #[.bool false])).length=N:=by simp[aput,a.len]
  obtain⟨tB0,hl2⟩:=zeb (Fz.le_refl g') (Nat.le_refl _) (fun _ _=>rfl) tN0 (some tB) (by simp[zc1,hl1,hlB]) (.fr _ _ (.bool false):VR g' σ' (st vis).2.next (.bool false) (.bool false))
  refine up ⟨g',σ',_,_,⟨tB0,by rw[hl2,hl1],a.s,a.le,a.agree,a.f,a.base,a.own⟩,fin vis hIv hvn fun k=>⟨fun hkm=>by rw[hlen];exact hvl k hkm,fun hkl=>?_⟩⟩
  have hkl':k<es'.length:=by omega
  have hmem:=hall es'[k] (List.getElem_mem hkl')
  rw[List.mem_filterMap] at hmem
  obtain⟨k2,hk2,hk3⟩:=hmem
  have:=hinj k k2 es'[k] es'[k] (by simp[hkl']) hk3 rfl
  subst this;exact hk2
 refine⟨[],?_⟩
 obtain⟨D,ρ,aS⟩:=hS
 have a0:SimR N 1 h.next g σ2 ⟨1,[]⟩ hh (aput ts (some tI) pt) hh g σ2 ((tI,.ptr 0 0)::vts1) ⟨1,[]⟩:=.refl t2 hts2 s2 (Nat.le_refl _)
 exact⟨_,_,List.nodup_nil,fun k hk=>(by cases hk),rfl,hI,a0.trans (aS.sim t2 hts2 s2)⟩
end
end Go.Am
end
section
namespace Go.Am
open Go Go.Proofs
section
variable {P:Program} {N b:Nat} {vts:VTs} {vh:zab}
end
end Go.Am
end
/-
 The value machine: a call that looks at a box whose cells are objects too.
-/
section
namespace Go.Am
open Go
section
variable {P:Program} {N b:Nat} {vts:VTs} {vh:zab}
end
end Go.Am
end
/-
 The value machine: slices.Sort of a whole slice of a known length.
-/
section
namespace Go.Am
open Go
section
variable {P:Program} {vh:zab}
end
end Go.Am
end
/-
 The value machine, part Pc: calls that panic, and functions that recover.
-/
section
namespace Go.Am
section
variable {P:Program} {N b:Nat} {Q:zfz} {vts:VTs} {vh:zab} {pv:Value}
end
end Go.Am
end
/-
 The value machine, part Pd: maps whose values speak of objects; the body of a function that recovers.
-/
section
namespace Go.Am
section
variable {P:Program} {N b:Nat} {vts:VTs} {vh:zab}
end
end Go.Am
end
/-
 The value machine, part Pe: the body of a function that recovers.
-/
section
namespace Go.Am
section
variable {P:Program} {lo:Nat} {Q:zev} {ts:Tmps} {h:zaa} {pv:Value}
end
section
variable {P:Program} {N b:Nat} {Q:zfz} {vts:VTs} {vh:zab} {pv:Value}
end
end Go.Am
end
/-
 The value machine, part Pf: a call in a larger heap.
-/
section
namespace Go.Am
section
variable {P:Program} {vh:zab}
theorem VS.sub1 {lo:Nat}{g:Fz}{σ:Sg}{h:zaa}(s:VS lo g σ vh h)(i:Nat):VS lo g σ (vh.drop i) h:=
 ⟨fun j y hy=>s.obj j y (zbd hy).2,fun j k y z hy hz=>s.inj j k y z (zbd hy).2 (zbd hz).2,fun j y hy=>s.low j y (zbd hy).2,s.fz,fun j y hy=>s.dis j y (zbd hy).2,s.lole⟩
theorem VS.xb1 {lo:Nat}{g g':Fz}{σ σ':Sg}{h h':zaa}{vh1:zab}(s:VS lo g σ vh h){i:Nat}{x:VObj}(hi:vh.get i=some x)(hl:x.live=true)(h2:VS lo g' σ' vh1 h')(h3:g.le g')(h4:∀i,i<vh.next→σ' i=σ i)
  (h5:VF σ (vh.drop i) h σ' vh1 h') (h6:vh.next≤vh1.next) (h7:GOwn g σ (vh.drop i) h g'):VS lo g' σ' (vh1.back i x) h'∧VF σ vh h σ' (vh1.back i x) h'∧GOwn g σ vh h g':=by
 obtain⟨hin,hix⟩:=s.obj i x hi
 have hlt:=hix.lt hl
 have hσi:=h4 i hin
 have hne:∀j y,(vh.drop i).get j=some y→y.live=true→(σ j).1≠(σ i).1:=fun j y hy hly he=>by
  obtain⟨k1,k2⟩:=zbd hy
  exact k1 (s.inj j i y x k2 hi hly hl he)
 have hkeep:h'.get (σ i).1=h.get (σ i).1:=h5.pres _ hlt hne
 have hno:∀j z,vh1.get j=some z→z.live=true→(σ' j).1≠(σ i).1:=fun j z hz hlz he=>by
  obtain⟨k,u,k1,k2,k3⟩:=h5.own j z hz hlz (by rw[he];exact hlt)
  exact hne k u k1 k2 (k3.trans he)
 refine⟨⟨fun j z hz=>?_,fun j k z u hz hu hlz hlu he=>?_,fun j z hz hlz=>?_,h2.fz,fun j z hz hlz=>?_,h2.lole⟩,⟨h5.next,fun o ho hn=>h5.pres o ho fun j y hy hly=>hn j y (zbd hy).2 hly,fun j z hz hlz hlt2=>?_⟩,fun o z hz ho=>?_⟩
 ·rw[zab.zhb] at hz
  by_cases hj:j=i
  ·subst hj
   simp at hz;subst hz
   exact⟨Nat.lt_of_lt_of_le hin h6,hix.mono h3 h6 h4 hin fun _=>hkeep⟩
  simp only[hj,if_false] at hz
  exact h2.obj j z hz
 ·rw[zab.zhb] at hz hu
  by_cases hj:j=i
  ·subst hj
   by_cases hk:k=j
   ·exact hk.symm
   simp only[hk,if_false] at hu
   exact absurd (he.symm.trans (by rw[hσi])) (hno k u hu hlu)
  simp only[hj,if_false] at hz
  by_cases hk:k=i
  ·subst hk
   exact absurd (he.trans (by rw[hσi])) (hno j z hz hlz)
  simp only[hk,if_false] at hu
  exact h2.inj j k z u hz hu hlz hlu he
 ·rw[zab.zhb] at hz
  by_cases hj:j=i
  ·subst hj;rw[hσi];exact s.low j x hi hl
  simp only[hj,if_false] at hz
  exact h2.low j z hz hlz
 ·rw[zab.zhb] at hz
  by_cases hj:j=i
  ·subst hj
   rw[hσi]
   cases hgo:g' (σ j).1 with
   |none=>rfl
   |some q=>
    rcases h7 _ q hgo hlt with h10|⟨k,u,k1,k2,k3⟩
    ·rw[s.dis j x hi hl] at h10;cases h10
    exact absurd k3 (hne k u k1 k2)
  simp only[hj,if_false] at hz
  exact h2.dis j z hz hlz
 ·rw[zab.zhb] at hz
  by_cases hj:j=i
  ·subst hj;exact⟨j,x,hi,hl,by rw[hσi]⟩
  simp only[hj,if_false] at hz
  obtain⟨k,u,k1,k2,k3⟩:=h5.own j z hz hlz hlt2
  exact⟨k,u,(zbd k1).2,k2,k3⟩
 rcases h7 o z hz ho with h10|⟨k,u,k1,k2,k3⟩
 ·exact .inl h10
 exact .inr ⟨k,u,(zbd k1).2,k2,k3⟩
theorem zbj.frame {f:FuncId}{args:List PV}{R:PV→zab→Prop}{i:Nat}{x:VObj}(hi:vh.get i=some x)(hl:x.live=true)(hc:zbj P f args (vh.drop i) R):zbj P f args vh fun v vh'=>∃vh1,R v vh1∧vh'=vh1.back i x:=fun lo g σ h args' ha s=>by
 refine(hc lo g σ h args' ha (s.sub1 i)).mono fun r h' ⟨g',σ',v,vh1,h1,h2,h3,h4,h5,h6,h7,h8⟩=>?_
 obtain⟨k1,k2,k3⟩:=s.xb1 hi hl h2 h3 h4 h5 h6 h7
 exact⟨g',σ',v,vh1.back i x,h1,k1,h3,h4,k2,h6,k3,vh1,h8,rfl⟩
def mpG {α:Type}(f:α→PV)(l:List (Int×α)):List (PV×PV):=l.map fun e=>(.int .i64 e.1,f e.2)
def alk {α:Type}(l:List (Int×α))(n:Int):Option α:=match l with
 |[]=>none
 |e::r=>if e.1=n then some e.2 else alk r n
def aset {α:Type}(l:List (Int×α))(n:Int)(v:α):List (Int×α):=if (alk l n).isSome then l.map fun e=>if e.1=n then (e.1,v) else e else l++[(n,v)]
theorem zms {α:Type}{f:α→PV}(n:Int):∀l:List (Int×α),zh8 .i64 n (mpG f l)=some ((alk l n).map f)
 |[]=>rfl
 |e::r=>by
  show (bif decide (IntKind.i64=.i64) then _ else _)=_
  simp only[decide_true,xfp]
  have ih:=zms (f:=f) n r
  unfold mpG at ih
  rw[ih]
  by_cases h:e.1=n<;>simp[alk,h]
theorem zxz {α:Type}{f:α→PV}(n:Int)(v:α)(l:List (Int×α)):zn8 .i64 n (f v) (mpG f l)=some (mpG f (aset l n v)):=by
 unfold zn8
 rw[zms]
 unfold aset
 cases h:alk l n with
 |none=>simp[mpG]
 |some u=>
  simp only[Option.map_some,Option.isSome_some,if_true,xfm]
  unfold mpG
  rw[List.map_map,List.map_map]
  refine List.map_congr_left fun e _=>?_
  simp only[Function.comp,qput]
  by_cases h:e.1=n<;>simp[h]
theorem z4d {α:Type}(n m:Int)(v:α)(l:List (Int×α)):alk (aset l n v) m=if m=n then some v else alk l m:=by
 have app:∀(l:List (Int×α)),alk l n=none→alk (l++[(n,v)]) m=if m=n then some v else alk l m:=by
  intro l
  induction l with
  |nil=>
   intro _
   by_cases h:m=n
   ·simp[alk,h]
   have:¬n=m:=fun h'=>h h'.symm
   simp[alk,h,this]
  |cons e r ih=>
   intro hl
   unfold alk at hl
   by_cases he:e.1=n
   ·simp[he] at hl
   simp only[he,if_false] at hl
   simp only[List.cons_append,alk]
   by_cases h2:e.1=m
   ·have:¬m=n:=fun h=>he (h2.trans h)
    simp[h2,this]
   simp only[h2,if_false];exact ih hl
 have rep:∀(l:List (Int×α)),(alk l n).isSome=true→alk (l.map fun e=>if e.1=n then (e.1,v) else e) m=if m=n then some v else alk l m:=by
  have other:¬m=n→∀l:List (Int×α),alk (l.map fun e=>if e.1=n then (e.1,v) else e) m=alk l m:=by
   intro hmn l
   induction l with
   |nil=>rfl
   |cons e r ih=>
    simp only[List.map_cons,alk,ih]
    by_cases h:e.1=n
    ·have:¬n=m:=fun h'=>hmn h'.symm
     simp[h,this]
    simp[h]
  intro l
  by_cases hmn:m=n
  ·subst hmn
   induction l with
   |nil=>intro h;simp[alk] at h
   |cons e r ih=>
    intro h
    simp only[List.map_cons,alk]
    by_cases he:e.1=m
    ·simp[he]
    simp only[he,if_false]
    unfold alk at h
    simp only[he,if_false] at h
    have:=ih h
    simpa using this
  intro _;rw[other hmn];simp[hmn]
 unfold aset
 cases h:alk l n with
 |none=>simp only[Option.isSome_none,Bool.false_eq_true,if_false];exact app l h
 |some u=>simp only[Option.isSome_some,if_true];exact rep l (by rw[h];rfl)
end
end Go.Am
end
/-
 The value machine, part Me: an entry of a map that is taken and written later.
-/
section
namespace Go.Am
section
variable {P:Program} {N b:Nat} {vts:VTs} {vh:zab}
end
end Go.Am
end
/-
 The value machine: a slice of numbers is lent to a call that writes it, while all else that is written stands still and may be looked at.
-/
section
namespace Go.Am
open Go
section
variable {P:Program} {vh:zab}
end
end Go.Am
end
/-
 The value machine: slices that grow, whose elements may speak of objects that are written.
-/
section
namespace Go.Am
open Go
section
variable {P:Program} {N b:Nat} {vts:VTs} {vh:zab}
end
end Go.Am
end
/-
 The value machine: an operation that writes, and what may still be looked at because it is about other objects.
-/
section
namespace Go.Am
open Go
def zrj (l:List Nat):List (Nat×VObj)→List (Nat×VObj)
 |[]=>[]
 |(j,y)::r=>bif l.contains j then (j,y)::zrj l r else zrj l r
def zab.only (vh:zab)(l:List Nat):zab:=⟨vh.next,zrj l vh.objs⟩
section
variable {P:Program} {N b lo:Nat} {vts:VTs} {vh:zab} {g:Fz} {σ:Sg} {h:zaa}
end
end Go.Am
end
/-
 The abstract machine, evaluated in pieces: calls whose heaps before and behind are written down.
-/
section
namespace Go.Am
noncomputable def z3d:Value→Value→Bool
 |.tuple x,.tuple y=>List.rec (motive:=fun _=>List Value→Bool) (fun m=>match m with|[]=>true|_=>false) (fun a _ ih m=>match m with|[]=>false|b::s=>zn1 a b&&ih s) x.toList y.toList
 |a,b=>zn1 a b
noncomputable def zoe (l:List Value):List Value→Bool:=
 List.rec (motive:=fun _=>List Value→Bool) (fun m=>match m with|[]=>true|_=>false) (fun a _ ih m=>match m with|[]=>false|b::s=>zn1 a b&&ih s) l
theorem zmr:∀ {l m:List Value},zoe l m=true→l=m
 |[],[],_=>rfl
 |[],_::_,h=>by cases h
 |_::_,[],h=>by cases h
 |a::r,b::s,h=>by
  have h':(zn1 a b&&zoe r s)=true:=h
  rw[xfr] at h'
  rw[zqb h'.1,zmr h'.2]
theorem z0n {a b:Value}(h:z3d a b=true):a=b:=by
 unfold z3d at h
 split at h
 ·rw[Array.ext' (zmr h)]
 exact zqb h
noncomputable def z5j (l:List (Value×Value)):List (Value×Value)→Bool:=
 List.rec (motive:=fun _=>List (Value×Value)→Bool) (fun m=>match m with|[]=>true|_=>false) (fun a _ ih m=>match m with|[]=>false|b::s=>zpu a.1 b.1&&(zpu a.2 b.2&&ih s)) l
theorem ztv:∀ {l m:List (Value×Value)},z5j l m=true→l=m
 |[],[],_=>rfl
 |[],_::_,h=>by cases h
 |_::_,[],h=>by cases h
 |a::r,b::s,h=>by
  have h':(zpu a.1 b.1&&(zpu a.2 b.2&&z5j r s))=true:=h
  rw[xfr,xfr] at h'
  rw[Prod.ext (zlt h'.1) (zlt h'.2.1),ztv h'.2.2]
noncomputable def zzm:AObj→AObj→Bool
 |.cells s cs,.cells s' cs'=>Nat.beq s s'&&zzh cs cs'
 |.map es,.map es'=>z5j es es'
 |_,_=>false
theorem z0k {a b:AObj}(h:zzm a b=true):a=b:=by
 unfold zzm at h
 split at h
 ·rw[xfr] at h
  rw[xfs h.1,zps h.2]
 ·rw[ztv h]
 cases h
noncomputable def mkH (n:Nat)(l:List (Nat×AObj)):zaa:=List.rec (motive:=fun _=>zaa) ⟨n,.nil⟩ (fun p _ ih=>ih.put p.1 (some p.2)) l
theorem zqm (n:Nat):∀l,(mkH n l).next=n
 |[]=>rfl
 |p::r=>zqm n r
noncomputable def zvk (n:Nat)(l:List (Nat×AObj)):Bool:=List.rec (motive:=fun _=>Bool) true (fun p _ ih=>Nat.blt p.1 n&&ih) l
noncomputable def subB (h:zaa)(l:List (Nat×AObj)):Bool:=List.rec (motive:=fun _=>Bool) true (fun p _ ih=>(match h.get p.1 with
 |some x=>zzm x p.2
 |none=>false)&&ih) l
theorem get_nil (n o:Nat):(zaa.mk n .nil).get o=none:=by
 simp only[zaa.get_eq]
 split<;>rfl
theorem zwt (n:Nat):∀ {l:List (Nat×AObj)},zvk n l=true→∀ {o x},(mkH n l).get o=some x→∃p∈l,p.1=o∧p.2=x
 |[],_,o,x,h=>by
  have h:(zaa.mk n .nil).get o=some x:=h
  rw[get_nil] at h;cases h
 |p::r,ha,o,x,h=>by
  have ha:(Nat.blt p.1 n&&zvk n r)=true:=ha
  rw[xfr,Nat.blt_eq] at ha
  have h:((mkH n r).put p.1 (some p.2)).get o=some x:=h
  rw[zaa.zaw _ _ _ _ (by rw[zqm];exact ha.1)] at h
  by_cases ho:o=p.1
  ·simp only[ho,if_true,xfm] at h
   exact⟨p,List.mem_cons_self,ho.symm,h⟩
  simp only[ho,if_false] at h
  obtain⟨q,h1,h2⟩:=zwt n ha.2 h
  exact⟨q,List.mem_cons_of_mem _ h1,h2⟩
theorem zug {h:zaa}:∀ {l:List (Nat×AObj)},subB h l=true→∀p∈l,h.get p.1=some p.2
 |[],_,p,hp=>by cases hp
 |q::r,hs,p,hp=>by
  have hs:((match h.get q.1 with|some x=>zzm x q.2|none=>false)&&subB h r)=true:=hs
  rw[xfr] at hs
  rcases List.mem_cons.1 hp with rfl|hp
  ·cases hg:h.get p.1 with
   |none=>rw[hg] at hs;cases hs.1
   |some x=>rw[hg] at hs;rw[z0k hs.1]
  exact zug hs.2 p hp
theorem zkd.toH {h:zaa}{n:Nat}{l:List (Nat×AObj)}(hn:h.next=n)(hl:zvk n l=true)(hs:subB h l=true):zkd 0 h (mkH n l):=
 .sub (by rw[zqm,hn]) (fun o x hx=>by
  obtain⟨p,h1,rfl,rfl⟩:=zwt n hl hx
  exact zug hs p h1) (fun o ho=>absurd ho (Nat.not_lt_zero o))
structure zfe where
  f:Nat
  args:List Value
  n:Nat
  l:List (Nat×AObj)
  r:Value
  n':Nat
  l':List (Nat×AObj)
section
variable {P:Program}
def z9t (P:Program)(f:Nat):Prop:=∀cs w,(callFunc f cs).run P w=.ok (.enter f cs) w
structure zx3 (P:Program) (p:zfe):Prop where
  call:z9t P p.f
  run:zc0 P 0 p.f p.args (mkH p.n p.l) fun r h=>r=p.r∧h=mkH p.n' p.l'
  lt:zvk p.n p.l=true
noncomputable def zfc (orc:Orc)(p:zfe):Bool:=zvk p.n p.l&&match orc.call p.f p.args (mkH p.n p.l) with
 |some (r,h')=>z3d r p.r&&Nat.beq h'.next p.n'&&zvk p.n' p.l'&&subB h' p.l'
 |none=>false
theorem zb8 {orc:Orc}(ok:zkf P 0 orc){p:zfe}(hp:zfc orc p=true):zx3 P p:=by
 unfold zfc at hp
 rw[xfr] at hp
 obtain⟨h0,hp⟩:=hp
 split at hp
 ·rename_i r h' hc
  simp only[xfr] at hp
  obtain⟨⟨⟨h1,h2⟩,h3⟩,h4⟩:=hp
  obtain⟨hk,ha⟩:=ok.call _ _ _ _ _ hc
  refine⟨hk,ha.zty fun r2 h2' ⟨e1,e2⟩=>?_,h0⟩
  subst e1;subst e2
  exact⟨_,.toH (xfs h2) h3 h4,z0n h1,rfl⟩
 cases hp
noncomputable def zxu (n:Nat)(l:List zfe):Option zfe:=List.rec (motive:=fun _=>Option zfe) none (fun a _ ih=>cond (Nat.beq n a.n) (some a) ih) l
theorem zno {n:Nat}:∀ {l:List zfe} {p:zfe},zxu n l=some p→p∈l∧p.n=n
 |[],_,h=>by cases h
 |a::r,p,h=>by
  have h:cond (Nat.beq n a.n) (some a) (zxu n r)=some p:=h
  cases hb:Nat.beq n a.n with
  |true=>
   rw[hb,xfp] at h;injection h with h;subst h
   exact⟨List.mem_cons_self,(xfs hb).symm⟩
  |false=>
   rw[hb,xfq] at h
   exact⟨List.mem_cons_of_mem _ (zno h).1,(zno h).2⟩
noncomputable def orcP (ps:List zfe)(orc:Orc):Orc where
  call f args h:=match zxu h.next ps with
    |some p=>cond (Nat.beq f p.f&&zoe args p.args&&subB h p.l) (some (p.r,mkH p.n' p.l')) (orc.call f args h)
    |none=>orc.call f args h
  yld:=orc.yld
theorem zc0.z2v {f:FuncId}{args:List Value}{h h2:zaa}{lo:Nat}{R:Value→zaa→Prop}(hr:zkd lo h h2)(hc:zc0 P lo f args h2 R):zc0 P lo f args h R:=by
 intro F hF hro n μ w cargs ha r
 obtain⟨k1,k2⟩:=hr μ w μ h w r (Frame.refl _ _ _ _)
 refine(hc F hF hro n μ w cargs ha k1).mono fun e w' ⟨r',v,h',μ',h1,h2,h3,h4,h5⟩=>?_
 exact⟨r',v,h',μ',h1,h2,h3,k2.trans h4,h5⟩
theorem z3c {ps:List zfe}{orc:Orc}(hps:∀p∈ps,zx3 P p)(ok:zkf P 0 orc):zkf P 0 (orcP ps orc):=by
 refine⟨fun f args h r h' hv=>?_,ok.yld⟩
 have hv:(match zxu h.next ps with
  |some p=>cond (Nat.beq f p.f&&zoe args p.args&&subB h p.l) (some (p.r,mkH p.n' p.l')) (orc.call f args h)
  |none=>orc.call f args h)=some (r,h'):=hv
 cases hf:zxu h.next ps with
 |none=>rw[hf] at hv;exact ok.call _ _ _ _ _ hv
 |some p=>
  rw[hf] at hv
  obtain⟨h1,h2⟩:=zno hf
  have hp:=hps p h1
  have hv:cond (Nat.beq f p.f&&zoe args p.args&&subB h p.l) (some (p.r,mkH p.n' p.l')) (orc.call f args h)=some (r,h'):=hv
  cases hb:(Nat.beq f p.f&&zoe args p.args&&subB h p.l) with
  |false=>rw[hb,xfq] at hv;exact ok.call _ _ _ _ _ hv
  |true=>
   rw[hb,xfp,xfm,xfn] at hv
   obtain⟨v1,v2⟩:=hv
   simp only[xfr] at hb
   obtain⟨⟨b1,b2⟩,b3⟩:=hb
   have e1:=xfs b1
   have e2:=zmr b2
   subst e1;subst e2
   refine⟨hp.call,(zc0.z2v (.toH h2.symm hp.lt b3) hp.run).mono fun r2 h3 ⟨k1,k2⟩=>?_⟩
   rw[k1,k2];exact⟨v1,v2⟩
theorem zxx {orc:Orc} (ok:zkf P 0 orc) {f:FuncId} {b:Bool} (h:(match orc.call f [] zaa.empty with
  |some (.bool c,_)=>c==b
  |_=>false)=true):zc0 P 0 f [] zaa.empty fun r _=>r=.bool b:=by
 split at h
 ·rename_i c h' hc
  refine(ok.call _ _ _ _ _ hc).2.mono fun r2 h2 ⟨e1,_⟩=>?_
  rw[e1,eq_of_beq h]
 cases h
end
end Go.Am
end
/-
 The abstract machine: what a call of plain values hands back, in the next object.
-/
section
namespace Go.Am
section
variable {P:Program} {lo:Nat}
theorem zc0.z0w {h:zaa}{f:FuncId}{args:List Value}{zs:List Int}(hlo:lo≤h.next)(hpos:0<zs.length)
  (hc:zc0 P h.next f args h fun r h'=>∃o off k s cs,r=.slice (some ⟨o,off,none⟩) zs.length k∧h.next≤o∧k<unk∧h'.get o=some (.cells s cs)∧∀(i:Nat) x,zs[i]?=some x→cs[off+i]?=some (.int .i64 x)) :
  zc0 P lo f args h fun r h'=>r=.slice (some ⟨h.next,0,none⟩) zs.length inex∧h'=h.alloc (.cells 0 (zs.map (.int .i64))):=by
 intro F hF hro n μ w cargs ha r
 refine(hc F hF hro n μ w cargs ha (r.sub (Nat.le_refl _) (fun _ _ hx=>hx) hlo (Nat.le_refl _))).mono fun e w' ⟨r',v,h',μ',h1,h2,h3,h4,o,off,k,s,cs,h5,h6,h7,h8,h9⟩=>?_
 subst h5
 obtain⟨g1,g2⟩:=r.restore h4 (fun o x hx=>zaa.zai hx)
 obtain⟨b,a,C,hm,hob⟩:=h3.objs o _ h8
 have hbw:w.heap.size≤b:=by
  rcases Nat.lt_or_ge b w.heap.size with hb|hb
  ·obtain⟨o2,x2,a2,C2,k1,k2,_⟩:=h4.own b hb ⟨o,_,a,C,h6,h8,hm⟩
   have:=zaa.zai k2
   omega
  exact hb
 have hv:v=.slice (some ⟨b,a+off,none⟩) zs.length (zcy C k)∧zs.length≤zcy C k:=by
  generalize hz:zs.length=z at h2 hpos ⊢
  cases h2 with
  |slice _ _ _ _ b1 a1 C1 hm1 hl1 hk1=>
   rw[hm] at hm1;injection hm1 with hm1;injection hm1 with e1 e2;injection e2 with e2 e3;subst e1;subst e2;subst e3
   exact⟨rfl,hl1⟩
  |sliceZ=>exact absurd hpos (Nat.lt_irrefl _)
  |slice0=>exact absurd hpos (Nat.lt_irrefl _)
 obtain⟨hv,hcap⟩:=hv
 have hle:=r.zjq (b,a+off,zcy C k)
 have hblk:∀p y b' a' C',h.get p=some y→μ p=some (b',a',C')→b'<w.heap.size:=fun p y b' a' C' hy hmu=>by
  obtain⟨b2,a2,C2,k1,k2⟩:=r.objs p y hy
  rw[hmu] at k1;injection k1 with k1;injection k1 with k1 _;subst k1
  exact k2.zcq
 have hnew:RelO (μ.put h.next (b,a+off,zcy C k)) w' b (a+off) (zcy C k) (.cells 0 (zs.map (.int .i64))):=⟨hob.1,fun i v' hv'=>by
  rw[List.getElem?_map] at hv'
  cases hz:zs[i]? with
  |none=>rw[hz] at hv';cases hv'
  |some x=>
   rw[hz] at hv';simp only[Option.map_some,xfm] at hv';subst hv'
   obtain⟨v2,k1,k2⟩:=hob.2.1 (off+i) _ (h9 i x hz)
   cases k2
   exact⟨_,by rw[Nat.add_assoc];exact k1,.int _ _⟩,fun h=>absurd h (Nat.lt_irrefl _)⟩
 have split:∀p y,(h.alloc (.cells 0 (zs.map (.int .i64)))).get p=some y→(p=h.next∧y=.cells 0 (zs.map (.int .i64)))∨(p≠h.next∧h.get p=some y):=fun p y hy=>by
  rw[zaa.zay] at hy
  by_cases hp:p=h.next
  ·subst hp;simp at hy;exact .inl ⟨rfl,hy.symm⟩
  simp[hp] at hy;exact .inr ⟨hp,hy⟩
 refine⟨_,v,_,μ.put h.next (b,a+off,zcy C k),h1,?_,⟨fun p y hy=>?_,fun p p' y y' b' a' C' a2 C2 hlp hy hy' k1 k2=>?_,fun p y hy=>?_,fun p y b' a' C' hlp hy k1 off=>?_,?_⟩,⟨hle,g2.size,by simp,g2.kept,fun b' hb'=>?_,fun p hp=>?_,fun p hp=>Mu.zaj _ (by omega),fun p hp hn=>?_,g2.calm⟩,rfl,rfl⟩
 ·rw[hv]
  have hc2:zcy (zcy C k) inex=zcy C k:=by unfold zcy;simp
  have:=RelV.slice (μ:=μ.put h.next (b,a+off,zcy C k)) h.next 0 zs.length inex b (a+off) (zcy C k) (Mu.zaf _ _ _) (by rw[hc2];exact hcap) (by decide)
  rw[hc2] at this
  exact this
 ·rcases split p y hy with⟨rfl,rfl⟩|⟨hp,hy⟩
  ·exact⟨b,a+off,zcy C k,Mu.zaf _ _ _,hnew⟩
  obtain⟨b',a',C',k1,k2⟩:=g1.objs p y hy
  exact⟨b',a',C',by rw[Mu.zaj _ hp];exact k1,k2.mono hle⟩
 ·rcases split p y hy with⟨rfl,rfl⟩|⟨hp,hy⟩<;>rcases split p' y' hy' with⟨rfl,rfl⟩|⟨hp',hy'⟩
  ·rfl
  ·rw[Mu.zaf] at k1;injection k1 with k1;injection k1 with k1 _;subst k1
   rw[Mu.zaj _ hp'] at k2
   have:=hblk p' y' _ _ _ hy' k2
   omega
  ·rw[Mu.zaf] at k2;injection k2 with k2;injection k2 with k2 _;subst k2
   rw[Mu.zaj _ hp] at k1
   have:=hblk p y _ _ _ hy k1
   omega
  rw[Mu.zaj _ hp] at k1;rw[Mu.zaj _ hp'] at k2
  exact g1.inj p p' y y' b' a' C' a2 C2 hlp hy hy' k1 k2
 ·by_cases hp:p=h.next
  ·subst hp;simp
  rw[Mu.zaj _ hp] at hy
  have:=r.dom p y hy
  simp;omega
 ·rcases split p y hy with⟨rfl,rfl⟩|⟨hp,hy⟩
  ·rw[Mu.zaf] at k1;injection k1 with k1;injection k1 with k1 _;subst k1
   exact h3.thaw o _ b a C h6 h8 hm off
  rw[Mu.zaj _ hp] at k1
  exact g1.thaw p y b' a' C' hlp hy k1 off
 ·simp;omega
 ·rintro⟨p,y,a',C',k1,k2,k3⟩
  rcases split p y k2 with⟨rfl,rfl⟩|⟨hp,hy⟩
  ·rw[Mu.zaf] at k3;injection k3 with k3;injection k3 with k3 _;omega
  rw[Mu.zaj _ hp] at k3
  exact⟨p,y,a',C',k1,hy,k3⟩
 ·rw[zaa.zay,if_neg (by omega)]
 rw[zaa.zay,if_neg (by omega)];exact hn
def zm2:List (Value×Value)→Option (List (Int×PV))
 |[]=>some []
 |(.int .i64 k,v)::r=>match pvc v,zm2 r with
  |some p,some l=>some ((k,p)::l)
  |_,_=>none
 |_=>none
def memI (k:Int):List Int→Bool
 |[]=>false
 |a::r=>decide (a=k)||memI k r
def zlb:List Int→Bool
 |[]=>true
 |a::r=>!memI a r&&zlb r
theorem ztu {k:Int}:∀ {l:List Int},memI k l=true↔k∈l
 |[]=>by simp[memI]
 |a::r=>by
  rw[memI,Bool.or_eq_true,decide_eq_true_eq,ztu (l:=r),List.mem_cons]
  exact⟨fun h=>h.elim (fun h=>.inl h.symm) .inr,fun h=>h.elim (fun h=>.inl h.symm) .inr⟩
theorem zk1:∀ {l:List Int},zlb l=true↔l.Nodup
 |[]=>by simp[zlb]
 |a::r=>by
  simp only[zlb,xfr,Bool.not_eq_true',List.nodup_cons,zk1 (l:=r)]
  rw[← ztu]
  cases memI a r<;>simp
def kvs (l:List (Int×PV)):List (PV×PV):=l.map fun p=>(.int .i64 p.1,p.2)
theorem zt5 {g:Fz}{m:Nat}:∀ {es:List (Value×Value)} {l:List (Int×PV)},zm2 es=some l→es.length=l.length∧
  (∀(j:Nat) p p',(kvs l)[j]?=some p→es[j]?=some p'→FR g p.1 p'.1)∧(∀(j:Nat) p p',(kvs l)[j]?=some p→es[j]?=some p'→FR g p.2 p'.2)
 |[],l,h=>by simp only[zm2,xfm] at h;subst h;exact⟨rfl,fun j p p' h=>by simp[kvs] at h,fun j p p' h=>by simp[kvs] at h⟩
 |(a,v)::r,l,h=>by
  unfold zm2 at h
  split at h
  ·rename_i heq;cases heq
  ·rename_i k v' r' heq
   cases heq
   split at h
   ·rename_i p l1 h1 h2
    injection h with h;subst h
    obtain⟨i1,i2,i3⟩:=zt5 (g:=g) (m:=m) h2
    refine⟨by simp[i1],fun j q q' hq hq'=>?_,fun j q q' hq hq'=>?_⟩
    ·cases j with
     |zero=>simp[kvs] at hq hq';subst hq;subst hq';exact .int _ _
     |succ j=>exact i2 j q q' (by simpa[kvs] using hq) (by simpa using hq')
    cases j with
    |zero=>simp[kvs] at hq hq';subst hq;subst hq';exact(ztx h1).1
    |succ j=>exact i3 j q q' (by simpa[kvs] using hq) (by simpa using hq')
   cases h
  cases h
def ins (k:Int):List Int→List Int
 |[]=>[k]
 |a::r=>bif decide (k≤a) then k::a::r else a::ins k r
def zo5:List Int→List Int
 |[]=>[]
 |a::r=>ins a (zo5 r)
theorem zpb (k:Int):∀l,(ins k l).Perm (k::l)
 |[]=>.refl _
 |a::r=>by
  simp only[ins]
  cases decide (k≤a) with
  |true=>exact .refl _
  |false=>exact((zpb k r).cons a).trans (.swap k a r)
theorem zgu:∀l,(zo5 l).Perm l
 |[]=>.refl _
 |a::r=>(zpb a _).trans ((zgu r).cons a)
theorem zg6 (k:Int):∀l,l.Pairwise (·≤·)→(ins k l).Pairwise (·≤·)
 |[],_=>by simp[ins]
 |a::r,h=>by
  simp only[ins]
  rw[List.pairwise_cons] at h
  by_cases hk:k≤a
  ·simp only[hk,decide_true,xfp,List.pairwise_cons]
   exact⟨fun b hb=>by rcases List.mem_cons.1 hb with rfl|hb;exact hk;exact Int.le_trans hk (h.1 b hb),h⟩
  simp only[hk,decide_false,xfq,List.pairwise_cons]
  exact⟨fun b hb=>by rcases List.mem_cons.1 ((zpb k r).mem_iff.1 hb) with rfl|hb;omega;exact h.1 b hb,zg6 k r h.2⟩
theorem zga:∀l,(zo5 l).Pairwise (·≤·)
 |[]=>.nil
 |a::r=>zg6 a _ (zga r)
theorem zgl:∀ {l m:List Int},l.Perm m→l.Pairwise (·≤·)→m.Pairwise (·≤·)→l=m
 |[],m,hp,_,_=>(hp.symm.eq_nil).symm
 |a::r,[],hp,_,_=>hp.eq_nil
 |a::r,b::s,hp,hl,hm=>by
  rw[List.pairwise_cons] at hl hm
  have h1:a≤b:=by rcases List.mem_cons.1 (hp.mem_iff.2 List.mem_cons_self) with h|h;omega;exact hl.1 b h
  have h2:b≤a:=by rcases List.mem_cons.1 (hp.mem_iff.1 List.mem_cons_self) with h|h;omega;exact hm.1 a h
  have:a=b:=by omega
  subst this
  rw[zgl (List.perm_cons a |>.1 hp) hl.2 hm.2]
theorem zpm (l:List Int):l.mergeSort (fun x y=>decide (x≤y))=zo5 l:=by
 refine zgl ((List.mergeSort_perm l _).trans (zgu l).symm) ?_ (zga l)
 have:=List.pairwise_mergeSort (le:=fun x y:Int=>decide (x≤y)) (fun a b c h1 h2=>by simp only[decide_eq_true_eq] at *;omega) (fun a b=>by simp only[Bool.or_eq_true,decide_eq_true_eq];omega) l
 exact this.imp fun h=>by simpa using h
def srtV (args:List Value)(h:zaa):Option (Value×zaa):=
 match args with
 |[.map (some m)]=>match h.get m with
  |some (.map es)=>match zm2 es with
   | some (p :: r) => bif zlb ((p :: r).map (·.1)) && Nat.blt (p :: r).length 4294967296 then
    some (.slice (some ⟨h.next,0,none⟩) (p::r).length inex,h.alloc (.cells 0 ((zo5 ((p::r).map (·.1))).map (.int .i64)))) else none
   |_=>none
  |_=>none
 |_=>none
theorem z4t {f:FuncId}(hV:∀l:List (Int×PV),(l.map (·.1)).Nodup→l.length<4294967296→zat P f [.vmap (kvs l)] fun r=>r=.vec (((l.map (·.1)).mergeSort fun x y=>decide (x≤y)).map (.int .i64)))
  {args:List Value} {h h':zaa} {r:Value} (hlo:lo≤h.next) (he:srtV args h=some (r,h')):zc0 P lo f args h fun r2 h2=>r2=r∧h2=h':=by
 unfold srtV at he
 split at he
 ·rename_i m
  split at he
  ·rename_i es hg
   split at he
   ·rename_i p l hr
    cases hb:(zlb ((p::l).map (·.1))&&Nat.blt (p::l).length 4294967296) with
    |false=>rw[hb] at he;cases he
    |true=>
     rw[hb,xfp] at he
     simp only[xfm,xfn] at he
     rw[xfr,zk1,Nat.blt_eq] at hb
     obtain⟨e1,e2⟩:=he
     subst e1;subst e2
     let g:Fz:=fun o=>if o=m then some (.map es) else none
     obtain⟨q1,q2,q3⟩:=zt5 (g:=g) (m:=m) hr
     have hfr:FR g (.vmap (kvs (p::l))) (.map (some m)):=.vmap _ m es (by simp[g]) (by simp[kvs,q1]) q2 q3
     have hsub:∀o x,g o=some x→h.get o=some x:=fun o x hx=>by
      by_cases ho:o=m
      ·subst ho;simp[g] at hx;subst hx;exact hg
      simp[g,ho] at hx
     have hlen:(zo5 ((p::l).map (·.1))).length=(p::l).length:=by rw[(zgu _).length_eq,List.length_map]
     have:=zc0.z0w (P:=P) (lo:=lo) (h:=h) (f:=f) (args:=[.map (some m)]) (zs:=zo5 ((p::l).map (·.1))) hlo (by rw[hlen];simp) (by
      refine(hV (p::l) hb.1 hb.2 h.next g (fun _=>(0,0,0)) h [.map (some m)] (.cons (.fr _ _ hfr) .nil) (.none hsub (Nat.le_refl _) _)).mono fun r h' ⟨g',σ',v,vh',k1,k2,k3,_,_,_,k7,k8,k9⟩=>?_
      subst k9
      rw[zpm] at k1 k8
      have hf:=k1.isF k8
      have hne:0<(zo5 ((p::l).map (·.1))).length:=by rw[hlen];simp
      generalize zo5 ((p::l).map (·.1))=zs at hf hne ⊢
      clear k1
      cases zs with
      |nil=>simp at hne
      |cons z zs=>
      cases hf with
      |vec _ o off k s sz cs' hk hku hgo h0 hsz hl rr=>
       have h1:sz=1:=by have:=hsz 0 (.int .i64 z) (by simp);simpa[PV.cells] using this.symm
       subst h1
       refine⟨o,off,k,s,cs',by simp,?_,by simp only[unk] at hku ⊢;omega,k2.fz _ _ hgo,fun i x hx=>?_⟩
       ·rcases Nat.lt_or_ge o h.next with hlt|hge
        ·rcases k7 o _ hgo hlt with hh|⟨i,y,hh,_⟩
         ·by_cases ho:o=m
          ·simp[g,ho] at hh
          simp[g,ho] at hh
         cases hh
        exact hge
       have hil:i<(z::zs).length:=(List.getElem?_eq_some_iff.1 hx).1
       have hcl:off+i<cs'.length:=by simp only[List.length_map,Nat.mul_one] at hl;omega
       have:=rr i (.int .i64 x) 0 (.int .i64 x) cs'[off+i] (by rw[List.getElem?_map,hx];rfl) rfl (by simp[hcl])
       rw[List.getElem?_eq_getElem hcl]
       cases hq:cs'[off+i]<;>rw[hq] at this<;>cases this
       rfl)
     rw[hlen] at this
     exact this
   cases he
  cases he
 cases he
end
end Go.Am
end
/-
 The abstract machine: a call that fills one map, whatever number it has.
-/
section
namespace Go.Am
section
variable {P:Program} {lo:Nat}
theorem zc0.z3w {h:zaa}{f:FuncId}{o m:Nat}{es0 es es1:List (Value×Value)}(hlo:lo≤o)(ho:h.get o=some (.map es0))(hm:h.get m=some (.map es))(hne:m≠o)
  (hself:∀p∈es1,zen p.2=true)
  (hc:zc0 P h.next f [.map (some h.next),.map (some m)] ((h.put o none).alloc (.map es0)) fun r h'=>r=.tuple #[]∧h'.get h.next=some (.map es1)) :
  zc0 P lo f [.map (some o),.map (some m)] h fun r h'=>r=.tuple #[]∧h'=h.put o (some (.map es1)):=by
 intro F hF hro n μ w cargs ha r
 obtain⟨v1,r1,hcs,hv1,hr1⟩:=ha.zax
 obtain⟨v2,r2,hcs2,hv2,hr2⟩:=hr1.zax
 have:=hr2.zcd;subst this
 have hol:=zaa.zai ho
 have hml:=zaa.zai hm
 cases hv1 with
 |map _ b C hmo=>
 have hoR:RelO μ w b 0 C (.map es0):=ze0 r ho hmo
 have hle:=r.zjq (b,0,C)
 have split:∀p y,((h.put o none).alloc (.map es0)).get p=some y→(p=h.next∧y=.map es0)∨(p≠h.next∧p≠o∧h.get p=some y):=fun p y hy=>by
  rw[zaa.zay] at hy
  by_cases hp:p=h.next
  ·subst hp;simp at hy;exact .inl ⟨rfl,hy.symm⟩
  simp[hp] at hy
  rw[zaa.zaw _ _ _ _ hol] at hy
  by_cases hpo:p=o
  ·simp[hpo] at hy
  simp[hpo] at hy;exact .inr ⟨hp,hpo,hy⟩
 have r2:Rel (μ.put h.next (b,0,C)) h.next ((h.put o none).alloc (.map es0)) w:=by
  refine⟨fun p y hy=>?_,fun p p' y y' b' a' C' a2 C2 hlp hy hy' k1 k2=>?_,fun p y hy=>?_,fun p y b' a' C' hlp hy k1 off=>?_,by simp⟩
  ·rcases split p y hy with⟨rfl,rfl⟩|⟨hp,_,hy⟩
   ·exact⟨b,0,C,Mu.zaf _ _ _,hoR.mono hle⟩
   obtain⟨b',a',C',k1,k2⟩:=r.objs p y hy
   exact⟨b',a',C',by rw[Mu.zaj _ hp];exact k1,k2.mono hle⟩
  ·rcases split p y hy with⟨rfl,rfl⟩|⟨hp,_,hy⟩
   ·rcases split p' y' hy' with⟨rfl,rfl⟩|⟨hp',hpo',hy'⟩
    ·rfl
    rw[Mu.zaf] at k1;injection k1 with k1;injection k1 with k1 _;subst k1
    rw[Mu.zaj _ hp'] at k2
    exact absurd (r.inj o p' _ y' b 0 C a2 C2 hlo ho hy' hmo k2).symm hpo'
   have:=zaa.zai hy;omega
  ·by_cases hp:p=h.next
   ·subst hp;simp
   rw[Mu.zaj _ hp] at hy
   have:=r.dom p y hy
   simp;omega
  rcases split p y hy with⟨rfl,rfl⟩|⟨hp,_,hy⟩
  ·rw[Mu.zaf] at k1;injection k1 with k1;injection k1 with k1 k3;subst k1
   exact r.thaw o _ b 0 C hlo ho hmo off
  have:=zaa.zai hy;omega
 have ha2:zas (μ.put h.next (b,0,C)) [.map (some h.next),.map (some m)] cargs.toList:=by
  rw[hcs,hcs2]
  exact .cons (.map h.next b C (Mu.zaf _ _ _)) (.cons (hv2.mono hle) (.nil _))
 refine(hc F hF hro n _ w cargs ha2 r2).mono fun e w' ⟨r',v,h2,μ2,h1,k1,k2,k3,k4,k5⟩=>?_
 subst k4
 have hmu:μ2 h.next=some (b,0,C):=by rw[k3.old h.next (by simp),Mu.zaf]
 have hob:RelO μ2 w' b 0 C (.map es1):=ze0 k2 k5 hmu
 have kept:∀p y b' a' C',h.get p=some y→p≠o→μ p=some (b',a',C')→w'.heap[b']?=w.heap[b']?:=fun p y b' a' C' hy hpo hmp=>by
  refine k3.kept b' (ze0 r hy hmp).zcq ?_
  rintro⟨q,z,a3,C3,g1,g2,g3⟩
  rcases split q z g2 with⟨rfl,rfl⟩|⟨hq,_,hz⟩
  ·rw[Mu.zaf] at g3;injection g3 with g3;injection g3 with g3 _;subst g3
   exact hpo (r.inj o p _ y b 0 C a' C' hlo ho hy hmo hmp).symm
  have:=zaa.zai hz;omega
 have old:∀p y,(h.put o (some (.map es1))).get p=some y→(p=o∧y=.map es1)∨(p≠o∧h.get p=some y):=fun p y hy=>by
  rw[zaa.zaw _ _ _ _ hol] at hy
  by_cases hpo:p=o
  ·subst hpo;simp at hy;exact .inl ⟨rfl,hy.symm⟩
  simp[hpo] at hy;exact .inr ⟨hpo,hy⟩
 have was:∀p y,(h.put o (some (.map es1))).get p=some y→∃z,h.get p=some z:=fun p y hy=>by
  rcases old p y hy with⟨rfl,_⟩|⟨_,hy⟩
  ·exact⟨_,ho⟩
  exact⟨_,hy⟩
 refine⟨.tuple #[],v,h.put o (some (.map es1)),μ,h1,?_,⟨fun p y hy=>?_,fun p p' y y' b' a' C' a2 C2 hlp hy hy' g1 g2=>?_,r.dom,fun p y b' a' C' hlp hy g1 off=>?_,r.lole⟩,⟨Mu.le_refl _,k3.size,Nat.le_refl _,fun b' hb' hn=>?_,fun b' hb'=>?_,fun p hp=>?_,fun _ _=>rfl,fun p hp hn=>?_,k3.calm⟩,rfl,rfl⟩
 ·cases k1 with
  |tuple _ cs' hs _=>
   have:cs'=#[]:=Array.eq_empty_of_size_eq_zero (by rw[← hs];rfl)
   subst this
   exact .tuple #[] #[] rfl (fun i h=>by simp at h)
 ·rcases old p y hy with⟨rfl,rfl⟩|⟨hpo,hy⟩
  ·refine⟨b,0,C,hmo,rfl,?_⟩
   obtain⟨_,entries,clock,q1,l,q2,q3,q4,q5,q6⟩:=hob
   refine⟨entries,clock,q1,l,q2,q3,q4,fun i p e hp he=>?_,q6⟩
   obtain⟨s1,s2⟩:=q5 i p e hp he
   have hs:=hself p (q2.mem_iff.1 (List.mem_of_getElem? hp))
   refine⟨s1,?_⟩
   rw[zp2 hs s2];exact .zfv hs
  obtain⟨b',a',C',g1,g2⟩:=r.objs p y hy
  exact⟨b',a',C',g1,g2.kept (kept p y b' a' C' hy hpo g1)⟩
 ·obtain⟨z,hz⟩:=was p y hy
  obtain⟨z',hz'⟩:=was p' y' hy'
  exact r.inj p p' z z' b' a' C' a2 C2 hlp hz hz' g1 g2
 ·rcases old p y hy with⟨rfl,rfl⟩|⟨hpo,hy⟩
  ·rw[hmo] at g1;injection g1 with g1;injection g1 with g1 _;subst g1
   exact k2.thaw h.next _ b 0 C (Nat.le_refl _) k5 hmu off
  rw[zbn (kept p y b' a' C' hy hpo g1)]
  exact r.thaw p y b' a' C' hlp hy g1 off
 ·refine k3.kept b' hb' ?_
  rintro⟨q,z,a3,C3,g1,g2,g3⟩
  rcases split q z g2 with⟨rfl,rfl⟩|⟨hq,_,hz⟩
  ·rw[Mu.zaf] at g3;injection g3 with g3;injection g3 with g3 _;subst g3
   exact hn ⟨o,_,0,C,hlo,ho,hmo⟩
  have:=zaa.zai hz;omega
 ·rintro⟨q,z,a3,C3,g1,g2,g3⟩
  obtain⟨z',hz'⟩:=was q z g2
  exact⟨q,z',a3,C3,g1,hz',g3⟩
 ·rw[zaa.zaw _ _ _ _ hol,if_neg (by omega)]
 rw[zaa.zaw _ _ _ _ hol,if_neg (by rintro rfl;rw[ho] at hn;cases hn)];exact hn
def cpyV (lo:Nat)(args:List Value)(h:zaa):Option (Value×zaa):=
 match args with
 |[.map (some o),.map (some m)]=>bif Nat.beq m o||!Nat.ble lo o then none else match h.get o,h.get m with
  |some (.map []),some (.map es)=>match zm2 es with
   |some l=>bif zlb (l.map (·.1)) then some (.tuple #[],h.put o (some (.map es))) else none
   |none=>none
  |_,_=>none
 |_=>none
theorem zkh:∀ {es:List (Value×Value)} {l:List (Int×PV)},zm2 es=some l→es.map (·.1)=l.map (fun p=>Value.int .i64 p.1)∧∀p∈es,zen p.2=true
 |[],l,h=>by simp only[zm2,xfm] at h;subst h;exact⟨rfl,fun p hp=>by cases hp⟩
 |(a,v)::r,l,h=>by
  unfold zm2 at h
  split at h
  ·rename_i heq;cases heq
  ·rename_i k v' r' heq
   cases heq
   split at h
   ·rename_i p l1 h1 h2
    injection h with h;subst h
    obtain⟨i1,i2⟩:=zkh h2
    refine⟨by simp[i1],fun q hq=>?_⟩
    rcases List.mem_cons.1 hq with rfl|hq
    ·have h3:=(ztx (g:=fun _=>none) h1).2
     revert h3
     show zdg v=true→zen v=true
     cases v<;>first|(intro h;exact h)|(intro h;cases h)
    exact i2 q hq
   cases h
  cases h
theorem z4q {f:FuncId} (hV:∀(h:zaa) (n m:Nat) (es:List (Value×Value)) (l:List (Int×PV)),m<n→n<h.next→h.get n=some (.map [])→h.get m=some (.map es)→zm2 es=some l→(l.map (·.1)).Nodup→
   zc0 P n f [.map (some n),.map (some m)] h fun r h'=>r=.tuple #[]∧∃vis,vis.Perm es∧h'.get n=some (.map vis))
  {args:List Value} {h h':zaa} {r:Value} (he:cpyV lo args h=some (r,h')):zc0 P lo f args h fun r2 h2=>r2=r∧h2=h':=by
 unfold cpyV at he
 split at he
 ·rename_i o m
  cases hb:(Nat.beq m o||!Nat.ble lo o) with
  |true=>rw[hb] at he;cases he
  |false=>
   rw[hb,xfq] at he
   rw[Bool.or_eq_false_iff] at hb
   have hlo:lo≤o:=by have:=hb.2;rw[Bool.not_eq_false'] at this;exact xfo this
   have hne:m≠o:=fun hh=>by have:=hb.1;rw[hh,Nat.beq_refl] at this;cases this
   split at he
   ·rename_i es ho hm
    split at he
    ·rename_i l hr
     cases hnd:zlb (l.map (·.1)) with
     |false=>rw[hnd] at he;cases he
     |true=>
      rw[hnd,xfp] at he
      simp only[xfm,xfn] at he
      obtain⟨e1,e2⟩:=he
      subst e1;subst e2
      have hml:=zaa.zai hm
      have hol:=zaa.zai ho
      refine zc0.z3w hlo ho hm hne (zkh hr).2 ?_
      have h1:((h.put o none).alloc (.map [])).get h.next=some (.map []):=by rw[zaa.zay];simp
      have h2:((h.put o none).alloc (.map [])).get m=some (.map es):=by
       rw[zaa.zay,if_neg (by simp;omega),zaa.zaw _ _ _ _ hol,if_neg hne];exact hm
      refine(hV _ h.next m es l hml (by simp) h1 h2 hr (zk1.1 hnd)).zty fun r h' ⟨k1,vis,k2,k3⟩=>?_
      have hl:=zaa.zai k3
      exact⟨_,zkd.perm k3 k2 (Nat.le_refl _),k1,by rw[zaa.zaw _ _ _ _ hl];simp⟩
    cases he
   cases he
 cases he
end
end Go.Am
end
/-
 What is visited when a map is ranged over.
-/
section
namespace Go.Am
theorem zui (l:List (Int×PV)):(kvs l).map (·.1)=(l.map (·.1)).map (PV.int .i64):=by simp[kvs]
def kk (l:List (Int×PV))(vis:List Nat):List Int:=vis.map fun k=>(l[k]?.map (·.1)).getD 0
theorem zrn (l:List (Int×PV))(vis:List Nat):(kk l vis).length=vis.length:=by simp[kk]
theorem z5k (l:List (Int×PV))(vis:List Nat)(k:Nat)(p:Int×PV)(h:l[k]?=some p):kk l (vis++[k])=kk l vis++[p.1]:=by simp[kk,h]
theorem z2k (l:List (Int×PV))(vis:List Nat)(hn:vis.Nodup)(h:∀k,k∈vis↔k<l.length):(kk l vis).Perm (l.map (·.1)):=by
 have h1:vis.Perm (List.range l.length):=(List.perm_ext_iff_of_nodup hn List.nodup_range).2 fun a=>by rw[h,List.mem_range]
 have h2:=h1.map fun k=>(l[k]?.map (·.1)).getD 0
 refine h2.trans (.of_eq ?_)
 apply List.ext_getElem
 ·simp
 intro i h3 h4
 simp at h3
 simp[h3]
theorem zy8 {a b:List Int}(h:a.Perm b):a.mergeSort (fun x y=>decide (x≤y))=b.mergeSort (fun x y=>decide (x≤y)):=by
 rw[zpm,zpm]
 exact zgl ((zgu a).trans (h.trans (zgu b).symm)) (zga a) (zga b)
theorem zqc:∀(n:Nat) (l:List Nat),l.Nodup→(∀x∈l,x<n)→l.length≤n
 |0,[],_,_=>Nat.le_refl _
 |0,x::r,_,h=>absurd (h x List.mem_cons_self) (Nat.not_lt_zero x)
 |n+1,l,hn,h=>by
  by_cases hm:n∈l
  ·have h1:=zqc n (l.erase n) (hn.erase n) fun x hx=>by
    have:=(hn.mem_erase_iff).1 hx
    have:=h x this.2
    omega
   rw[List.length_erase_of_mem hm] at h1
   omega
  have:=zqc n l hn fun x hx=>by
   have:=h x hx
   have:x≠n:=fun he=>hm (he▸hx)
   omega
  omega
theorem z9q {n:Nat}{vis:List Nat}(hn:vis.Nodup)(h:∀x∈vis,x<n){k:Nat}(hk:k<n)(hv:k∉vis):vis.length<n:=by
 have:=zqc n (k::vis) (List.nodup_cons.2 ⟨hv,hn⟩) fun x hx=>by
  rcases List.mem_cons.1 hx with rfl|hx
  ·exact hk
  exact h x hx
 rw[List.length_cons] at this
 omega
end Go.Am
end
