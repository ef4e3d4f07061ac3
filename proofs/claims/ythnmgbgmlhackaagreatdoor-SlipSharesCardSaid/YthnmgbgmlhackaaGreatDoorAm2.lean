/-
 What is used in the proof of a statement (part Am2); no condition.
-/
import Derived.LoopNIn
import Derived.DefersIn
import Derived.RangeFuncLeaves
import Derived.RangeFuncRecord
import Derived.Scope
import Derived.RecoverIn
import Derived.Test.YthnmgbgmlhackaaGreatDoorAm1
set_option linter.all false
set_option maxHeartbeats 40000000
set_option maxRecDepth 100000
section
namespace Go.Am
variable [bE]
structure gk (F:Fence):Prop where
  fn:∀f,F.fn f
  depth:F.depth=none
  alive:F.alive=false
theorem gk.one {F:Fence}(h:gk F)(n:Nat):F.depth.isSome=true→1≤n:=fun hd=>by rw[h.depth] at hd;cases hd
theorem OO:gk Fence.wide:=⟨fun _=>trivial,rfl,rfl⟩
theorem gk.inRound {F:Fence}(h:gk F)(l:Nat):gk (F.inRound l):=⟨h.fn,h.depth,h.alive⟩
theorem gk.eq {F:Fence}(h:gk F)(hr:F.round=none):F=Fence.wide:=by
 obtain⟨fn,depth,alive,round⟩:=F
 obtain⟨h1,h2,h3⟩:=h
 simp only at h1 h2 h3 hr
 subst h2;subst h3;subst hr
 have:fn=fun _=>True:=funext fun f=>propext ⟨fun _=>trivial,fun _=>h1 f⟩
 subst this
 rfl
abbrev kD:=Exit→aC→ae→Prop
def fu (lo:Nat)(U:Mu)(h:ae)(w:World)(ds:List Deferred)(Q:kD)(e:Exit)(a':Act)(w':World):Prop:=
 ∃ba h' aN,dd aN ba a'.tmps∧Rel aN lo h' w'∧Frame lo U h w aN h' w'∧a'.defers=ds∧Q e ba h'
theorem fu.trans {lo:Nat}{U mK:Mu}{h h1:ae}{w w1:World}{ds:List Deferred}{Q:kD}{e:Exit}{a':Act}{w':World}(f:Frame lo U h w mK h1 w1)(l:fu lo mK h1 w1 ds Q e a' w'):fu lo U h w ds Q e a' w':=
 let ⟨ba,h',aN,h2,h3,h4,h5,h6⟩:=l
 ⟨ba,h',aN,h2,h3,f.trans h4,h5,h6⟩
theorem fu.mono {lo:Nat}{U:Mu}{h:ae}{w:World}{ds:List Deferred}{Q Q':kD}{e e':Exit}{a':Act}{w':World}(l:fu lo U h w ds Q e a' w')(hq:∀ts h,Q e ts h→Q' e' ts h):fu lo U h w ds Q' e' a' w':=
 let ⟨ba,h',aN,h2,h3,h4,h5,h6⟩:=l
 ⟨ba,h',aN,h2,h3,h4,h5,hq _ _ h6⟩
def uU (U:Mu)(h:ae)(b:Nat):Prop:=∀o x a C,h.get o=some x→U o=some (b,a,C)→False
theorem uU.own {U:Mu}{lo:Nat}{h:ae}{b:Nat}(u:uU U h b):¬xV U lo h b:=fun⟨o,x,a,C,_,h2,h3⟩=>u o x a C h2 h3
theorem uU.frame {lo:Nat}{U aN:Mu}{h h':ae}{w w':World}{b:Nat}(u:uU U h b)(hb:b<w.heap.size)(f:Frame lo U h w aN h' w'):uU aN h' b:=by
 intro o x a C hx hm
 by_cases hl:lo≤o
 ·exact u.own (f.own b hb ⟨o,x,a,C,hl,hx,hm⟩)
 rw[f.low o (by omega)] at hx
 rw[f.fR o (ae.fC hx)] at hm
 exact u o x a C hx hm
def Be (F:Fence)(U:Mu)(h:ae)(w:World):Prop:=∀l,F.round=some l→∃r:Loop,w.heap[l]?=some (.loop r)∧uU U h l
theorem Bf {w:World}{b:Nat}{o:Obj}(h:w.heap[b]?=some o):b<w.heap.size:=by
 rcases Nat.lt_or_ge b w.heap.size with h'|h'
 ·exact h'
 rw[Array.getElem?_eq_none h'] at h;cases h
theorem Be.frame {F:Fence}{lo:Nat}{U aN:Mu}{h h':ae}{w w':World}(r:Be F U h w)(f:Frame lo U h w aN h' w'):Be F aN h' w':=fun l hl=>by
 obtain⟨rec,h1,h2⟩:=r l hl
 have hb:=Bf h1
 exact⟨rec,by rw[f.kept l hb h2.own];exact h1,h2.frame hb f⟩
theorem Be.none {F:Fence}{U:Mu}{h:ae}{w:World}(hF:F.round=none):Be F U h w:=fun l hl=>by rw[hF] at hl;cases hl
def mQ (B:Nat)(U:Mu)(h:ae)(w:World):List Deferred→Prop
 |[]=>True
 |d::ds=>(∃r,d={ target:=.collected r,args:=#[] }∧B≤r∧w.heap[r]?=some (.deferred (some []))∧uU U h r∧∀d'∈ds,d'≠d)∧mQ B U h w ds
theorem mQ.frame {B lo:Nat}{U aN:Mu}{h h':ae}{w w':World}(f:Frame lo U h w aN h' w'):∀ {ds:List Deferred},mQ B U h w ds→mQ B aN h' w' ds
 |[],_=>trivial
 |_::_,⟨⟨r,h1,h2,h3,h4,h5⟩,hr⟩=>
  have hb:=Bf h3
  ⟨⟨r,h1,h2,by rw[f.kept r hb h4.own];exact h3,h4.frame hb f,h5⟩,hr.frame f⟩
theorem mQ.lt {B:Nat}{U:Mu}{h:ae}{w:World}:∀ {ds:List Deferred},mQ B U h w ds→∀d∈ds,∃r,d={ target:=.collected r,args:=#[] }∧B≤r∧r<w.heap.size
 |[],_,d,hd=>by cases hd
 |_::_,⟨⟨r,h1,h2,h3,_⟩,hr⟩,d,hd=>by
  rcases List.mem_cons.1 hd with rfl|hd
  ·exact⟨r,h1,h2,Bf h3⟩
  exact hr.lt d hd
theorem mQ.append {B B':Nat}{U:Mu}{h:ae}{w:World}(hB:B≤B'){ds:List Deferred}(h2:mQ B U h w ds)(aU:∀d∈ds,∃r,d={ target:=.collected r,args:=#[] }∧r<B') :
  ∀ {OP:List Deferred},mQ B' U h w OP→mQ B U h w (OP++ds)
 |[],_=>h2
 | _ :: _, ⟨⟨r, h3, h4, h5, h6, h7⟩, hr⟩ => ⟨⟨r, h3, by omega, h5, h6, fun d' tQ => by
   rcases List.mem_append.1 tQ with h|h
   ·exact h7 d' h
   obtain⟨r',h8,h9⟩:=aU d' h
   rintro rfl
   rw[h3] at h8
   injection h8 with h8 _;injection h8 with h8
   omega⟩,mQ.append hB h2 aU hr⟩
def LiftM (lo:Nat)(U:Mu)(h:ae)(w:World)(ds:List Deferred)(Q:kD)(e:Exit)(a':Act)(w':World):Prop:=
 ∃ba h' aN ms,dd aN ba a'.tmps∧Rel aN lo h' w'∧Frame lo U h w aN h' w'∧a'.defers=ms++ds∧mQ w.heap.size aN h' w' ms∧Q e ba h'
theorem fu.Dd {lo:Nat}{U:Mu}{h:ae}{w:World}{ds:List Deferred}{Q:kD}{e:Exit}{a':Act}{w':World}(l:fu lo U h w ds Q e a' w'):LiftM lo U h w ds Q e a' w':=
 let ⟨ba,h',aN,h2,h3,h4,h5,h6⟩:=l
 ⟨ba,h',aN,[],h2,h3,h4,h5,trivial,h6⟩
theorem LiftM.trans {lo:Nat}{U mK:Mu}{h h1:ae}{w w1:World}{ds ms:List Deferred}{Q:kD}{e:Exit}{a':Act}{w':World}(f:Frame lo U h w mK h1 w1)(hm:mQ w.heap.size mK h1 w1 ms)
  (l:LiftM lo mK h1 w1 (ms++ds) Q e a' w'):LiftM lo U h w ds Q e a' w':=by
 obtain⟨ba,h',aN,JV,h2,h3,h4,h5,h6,h7⟩:=l
 refine⟨ba,h',aN,JV++ms,h2,h3,f.trans h4,by rw[h5,List.append_assoc],mQ.append f.size (hm.frame h4) (fun d hd=>?_) h6,h7⟩
 obtain⟨r,h8,_,h9⟩:=hm.lt d hd
 exact⟨r,h8,h9⟩
theorem LiftM.mono {lo:Nat}{U:Mu}{h:ae}{w:World}{ds:List Deferred}{Q Q':kD}{e e':Exit}{a':Act}{w':World}(l:LiftM lo U h w ds Q e a' w')(hq:∀ts h,Q e ts h→Q' e' ts h):LiftM lo U h w ds Q' e' a' w':=
 let ⟨ba,h',aN,ms,h2,h3,h4,h5,h6,h7⟩:=l
 ⟨ba,h',aN,ms,h2,h3,h4,h5,h6,hq _ _ h7⟩
def AW (P:Program)(lo:Nat)(c:Code)(Q:kD)(ts:aC)(h:ae):Prop:=
 ∀F,gk F→∀n U a w,dd U ts a.tmps→Rel U lo h w→Be F U h w→c.wpIn F n P (LiftM lo U h w a.defers Q) a w
def mr (P:Program)(lo:Nat)(f:FuncId)(args:List Value)(h:ae)(R:Value→ae→Prop):Prop:=
 ∀F,gk F→F.round=none→∀n U w a6,bn U args a6.toList→Rel U lo h w→
  CallsIn F n P f a6 w fun e w'=>∃r v h' aN,e=.returned v∧aj aN r v∧Rel aN lo h' w'∧Frame lo U h w aN h' w'∧R r h'
def oM (P:Program)(lo:Nat)(o:Oper)(ts:aC)(h:ae)(next:aC→ae→Prop):Prop:=
 ∀F,gk F→∀n U a w Q,dd U ts a.tmps→Rel U lo h w→o.wpIn F n P a w (fu lo U h w a.defers (fun _=>next) .normal) Q
section
variable {P:Program} {lo:Nat} {Q Q':kD} {ts:aC} {h:ae}
theorem AW.mono {c:Code}(hc:AW P lo c Q ts h)(hq:∀e ts h,Q e ts h→Q' e ts h):AW P lo c Q' ts h:=
 fun F hF n U a w ht r ro=>wpIn_mono (hc F hF n U a w ht r ro) fun _ _ _ hl=>hl.mono (hq _)
theorem mr.mono {f:FuncId}{args:List Value}{R R':Value→ae→Prop}(hc:mr P lo f args h R)(hr:∀r h,R r h→R' r h):mr P lo f args h R':=
 fun F hF n4 n U w a6 ha r=>(hc F hF n4 n U w a6 ha r).mono fun _ _ ⟨r,v,h',aN,h1,h2,h3,h4,h5⟩=>⟨r,v,h',aN,h1,h2,h3,h4,hr _ _ h5⟩
theorem oM.mono {o:Oper}{next next':aC→ae→Prop}(hc:oM P lo o ts h next)(hn:∀ts h,next ts h→next' ts h):oM P lo o ts h next':=
 fun F hF n U a w Q ht r=>Oper.wpIn_mono (fun _ _ hl=>hl.mono hn) (hc F hF n U a w Q ht r)
theorem fu.refl {U:Mu}{a:Act}{w:World}{e:Exit}(ht:dd U ts a.tmps)(r:Rel U lo h w)(hq:Q e ts h):fu lo U h w a.defers Q e a w:=
 ⟨ts,h,U,ht,r,Frame.refl _ _ _ _,rfl,hq⟩
theorem AW.skip (hq:Q .normal ts h):AW P lo .skip Q ts h:=fun _ _ _ _ _ _ ht r _=>wpIn_skip (fu.refl ht r hq).Dd
theorem AW.label {l:Nat}(hq:Q .normal ts h):AW P lo (.label l) Q ts h:=fun _ _ _ _ _ _ ht r _=>wpIn_label (fu.refl ht r hq).Dd
theorem AW.exit {id:Nat}(hq:Q (.exit id) ts h):AW P lo (.exit id) Q ts h:=fun _ _ _ _ _ _ ht r _=>wpIn_exit (fu.refl ht r hq).Dd
theorem AW.ret (hq:Q .ret ts h):AW P lo .ret Q ts h:=fun _ _ _ _ _ _ ht r _=>wpIn_ret (fu.refl ht r hq).Dd
def HD (next:aC→ae→Prop)(Q:kD):kD
 |.normal=>next
 |e=>Q e
theorem AW.seq {x y:Code}(hx:AW P lo x (HD (AW P lo y Q) Q) ts h):AW P lo (.seq x y) Q ts h:=by
 intro F hF n U a w ht r ro
 refine wpIn_seq (wpIn_mono (hx F hF n U a w ht r ro) fun e a' w' hl=>?_)
 obtain⟨ba,h',aN,ms,h2,h3,h4,h5,h6,h7⟩:=hl
 cases e with
 |normal=>
  have:=h7 F hF n aN a' w' h2 h3 (ro.frame h4)
  rw[h5] at this
  exact wpIn_mono this fun _ _ _ hl=>hl.trans h4 h6
 |exit id=>exact⟨ba,h',aN,ms,h2,h3,h4,h5,h6,h7⟩
 |goto l=>exact⟨ba,h',aN,ms,h2,h3,h4,h5,h6,h7⟩
 |ret=>exact⟨ba,h',aN,ms,h2,h3,h4,h5,h6,h7⟩
 |panic ch=>exact⟨ba,h',aN,ms,h2,h3,h4,h5,h6,h7⟩
 |outgrown=>exact⟨ba,h',aN,ms,h2,h3,h4,h5,h6,h7⟩
theorem AW.cond {c:Operand}{x y:Code}{b:Bool}(hc:cI ts c=some (.bool b))(hb:AW P lo (if b then x else y) Q ts h):AW P lo (.cond c x y) Q ts h:=by
 intro F hF n U a w ht r ro
 have hr:=fq ht hc
 generalize he:a.eval c=v at hr
 cases hr
 exact wpIn_cond he (hb F hF n U a w ht r ro)
def HE (id:Nat)(Q:kD):kD
 |.exit ym=>if ym=id then Q .normal else Q (.exit ym)
 |e=>Q e
theorem AW.block {id:Nat}{c:Code}(hc:AW P lo c (HE id Q) ts h):AW P lo (.block id c) Q ts h:=by
 intro F hF n U a w ht r ro
 refine wpIn_block (wpIn_mono (hc F hF n U a w ht r ro) fun e a' w' hl=>?_)
 obtain⟨ba,h',aN,ms,h2,h3,h4,h5,h6,h7⟩:=hl
 cases e with
 |normal=>exact⟨ba,h',aN,ms,h2,h3,h4,h5,h6,h7⟩
 |exit ym=>
  simp only[Exit.inBlock]
  by_cases hi:ym=id
  ·simp only[HE,hi,if_true] at h7 ⊢;exact⟨ba,h',aN,ms,h2,h3,h4,h5,h6,h7⟩
  simp only[HE,hi,if_false] at h7 ⊢;exact⟨ba,h',aN,ms,h2,h3,h4,h5,h6,h7⟩
 |goto l=>exact⟨ba,h',aN,ms,h2,h3,h4,h5,h6,h7⟩
 |ret=>exact⟨ba,h',aN,ms,h2,h3,h4,h5,h6,h7⟩
 |panic ch=>exact⟨ba,h',aN,ms,h2,h3,h4,h5,h6,h7⟩
 |outgrown=>exact⟨ba,h',aN,ms,h2,h3,h4,h5,h6,h7⟩
def yn (P:Program)(lo:Nat)(c:Code)(Q:kD):Nat→aC→ae→Prop
 |0,_,_=>False
 |m+1,ts,h=>AW P lo c (HD (yn P lo c Q m) Q) ts h
theorem yn.mono {c:Code}:∀ {m m':Nat} {ts:aC} {h:ae},m≤m'→yn P lo c Q m ts h→yn P lo c Q m' ts h
 |0,_,_,_,_,hr=>hr.elim
 |m+1,0,_,_,hle,_=>by omega
 |m+1,m'+1,ts,h,hle,hr=>AW.mono hr fun e ts h hq=>by
  cases e with
  |normal=>exact yn.mono (Nat.le_of_succ_le_succ hle) hq
  |_=>exact hq
theorem OQ {c:Code}{F:Fence}(hF:gk F){n:Nat}:∀(m:Nat) (ts:aC) (h:ae) (iE:Mu) (h0:ae) (w0:World) (ds ms:List Deferred) (U:Mu) (a:Act) (w:World),dd U ts a.tmps→Rel U lo h w→Be F iE h0 w0→Frame lo iE h0 w0 U h w→
  a.defers=ms++ds→mQ w0.heap.size U h w ms→yn P lo c Q m ts h→Code.roundsIn F n P c (LiftM lo iE h0 w0 ds Q) m a w
 |0,_,_,_,_,_,_,_,_,_,_,_,_,_,_,_,_,hr=>hr.elim
 |m+1,ts,h,iE,h0,w0,ds,ms,U,a,w,ht,r,ro,f,hd,hm,hr=>by
  refine wpIn_mono (hr F hF n U a w ht r (ro.frame f)) fun e a' w' hl=>?_
  rw[hd] at hl
  have js:=hl.trans f hm
  cases e with
  |normal=>
   obtain⟨ba,h',aN,JV,h2,h3,h4,h5,h6,h7⟩:=js
   exact OQ (n:=n) hF m ba h' iE h0 w0 ds JV aN a' w' h2 h3 ro h4 h5 h6 h7
  |exit id=>exact js
  |goto l=>exact js
  |ret=>exact js
  |panic ch=>exact js
  |outgrown=>exact js
theorem AW.V1 {c:Code}(m:Nat)(hr:yn P lo c Q m ts h):AW P lo (.loop c) Q ts h:=
 fun _ hF _ U a w ht r ro=>wpIn_loop_rounds m (OQ hF m ts h U h w a.defers [] U a w ht r ro (Frame.refl _ _ _ _) rfl trivial hr)
theorem AW.loop {c:Code}(I:Nat→aC→ae→Prop)(m:Nat)(h0:I m ts h)(round:∀m ts h,I m ts h→AW P lo c (HD (fun ba h'=>∃m',m'<m∧I m' ba h') Q) ts h):AW P lo (.loop c) Q ts h:=by
 have key:∀(m:Nat) (ts:aC) (h:ae),I m ts h→yn P lo c Q (m+1) ts h:=by
  intro m
  induction m using Nat.strongRecOn with
  |_ m ih=>
   intro ts h hI
   refine AW.mono (round m ts h hI) fun e ba h' hq=>?_
   cases e with
   |normal=>
    obtain⟨m',aU,V3⟩:=hq
    exact yn.mono (by omega) (ih m' aU ba h' V3)
   |_=>exact hq
 exact .V1 (m+1) (key m ts h h0)
def bw (ts:aC)(dst:Option Tmp)(v:Value):aC:=
 match dst with
 |some d=>ts.set d v
 |none=>ts
theorem Bg {U:Mu}{a:Act}{v v':Value}(ht:dd U ts a.tmps)(hv:aj U v v')(dst:Option Tmp):dd U (bw ts dst v) (a.put dst v').tmps:=by
 cases dst with
 |none=>exact ht
 |some d=>
  have:=bn.set d ht hv
  simpa[dd,bw,Act.put] using this
theorem put_defers (a:Act)(dst:Option Tmp)(v:Value):(a.put dst v).defers=a.defers:=by cases dst<;>rfl
theorem Bh {o:Oper}{w:World}{ρ:Operand→Value}(F:Fence)(hF:gk F):∀f,o.about P w ρ=some f→F.fn f:=fun f _=>hF.fn f
theorem oM.op {o:Oper}{v:Value}{h':ae}{next:aC→ae→Prop}(ha:cn P lo ts h o.op=some (v,h'))(hn:next (bw ts o.dst v) h'):oM P lo o ts h next:=by
 intro F hF n U a w Q ht r
 refine⟨Bh F hF,?_⟩
 have JW:∀c,o.op≠.defer c:=fun c hc=>by rw[hc] at ha;simp[cn] at ha
 rw[Oper.semAt_eq _ _ _ JW]
 obtain⟨nx,v',w',aN,h1,h2,h3,h4,h5⟩:=V0 (P:=P) r ht ha
 rw[h1]
 have hl:fu lo U h w a.defers (fun _=>next) .normal (a.put o.dst v') w':=
  ⟨_,h',aN,Bg (ht.mono h5.le) h3 o.dst,h4,h5,put_defers _ _ _,hn⟩
 rcases h2 with rfl|⟨rfl,rfl⟩
 ·exact hl
 exact hl
theorem oM.call {o:Oper}{fo:Operand}{args:Array Operand}{aT:Array TypeId}{f:FuncId}{first captured:Array Value}{l:List Value}{next:aC→ae→Prop}(ho:o.op=.call ⟨.value fo,args,aT⟩)
  (hf:cI ts fo=some (.func (.func f) first captured)) (hl:ns ts args.toList=some l) (dM:∀as w,(callFunc f as).run P w=.ok (.enter f as) w)
  (hc:∀F,gk F→F.round=none→∀n U w a6,bn U (first.toList++l++captured.toList) a6.toList→Rel U lo h w→
   CallsIn F n P f a6 w fun e w'=>∃r v h' aN,e=.returned v∧aj aN r v∧Rel aN lo h' w'∧Frame lo U h w aN h' w'∧next (bw ts o.dst r) h'):oM P lo o ts h next:=by
 intro F hF n U a w Q ht r
 refine⟨Bh F hF,?_⟩
 rw[Oper.semAt_eq _ _ _ (fun c hc=>by rw[ho] at hc;cases hc)]
 have pD:=fq ht hf
 generalize rH:a.eval fo=fv at pD
 cases pD with
 |func _ _ _ gE du hx hy rx ry=>
  have eG:(execOp a.eval o).run P w=.ok (.enter f (gE++args.map a.eval++du)) w:=by
   simp only[execOp,ho,resolve,rH,Deferred.ofValue,Sem.run_bind,Sem.run_pure,Result.andThen_ok,invoke,dM]
  rw[eG]
  refine⟨hF.one n,?_⟩
  have fH:bn U (first.toList++l++captured.toList) (gE++args.map a.eval++du).toList:=by
   simp only[Array.toList_append,Array.toList_map]
   exact((qa.2 ⟨hx,rx⟩).append (Db ht hl)).append (qa.2 ⟨hy,ry⟩)
  have gZ:gk F.plain:=⟨hF.fn,hF.depth,hF.alive⟩
  have uV:CallsIn F (n - 1) P f (gE++args.map a.eval++du) w _:=hc F.plain gZ rfl (n - 1) U w _ fH r
  refine uV.mono fun e w' ⟨r',v,h',aN,h1,h2,h3,h4,h5⟩=>?_
  subst h1
  exact⟨_,h',aN,Bg (ht.mono h4.le) h2 o.dst,h3,h4,put_defers _ _ _,h5⟩
theorem oM.JX {o:Oper}{fo:Operand}{args:Array Operand}{aT:Array TypeId}{f:FuncId}{first captured:Array Value}{l:List Value}{next:aC→ae→Prop}(ho:o.op=.call ⟨.value fo,args,aT⟩)
  (hf:cI ts fo=some (.func (.func f) first captured)) (hl:ns ts args.toList=some l) (dM:∀as w,(callFunc f as).run P w=.ok (.enter f as) w)
  (hc:mr P lo f (first.toList++l++captured.toList) h fun r h'=>next (bw ts o.dst r) h'):oM P lo o ts h next:=
 .call ho hf hl dM hc
def l3 (ops:Array Oper)(ts:aC)(j:Nat):Option Bool:=
 match ((ops[j]?).bind (·.dst)).bind (ts[·]?) with
 |some (.bool b)=>some b
 |_=>none
theorem OR {U:Mu}{a:Act}{ops:Array Oper}(ht:dd U ts a.tmps)(j:Nat):yielded ops a.tmps j=l3 ops ts j:=by
 unfold yielded l3
 cases hd:(ops[j]?).bind (·.dst) with
 |none=>rfl
 |some d=>
  simp only[Option.bind_some]
  cases nt:ts[d]? with
  |none=>
   have:a.tmps[d]?=none:=by
    rw[Array.getElem?_eq_none]
    have:=ht.1
    rw[List.getElem?_eq_none_iff] at nt
    simp at this;omega
   rw[this]
  |some v=>
   obtain⟨v',h1,h2⟩:=ht.2 d v nt
   have nj:a.tmps[d]?=some v':=by simpa using h1
   rw[nj]
   cases h2<;>rfl
def oN (P:Program)(lo:Nat)(ops:Array Oper)(K:aC→ae→Prop):List Nat→aC→ae→Prop
 |[],ts,h=>K ts h
 |i::rest,ts,h=>
  match ops[i]? with
  |none=>oN P lo ops K rest ts h
  |some o=>if Region.wanted o (l3 ops ts) then oM P lo o ts h (oN P lo ops K rest) else oN P lo ops K rest (bw ts o.dst Go.undef) h
theorem HF {ops:Array Oper}{F:Fence}(hF:gk F){n:Nat}:∀(l:List Nat) (ts:aC) (h:ae) (iE:Mu) (h0:ae) (w0:World) (U:Mu) (a:Act) (w:World),dd U ts a.tmps→Rel U lo h w→Frame lo iE h0 w0 U h w→
  oN P lo ops (Q .normal) l ts h→wpOpsIn F n P ops (fu lo iE h0 w0 a.defers Q) l a w
 |[],ts,h,iE,h0,w0,U,a,w,ht,r,f,hk=>⟨ts,h,U,ht,r,f,rfl,hk⟩
 |i::rest,ts,h,iE,h0,w0,U,a,w,ht,r,f,hk=>by
  simp only[oN] at hk
  simp only[wpOpsIn]
  cases ho:ops[i]? with
  |none=>simp only[ho] at hk ⊢;exact HF hF rest ts h iE h0 w0 U a w ht r f hk
  |some o=>
   simp only[ho] at hk ⊢
   have hy:yielded ops a.tmps=l3 ops ts:=funext (OR ht)
   rw[hy]
   by_cases hw:Region.wanted o (l3 ops ts)=true
   ·simp only[hw,if_true] at hk ⊢
    refine Oper.wpIn_mono (fun a' w' hl=>?_) (hk F hF n U a w _ ht r)
    obtain⟨ba,h',aN,h2,h3,h4,h5,h6⟩:=hl.trans f
    have:=HF (n:=n) hF rest ba h' iE h0 w0 aN a' w' h2 h3 h4 h6
    rw[h5] at this
    exact this
   simp only[hw,if_false,Bool.false_eq_true] at hk ⊢
   refine⟨Bh F hF,?_⟩
   have:=HF (n:=n) hF rest (bw ts o.dst Go.undef) h iE h0 w0 U (a.put o.dst Go.undef) w (Bg ht .undef o.dst) r f hk
   rw[put_defers] at this
   exact this
theorem AW.region {id:Nat}{ops:Array Oper}(hk:oN P lo ops (Q .normal) (List.range ops.size) ts h):AW P lo (.region id ops false) Q ts h:=
 fun _ hF _ U a w ht r _=>wpIn_mono (wpIn_region (HF hF _ ts h U h w U a w ht r (Frame.refl _ _ _ _) hk)) fun _ _ _ hl=>hl.Dd
def EG (P:Program)(ts:aC)(h:ae):ResultVar→Option Value
 |.tmp t=>some (ts.getD t Go.undef)
 |.cell a t=>sj P h t (ts.getD a Go.undef)
def sC (P:Program)(ts:aC)(h:ae):List ResultVar→Option (List Value)
 |[]=>some []
 |x::r=>match EG P ts h x,sC P ts h r with
  |some v,some l=>some (v::l)
  |_,_=>none
def zR (l:List Value):Value:=
 match l with
 |[v]=>v
 |l=>.tuple l.toArray
def EH (tmps:Array Value):ResultVar→Sem Value
 |.tmp t=>pure (tmps.getD t Go.undef)
 |.cell c t=>asAddr (tmps.getD c Go.undef) >>= fun ad=>loadVar t ad
theorem V4 (fn:Func)(tmps:Array Value):results fn tmps=(fn.results.mapM (EH tmps) >>= fun vs=>pure (if h:vs.size=1 then vs[0] else .tuple vs)):=by
 unfold results
 congr 1
theorem OS {U:Mu}{a:Act}{w:World}(ht:dd U ts a.tmps)(r:Rel U lo h w):∀ {rs:List ResultVar} {l:List Value},sC P ts h rs=some l→
  ∃l',(rs.mapM (EH a.tmps)).run P w=.ok l' w∧bn U l l'
 |[],l,hl=>by simp only[sC,ax] at hl;subst hl;exact⟨[],rfl,bn.nil U⟩
 |x::rs,l,hl=>by
  simp only[sC] at hl
  split at hl
  ·rename_i v l1 h1 h2
   simp only[ax] at hl;subst hl
   obtain⟨l',g1,g2⟩:=OS ht r h2
   cases x with
   |tmp t=>
    simp only[EG,ax] at h1;subst h1
    exact⟨_::l',by simp only[List.mapM_cons,EH,Sem.run_bind,Sem.run_pure,Result.andThen_ok,g1],.cons (ht.getD t) g2⟩
   |cell c t=>
    simp only[EG] at h1
    obtain⟨v',w',aN,e1,e2,e3,e4⟩:=Jt (P:=P) r (ht.getD c) h1
    have tP:=ht.getD c
    generalize gR:a.tmps.getD c Go.undef=cv at tP e1
    have JY:=h1
    unfold sj at JY
    split at JY
    ·rename_i o off heq
     rw[heq] at tP
     cases tP with
     |ptr _ _ b a0 C hm=>
      simp only[Instr.loadAt,Instr.sureAddr,Sem.run_bind,Sem.run_pure,Result.andThen_ok] at e1
      have ho:=Jt (P:=P) r (aj.ptr o off b a0 C hm) (heq▸h1)
      obtain⟨v2,w2,zD,q1,q2,q3,q4⟩:=ho
      have ea:∃v3,(loadVar t ⟨b,a0+off,none⟩).run P w=.ok v3 w∧aj U v v3:=by
       rw[heq] at h1
       unfold sj at h1
       simp only at h1
       split at h1
       ·rename_i s cs hx
        have oI:=mM r hx hm
        split at h1
        ·rename_i hg
         split at h1
         ·rename_i nn hn
          cases hle:Nat.ble (off+nn) cs.length with
          |false=>simp[hle] at h1
          |true=>
           simp only[hle,aJ,ax] at h1;subst h1
           obtain⟨ao,k1,k2,k3⟩:=Hj oI off nn (by simpa using hle)
           have hl:=run_loadCells_list (P:=P) w _ ao k3
           rw[k2] at hl
           exact⟨.agg ao.toArray,by simp[loadVar,CU hg,mq hn,hl],.ky k1⟩
         simp at h1
        ·rename_i hg
         obtain⟨v',k1,k2⟩:=oI.2.1 off v h1
         exact⟨v',by simp[loadVar,CU hg,k1],k2⟩
        simp at h1
       simp at h1
      obtain⟨v3,k1,k2⟩:=ea
      have hA:asAddr (.pointer (some ⟨b,a0+off,none⟩))=(pure ⟨b,a0+off,none⟩:Sem Addr):=rfl
      exact⟨v3::l',by simp only[List.mapM_cons,EH,Sem.run_bind,gR,hA,Sem.run_pure,Result.andThen_ok,k1,g1],.cons k2 g2⟩
    simp at JY
  simp at hl
theorem V5 {U:Mu}{a:Act}{w:World}{fn:Func}{l:List Value}(ht:dd U ts a.tmps)(r:Rel U lo h w)(hl:sC P ts h fn.results.toList=some l) :
  ∃v,(results fn a.tmps).run P w=.ok v w∧aj U (zR l) v:=by
 obtain⟨l',h1,h2⟩:=OS (P:=P) ht r hl
 have he:(fn.results.mapM (EH a.tmps)).run P w=.ok l'.toArray w:=by
  rw[Array.mapM_eq_mapM_toList,Sem.run_map,h1,Result.andThen_ok]
 have eG:(results fn a.tmps).run P w=.ok (if hs:l'.toArray.size=1 then l'.toArray[0] else .tuple l'.toArray) w:=by
  rw[V4,Sem.run_bind,he,Result.andThen_ok,Sem.run_pure]
 refine⟨_,eG,?_⟩
 cases l with
 |nil=>have:=h2.iP;subst this;exact .tuple #[] #[] rfl (fun i h=>by simp at h)
 |cons v1 r1=>
  obtain⟨v1',r1',rfl,hv,hr⟩:=h2.dt
  cases r1 with
  |nil=>have:=hr.iP;subst this;simpa[zR] using hv
  |cons v2 r2=>
   obtain⟨v2',r2',rfl,eI,iU⟩:=hr.dt
   simpa[zR] using aj.qb h2
def JZ (P:Program)(fn:Func)(R:Value→ae→Prop):kD
 |.normal,ts,h=>∃l,sC P ts h fn.results.toList=some l∧R (zR l) h
 |.ret,ts,h=>∃l,sC P ts h fn.results.toList=some l∧R (zR l) h
 |_,_,_=>False
theorem HG {U:Mu}{w:World}{b:Nat}(o:Obj)(r:Rel U lo h w)(u:uU U h b)(hb:bE.K≤b):Rel U lo h (w.putObj b o):=by
 have hk:∀o' x b' a C,h.get o'=some x→U o'=some (b',a,C)→(w.putObj b o).heap[b']?=w.heap[b']?:=fun o' x b' a C hx hm=>
  World.putObj_heap_other (by rintro rfl;exact u o' x a C hx hm)
 refine⟨fun o' x hx=>?_,r.inj,r.ng,fun o' x b' a C hl hx hm off=>?_,r.bA,⟨fun b' oB=>by rw[World.putObj_heap_other (by omega)];exact r.jA.gl b' oB,by rw[World.putObj_size];exact r.jA.ks,r.jA.hi⟩⟩
 ·obtain⟨b',a,C,h1,h2⟩:=r.be o' x hx
  exact⟨b',a,C,h1,h2.kept (hk o' x b' a C hx h1)⟩
 rw[xW (hk o' x b' a C hx hm)]
 exact r.eo o' x b' a C hl hx hm off
theorem HH {U aN:Mu}{h':ae}{w w':World}{b:Nat}(o:Obj)(f:Frame lo U h w aN h' w')(hb:w.heap.size≤b∨xV U lo h b):Frame lo U h w aN h' (w'.putObj b o):=
 ⟨f.le,by rw[World.putObj_size];exact f.size,f.next,fun b' oB hn=>by
  rw[World.putObj_heap_other (by rintro rfl;exact hb.elim (fun h=>absurd oB (by omega)) hn)]
  exact f.kept b' oB hn,f.own,f.low,f.fR,f.born,⟨f.calm.1,f.calm.2,f.calm.3,f.calm.4⟩⟩
theorem mQ.putObj {B:Nat}{U:Mu}{w:World}{b:Nat}(o:Obj):∀ {ds:List Deferred},(∀d∈ds,d≠{ target:=.collected b,args:=#[] })→mQ B U h w ds→mQ B U h (w.putObj b o) ds
 |[],_,_=>trivial
 | d :: ds, hd, ⟨⟨r, h1, h2, h3, h4, h5⟩, hr⟩ => ⟨⟨r, h1, h2, by
  rw[World.putObj_heap_other (by rintro rfl;exact hd d (by simp) h1)];exact h3,h4,h5⟩,hr.putObj o (fun d' tQ=>hd d' (List.mem_cons_of_mem _ tQ))⟩
theorem OT {F:Fence}{n:Nat}{fn:Func}{iE U:Mu}{h0:ae}{w0:World}{tmps:Array Value}{R:Ending→World→Prop}(hK:bE.K≤w0.heap.size):∀(ms:List Deferred) (w:World),mQ w0.heap.size U h w ms→Rel U lo h w→Frame lo iE h0 w0 U h w→
  (∀w',Rel U lo h w'→Frame lo iE h0 w0 U h w'→∃v,(results fn tmps).run P w'=.ok v w'∧R (.returned v) w')→LeavesInM F n P fn tmps R ms .returning w
 |[],w,_,r,f,hf=>hf w r f
 |d::ds,w,⟨⟨b,h1,h2,h3,h4,h5⟩,hr⟩,r,f,hf=>by
  refine⟨by simp,.inl ⟨b,w.putObj b (.deferred none),by rw[h1],run_takeDeferred h3,?_⟩⟩
  exact OT hK ds _ (hr.putObj _ (fun d' tQ=>by rw[← h1];exact h5 d' tQ)) (HG _ r h4 (Nat.le_trans hK h2)) (HH _ f (.inl h2)) hf
theorem mr.bV {f:FuncId}{fn:Func}{c:Code}{args:List Value}{R:Value→ae→Prop}(hf:P.funcs[f]?=some fn)(hb:fn.body=some c)
  (hc:AW P lo c (JZ P fn R) (args++List.replicate (fn.ntmps - args.length) Go.undef) h):mr P lo f args h R:=by
 intro F hF n4 n U w a6 ha r
 have hlen:a6.size=args.length:=by have:=ha.1;simp at this;omega
 have ht:dd U (args++List.replicate (fn.ntmps - args.length) Go.undef) (a6++Array.replicate (fn.ntmps - a6.size) Go.undef):=by
  rw[hlen]
  simp only[dd,Array.toList_append,Array.toList_replicate]
  refine ha.append ⟨by simp,fun i v hv=>⟨Go.undef,?_,?_⟩⟩
  ·have hi:i<fn.ntmps - args.length:=by
    rcases Nat.lt_or_ge i (fn.ntmps - args.length) with h|h
    ·exact h
    rw[List.getElem?_eq_none (by simpa using h)] at hv;simp at hv
   simp[hi]
  have:=List.mem_of_getElem? hv
  rw[List.mem_replicate] at this
  rw[this.2];exact .undef
 refine callsIn_of_wp_marks hf hb (hF.fn f) ?_ n4
 refine wpIn_mono (hc F hF n U { tmps:=a6++Array.replicate (fn.ntmps - a6.size) Go.undef,defers:=[] } w ht r (.none n4)) fun e a' w' hl=>?_
 obtain⟨ba,h',aN,ms,h2,h3,h4,h5,h6,h7⟩:=hl
 have h5:a'.defers=ms:=by rw[h5,List.append_nil]
 have fin:(∃l,sC P ba h' fn.results.toList=some l∧R (zR l) h')→LeavesInM F n P fn a'.tmps (fun e w'=>∃r v h' aN,e=.returned v∧aj aN r v∧Rel aN lo h' w'∧Frame lo U h w aN h' w'∧R r h') a'.defers .returning w':=by
  rintro⟨l,hl,hR⟩
  rw[h5]
  refine OT r.jA.ks ms w' h6 h3 h4 fun w2 r2 f2=>?_
  obtain⟨v,k1,k2⟩:=V5 (P:=P) h2 r2 hl
  exact⟨v,k1,_,v,h',aN,rfl,k2,r2,f2,hR⟩
 cases e with
 |normal=>exact fin h7
 |ret=>exact fin h7
 |exit id=>exact h7.elim
 |goto l=>exact h7.elim
 |panic ch=>exact h7.elim
 |outgrown=>exact h7.elim
theorem OU {U:Mu}{v v':Value}(hs:tF v=true)(h:aj U v v'):v'=v:=by
 unfold tF at hs
 split at hs<;>first|cases hs;done|(cases h;rfl)
theorem OV {U:Mu}{l l':List Value}(hs:l.all tF=true)(h:bn U l l'):l'=l:=by
 apply List.ext_getElem?
 intro i
 cases hi:l[i]? with
 |none=>
  rw[List.getElem?_eq_none_iff] at hi ⊢
  rw[← h.1];exact hi
 |some v=>
  obtain⟨v',h1,h2⟩:=h.2 i v hi
  rw[List.all_eq_true] at hs
  rw[h1,OU (hs v (List.mem_of_getElem? hi)) h2]
theorem EI {U:Mu}{v v':Value}(hs:kB v=true)(h:aj U v v'):v'=v:=by
 unfold kB at hs
 split at hs
 ·obtain⟨ao,rfl,hc⟩:=h.CS
  rw[Array.ext' (OV hs hc)]
 ·obtain⟨ao,rfl,hc⟩:=h.Og
  rw[Array.ext' (OV hs hc)]
 exact OU hs h
end
def OW (P:Program)(s:Sem Value)(U:Mu)(w:World)(id:Nat)(v:Value)(x:a7):Prop:=
 ∃ob v' C,s.run P w=.ok v' (w.alloc ob)∧(∀off,(w.alloc ob).frozen? ⟨w.heap.size,off,none⟩=false)∧
  ∀ν,U.le ν→ν id=some (w.heap.size,0,C)→aj ν v v'∧fp ν (w.alloc ob) w.heap.size 0 C x
theorem J7 {ν:Mu}{w:World}{t:TypeId}{arr:Array Value}{cs:List Value}(h:bn ν cs arr.toList):fp ν (w.alloc (.cells arr t)) w.heap.size 0 0 (.cells 0 cs):=by
 refine⟨by simp,fun i v hv=>?_,fun h0=>by omega⟩
 obtain⟨v',h1,h2⟩:=h.2 i v hv
 exact⟨v',by simpa using h1,h2⟩
def ic (P:Program)(ts:aC)(id:Nat):Op→Option (Value×a7)
 |.alloc t=>match oC P t with
  |some z=>some (.pointer (some ⟨id,0,none⟩),.cells 0 z)
  |none=>none
 |.box _ x=>match cI ts x with
  |some v=>some (.pointer (some ⟨id,0,none⟩),.cells 0 v.cells.toList)
  |none=>none
 |.buildSlice t len parts=>match tM ts parts.toList,fS P t with
  |some l,some (e,n)=>
   match oC P e with
   |some z=>
    bif Nat.beq z.length n&&Nat.ble (len*n) 16777216&&Nat.blt 0 n then
     match tH (fun i=>some (i*n,n)) (cJ z len) l with
     |some cs=>some (.slice (some ⟨id,0,none⟩) len len,.cells 0 cs)
     |none=>none
    else none
   |none=>none
  |_,_=>none
 |.makeSlice t l c=>match cI ts l,cI ts c,fS P t with
  |some (.int .i64 (.ofNat l)),some (.int .i64 (.ofNat c)),some (e,n)=>
   match oC P e,(P.info? e).map (·.bytes) with
   |some z,some bytes=>
    bif Nat.beq z.length n&&Nat.ble l c&&Nat.ble (bytes*c) 281474976710656&&Nat.blt 0 n&&Nat.ble c 281474976710656 then
     some (.slice (some ⟨id,0,none⟩) l c,.cells 0 (cJ z c))
    else none
   |_,_=>none
  |_,_,_=>none
 |.makeMap _ none=>some (.map (some id),.map [])
 |_=>none
def EJ:Op→Bool
 |.alloc _|.box .. | .buildSlice .. | .makeSlice .. | .makeMap ..=>true
 |_=>false
theorem OX {P:Program}{U:Mu}{w:World}{id:Nat}{t:TypeId}{v v':Value}{s:Sem Value}(hs:s.run P w=.ok (.pointer (some ⟨w.heap.size,0,none⟩)) (w.alloc (.cells v'.cells t)))(hv:aj U v v') :
  OW P s U w id (.pointer (some ⟨id,0,none⟩)) (.cells 0 v.cells.toList):=by
 refine⟨_,_,0,hs,fun off=>by simp,fun ν yc hid=>⟨?_,J7 (hv.cells.mono yc)⟩⟩
 have:=aj.ptr id 0 w.heap.size 0 0 hid
 simpa using this
theorem V6 {P:Program}{U:Mu}{w:World}{ts:aC}{a:Act}{id:Nat}{o:Oper}{v:Value}{x:a7}(ht:dd U ts a.tmps)(ha:ic P ts id o.op=some (v,x)) :
  ∃s:Sem Value,execOp a.eval o=(do pure (.value (← s)))∧OW P s U w id v x:=by
 unfold ic at ha
 split at ha
 all_goals (rename_i JS;try unfold execOp;try rw[JS])
 ·rename_i t
  split at ha
  ·rename_i z hz
   simp only[ax,bI] at ha;obtain⟨rfl,rfl⟩:=ha
   obtain⟨zv,h1,h2,h3⟩:=xY hz w
   refine⟨_,rfl,?_⟩
   have:=OX (P:=P) (U:=U) (w:=w) (id:=id) (t:=t) (v:=zv) (v':=zv) (s:=Instr.alloc t true (.tuple #[])) (by simp[Instr.alloc,h1,newVar,newRow]) (.xX h3)
   rwa [h2] at this
  simp at ha
 ·rename_i t y
  split at ha
  ·rename_i u hu
   simp only[ax,bI] at ha;obtain⟨rfl,rfl⟩:=ha
   exact⟨_,rfl,OX (t:=t) (v':=a.eval y) (by simp[Instr.box,newVar,newRow]) (fq ht hu)⟩
  simp at ha
 ·rename_i t len parts
  split at ha
  ·rename_i l e n hl he
   obtain⟨hu,hn⟩:=tG he
   split at ha
   ·rename_i z hz
    obtain⟨zv,h1,h2,h3⟩:=xY hz w
    cases hc:(Nat.beq z.length n&&Nat.ble (len*n) 16777216&&Nat.blt 0 n) with
    |false=>rw[hc] at ha;simp at ha
    |true=>
     rw[hc] at ha
     simp only[aJ] at ha
     simp only[bR] at hc
     obtain⟨⟨gQ,fT⟩,hP⟩:=hc
     have gQ:z.length=n:=by simpa using gQ
     have fT:len*n≤16777216:=by simpa using fT
     have hP:0<n:=by rw[Nat.blt_eq] at hP;exact hP
     split at ha
     ·rename_i cs hf
      simp only[ax,bI] at ha
      obtain⟨rfl,rfl⟩:=ha
      have zF:zv.cells.size=n:=by rw[← gQ,← h2];simp
      have hlen:len≤16777216:=Nat.le_trans (Nat.le_mul_of_pos_right len hP) fT
      have qe:bn U (cJ z len) ((Array.range (len*n)).map (zv.cells[· % zv.cells.size]!)).toList:=by
       have:=range_zero zv.cells len
       rw[zF] at this ⊢
       rw[this,h2]
       exact C3 (h2▸AT h3) len
      have hp:uJ U l (parts.map fun (i,y)=>(i,a.eval y)).toList:=by simpa using HC ht hl
      obtain⟨out,h4,h5⟩:=Hl (U:=U) (fun i=>some (i*n,n)) l _ (cJ z len) _ cs hp qe hf
      have fF:len=gb 0 len:=by rw[nk];unfold ar;omega
      refine⟨_,rfl,.cells out e,.slice (some ⟨w.heap.size,0,none⟩) len len,0,?_,fun off=>by simp,fun ν yc hid=>⟨?_,J7 (h5.mono yc)⟩⟩
      ·have fU:¬(len*n > 2 ^ 24):=by omega
       by_cases h0:len*n=0
       ·have kN:len=0:=by
         rcases Nat.mul_eq_zero.1 h0 with h|h
         ·exact h
         omega
        subst kN
        have mO:Array.range 0=#[]:=rfl
        rw[Nat.zero_mul,mO] at h4
        simp only[List.map_toArray,List.map_nil,Array.toList_map] at h4
        simp[Instr.buildSlice,run_underlying hu,mq hn,mO,h4,newRow]
       simp only[Array.toList_map] at h4
       simp[Instr.buildSlice,run_underlying hu,mq hn,fU,h0,h1,h4,newRow]
      have:=aj.slice id 0 len len w.heap.size 0 0 hid (Nat.le_of_eq fF) (by unfold dC;omega)
      rwa [← fF] at this
     simp at ha
   simp at ha
  simp at ha
 ·rename_i t l0 c0
  split at ha
  ·rename_i l c e n hl iD he
   obtain⟨hu,hn⟩:=tG he
   have uW:=fq ht hl
   have tP:=fq ht iD
   generalize hle:a.eval l0=lv at uW
   generalize gR:a.eval c0=cv at tP
   cases uW
   cases tP
   split at ha
   ·rename_i z bytes hz hb
    obtain⟨zv,h1,h2,h3⟩:=xY hz w
    cases hc:(Nat.beq z.length n&&Nat.ble l c&&Nat.ble (bytes*c) 281474976710656&&Nat.blt 0 n&&Nat.ble c 281474976710656) with
    |false=>rw[hc] at ha;simp at ha
    |true=>
     rw[hc] at ha
     simp only[aJ,ax,bI] at ha
     obtain⟨rfl,rfl⟩:=ha
     simp only[bR] at hc
     obtain⟨⟨⟨⟨gQ,fT⟩,hP⟩,AV⟩,AX⟩:=hc
     have gQ:z.length=n:=by simpa using gQ
     have fT:l≤c:=by simpa using fT
     have hP:bytes*c≤281474976710656:=by simpa using hP
     have AV:0<n:=by rw[Nat.blt_eq] at AV;exact AV
     have AX:c≤281474976710656:=by simpa using AX
     have zF:zv.cells.size=n:=by rw[← gQ,← h2];simp
     have Ho:IntKind.i64.wrap (c:Int)=c:=Hn AX
     have ss:IntKind.i64.wrap (l:Int)=l:=Hn (by omega)
     have qe:bn U (cJ z c) ((Array.range (c*n)).map (zv.cells[· % zv.cells.size]!)).toList:=by
      have:=range_zero zv.cells c
      rw[zF] at this ⊢
      rw[this,h2]
      exact C3 (h2▸AT h3) c
     have fF:c=gb 0 c:=by rw[nk];unfold ar;omega
     refine⟨_,rfl,.cells ((Array.range (c*n)).map (zv.cells[· % zv.cells.size]!)) e,.slice (some ⟨w.heap.size,0,none⟩) l c,0,?_,fun off=>by simp,fun ν yc hid=>⟨?_,J7 (qe.mono yc)⟩⟩
     ·rw[hle,gR]
      cases hi:P.info? e with
      |none=>simp[hi] at hb
      |some i=>
       simp only[hi,Option.map_some,ax] at hb
       subst hb
       have Es:(typeInfo e).run P w=.ok i w:=by simp[typeInfo,hi]
       have Et:¬((281474976710656:Int)<(i.bytes:Int)*(c:Int)):=by
        have:((i.bytes*c:Nat):Int)≤((281474976710656:Nat):Int):=Int.ofNat_le.2 hP
        rw[Int.natCast_mul] at this
        exact Int.not_lt.2 this
       have zG:¬((c:Int)<(l:Int)):=by omega
       by_cases h0:c*n=0
       ·have zH:c=0:=by
         rcases Nat.mul_eq_zero.1 h0 with h|h
         ·exact h
         omega
        subst zH
        have kN:l=0:=by omega
        subst kN
        have mO:Array.range 0=#[]:=rfl
        have x6:IntKind.i64.wrap 0=0:=by decide
        simp[Instr.makeSlice,run_underlying hu,asInt,asIntOf,Es,mq hn,x6,mO,newRow]
       simp[Instr.makeSlice,run_underlying hu,asInt,asIntOf,Es,mq hn,Ho,ss,zG,h0,h1,newRow]
       rintro ((hh|hh)|hh)
       ·omega
       ·exact absurd hh Et
       omega
     have:=aj.slice id 0 l c w.heap.size 0 0 hid (by rw[← fF];exact fT) (by unfold dC;omega)
     rwa [← fF] at this
   simp at ha
  simp at ha
 ·rename_i t
  simp only[ax,bI] at ha;obtain⟨rfl,rfl⟩:=ha
  refine⟨_,rfl,.map #[] 0,.map (some w.heap.size),0,by simp[Instr.makeMap],fun off=>by simp only[World.frozen?,heap_alloc];simp,fun ν yc hid=>⟨.map id _ _ hid,rfl,#[],0,by rw[heap_alloc];simp,⟨[],.nil,by simp,rfl,fun i p e h=>by simp at h,by simp,fun e h=>by simp at h⟩⟩⟩
 simp at ha
theorem De {ts ba:aC}:∀ {xs:List Operand},(∀x∈xs,cI ts x=cI ba x)→ns ts xs=ns ba xs
 |[],_=>rfl
 |x::r,h=>by simp only[ns,h x (by simp),De (fun y hy=>h y (List.mem_cons_of_mem _ hy))]
theorem HI {ts ba:aC}:∀ {xs:List (Nat×Operand)},(∀x∈xs.map (·.2),cI ts x=cI ba x)→tM ts xs=tM ba xs
 |[],_=>rfl
 |(i,x)::r,h=>by simp only[tM,h x (by simp),HI (xs:=r) (fun y hy=>h y (by simp only[List.map_cons];exact List.mem_cons_of_mem _ hy))]
theorem J8 {ts ba:aC}{x:Option Operand}(h:∀y∈x.toArray,cI ts y=cI ba y):tO ts x=tO ba x:=by
 cases x with
 |none=>rfl
 |some x=>simp only[tO,h x (by simp)]
theorem Bi {P:Program}{lo:Nat}{ts ba:aC}{h:ae}{op:Op}(he:∀x∈op.operands,cI ts x=cI ba x):cn P lo ts h op=cn P lo ba h op:=by
 cases op<;>simp only[Op.operands] at he<;>try rfl
 case move x=>simp only[cn,he x (by simp)]
 case assign x=>simp only[cn,he x (by simp)]
 case pick c a b=>simp only[cn,he c (by simp),he a (by simp),he b (by simp)]
 case box t x=>simp only[cn,he x (by simp)]
 case build t ps=>simp only[cn,HI (ts:=ts) (ba:=ba) (xs:=ps.toList) (fun x hx=>he x (by simpa using hx))]
 case buildSlice t n ps=>simp only[cn,HI (ts:=ts) (ba:=ba) (xs:=ps.toList) (fun x hx=>he x (by simpa using hx))]
 case load t x=>simp only[cn,he x (by simp)]
 case store t x y=>simp only[cn,he x (by simp),he y (by simp)]
 case nilCheck x=>simp only[cn,he x (by simp)]
 case binOp o t x y u=>simp only[cn,he x (by simp),he y (by simp)]
 case unOp o t x=>simp only[cn,he x (by simp)]
 case convert s d x=>simp only[cn,he x (by simp)]
 case makeFunc fn a b=>
  cases fn<;>try rfl
  simp only[cn,De (ts:=ts) (ba:=ba) (xs:=a.toList) (fun x hx=>he x (by simp at hx ⊢;exact .inl hx)),De (ts:=ts) (ba:=ba) (xs:=b.toList) (fun x hx=>he x (by simp at hx ⊢;exact .inr hx))]
 case makeMap t r=>cases r<;>rfl
 case makeSlice t x y=>simp only[cn,he x (by simp),he y (by simp)]
 case slice t x l u m=>
  simp only[cn,he x (by simp),J8 (ts:=ts) (ba:=ba) (x:=l) (fun y hy=>he y (by simp at hy ⊢;simp[hy])),J8 (ts:=ts) (ba:=ba) (x:=u) (fun y hy=>he y (by simp at hy ⊢;simp[hy])),
   J8 (ts:=ts) (ba:=ba) (x:=m) (fun y hy=>he y (by simp at hy ⊢;simp[hy]))]
 case fieldAddr s x f=>simp only[cn,he x (by simp)]
 case field s x f=>simp only[cn,he x (by simp)]
 case indexAddr t x y=>simp only[cn,he x (by simp),he y (by simp)]
 case index t x y=>simp only[cn,he x (by simp),he y (by simp)]
 case lookup t x y ok=>simp only[cn,he x (by simp),he y (by simp)]
 case mapUpdate t x y z=>simp only[cn,he x (by simp),he y (by simp),he z (by simp)]
 case insert t x y z=>simp only[cn,he x (by simp),he y (by simp),he z (by simp)]
 case extract x i=>simp only[cn,he x (by simp)]
 case call c=>
  obtain⟨callee,args,aT⟩:=c
  cases callee<;>try rfl
  simp only[cn,De (ts:=ts) (ba:=ba) (xs:=args.toList) (fun x hx=>he x (by simp[Call.operands];simpa using hx))]
theorem OY {P:Program}{ts ba:aC}{id:Nat}{op:Op}(he:∀x∈op.operands,cI ts x=cI ba x):ic P ts id op=ic P ba id op:=by
 cases op<;>simp only[Op.operands] at he<;>try rfl
 case box t x=>simp only[ic,he x (by simp)]
 case buildSlice t n ps=>simp only[ic,HI (ts:=ts) (ba:=ba) (xs:=ps.toList) (fun x hx=>he x (by simpa using hx))]
 case makeMap t r=>cases r<;>rfl
 case makeSlice t x y=>simp only[ic,he x (by simp),he y (by simp)]
def tR:Op→Bool
 |.move _|.assign _|.pick .. | .build .. | .load .. | .nilCheck _|.binOp .. | .unOp .. | .convert .. | .makeFunc .. | .slice .. | .fieldAddr .. | .field .. | .indexAddr .. | .index .. | .lookup .. | .extract ..=>true
 |.call ⟨.builtin .len,_,_⟩|.call ⟨.builtin .cap,_,_⟩|.call ⟨.builtin .max,_,_⟩|.call ⟨.builtin .min,_,_⟩=>true
 |_=>false
def ae.sub (h h':ae):Prop:=∀o x,h.get o=some x→h'.get o=some x
theorem V7 {P:Program}{h h':ae}(hs:h.sub h'){t:TypeId}{p v:Value}(ha:sj P h t p=some v):sj P h' t p=some v:=by
 unfold sj at ha ⊢
 split at ha
 ·split at ha
  ·rename_i hx;rw[hs _ _ hx];exact ha
  simp at ha
 simp at ha
theorem V8 {P:Program}{h h':ae}(hs:h.sub h'){t:TypeId}{m k v:Value}{ok:Bool}(ha:tK P h t m k ok=some v):tK P h' t m k ok=some v:=by
 unfold tK at ha ⊢
 split at ha
 ·split at ha
  ·cases m<;>try exact ha
   rename_i r
   cases r with
   |none=>exact ha
   |some o=>
    cases ho:h.get o with
    |none=>simp[ho] at ha
    |some x=>
     simp only[ho,hs o x ho] at ha ⊢
     exact ha
  simp at ha
 simp at ha
theorem V9 {P:Program}{h h':ae}(hs:h.sub h'){t:TypeId}{m v:Value}{xs:Array Value}{ok:Bool}(ha:yh P h t m xs ok=some v):yh P h' t m xs ok=some v:=by
 unfold yh at ha ⊢
 split at ha
 ·rename_i kT e n hk
  cases hb:(!(fG xs.toList&&Nat.beq xs.toList.length n)) with
  |true=>rw[hb] at ha;cases ha
  |false=>
   rw[hb] at ha
   simp only[bl] at ha ⊢
   split at ha
   ·cases m<;>try exact ha
    rename_i r
    cases r with
    |none=>exact ha
    |some o=>
     cases ho:h.get o with
     |none=>simp[ho] at ha
     |some x=>
      simp only[ho,hs o x ho] at ha ⊢
      exact ha
   simp at ha
 simp at ha
theorem Wa {P:Program}{h h':ae}(hs:h.sub h'){t:TypeId}{m k v:Value}{ok:Bool}(ha:tL P h t m k ok=some v):tL P h' t m k ok=some v:=by
 unfold tL at ha ⊢
 split at ha
 ·exact V9 hs ha
 exact V8 hs ha
theorem Wb {P:Program}{h h':ae}(hs:h.sub h'){t:TypeId}{x v:Value}(ha:lX P h t x=some v):lX P h' t x=some v:=by
 unfold lX at ha ⊢
 cases hu:P.underlying t with
 |none=>rw[hu] at ha;cases x<;>simp at ha
 |some d=>
  rw[hu] at ha
  cases d<;>cases x<;>try exact ha
  rename_i r
  cases r with
  |none=>exact ha
  |some o=>
   simp only at ha ⊢
   cases ho:h.get o with
   |none=>simp[ho] at ha
   |some y=>simp only[ho,hs o y ho] at ha ⊢;exact ha
theorem Wc {P:Program}{lo:Nat}{h:ae}{b:Builtin}{aT:List TypeId}{l:List Value}{v:Value}{h1:ae}(hb:b=.len∨b=.cap∨b=.max∨b=.min)(ha:n3 P lo h b aT l=some (v,h1)) :
  h1=h∧∀h2,h.sub h2→n3 P lo h2 b aT l=some (v,h2):=by
 have cD:∀ {o:Option Value},o.map (·,h)=some (v,h1)→h1=h∧∀h2:ae,h.sub h2→o.map (·,h2)=some (v,h2):=fun {o} hm=>by
  obtain⟨u,h3,h4⟩:=cZ hm
  simp only[bI] at h4
  obtain⟨rfl,rfl⟩:=h4
  exact⟨rfl,fun h2 _=>by rw[h3];rfl⟩
 rcases hb with rfl|rfl|rfl|rfl
 ·rcases aT with _|⟨t,_|⟨u,r⟩⟩<;>rcases l with _|⟨x,_|⟨y,s⟩⟩<;>simp only[n3] at ha ⊢ <;> try (simp at ha;done)
  obtain⟨u,h3,h4⟩:=cZ ha
  simp only[bI] at h4
  obtain⟨rfl,rfl⟩:=h4
  exact⟨rfl,fun h2 hs=>by rw[Wb hs h3];rfl⟩
 ·rcases aT with _|⟨t,_|⟨u,r⟩⟩<;>rcases l with _|⟨x,_|⟨y,s⟩⟩<;>simp only[n3] at ha ⊢ <;> try (simp at ha;done)
  exact cD ha
 ·rcases l with _|⟨x,s⟩<;>simp only[n3] at ha ⊢ <;> try (simp at ha;done)
  exact cD ha
 rcases l with _|⟨x,s⟩<;>simp only[n3] at ha ⊢ <;> try (simp at ha;done)
 exact cD ha
theorem zS {P:Program}{lo:Nat}{ts:aC}{h:ae}{op:Op}{v:Value}{h1:ae}(hr:tR op=true)(ha:cn P lo ts h op=some (v,h1)):h1=h∧∀h2,h.sub h2→cn P lo ts h2 op=some (v,h2):=by
 have fin:∀ {f:ae→Option Value},(∀h2,h.sub h2→∀u,f h=some u→f h2=some u)→(f h).map (·,h)=some (v,h1)→h1=h∧∀h2,h.sub h2→(f h2).map (·,h2)=some (v,h2):=by
  intro f hf hm
  obtain⟨u,h3,h4⟩:=cZ hm
  simp only[bI] at h4
  obtain⟨rfl,rfl⟩:=h4
  exact⟨rfl,fun h2 hs=>by rw[hf h2 hs u h3];rfl⟩
 have cD:∀ {o:Option Value},o.map (·,h)=some (v,h1)→h1=h∧∀h2,h.sub h2→o.map (·,h2)=some (v,h2):=fun {o} hm=>fin (f:=fun _=>o) (fun _ _ _ hu=>hu) hm
 cases op<;>simp only[tR,Bool.false_eq_true] at hr<;>simp only[cn] at ha ⊢
 case move x=>exact cD ha
 case assign x=>exact cD ha
 case pick c a b=>
  split at ha
  ·exact cD ha
  ·exact cD ha
  simp at ha
 case build t ps=>
  split at ha
  ·exact cD ha
  simp at ha
 case load t x=>
  split at ha
  ·exact fin (fun h2 hs u hu=>V7 hs hu) ha
  simp at ha
 case nilCheck x=>
  split at ha
  ·exact cD ha
  simp at ha
 case binOp o t x y u=>
  split at ha
  ·exact cD ha
  simp at ha
 case unOp o t x=>
  split at ha
  ·exact cD ha
  simp at ha
 case convert s d x=>
  split at ha
  ·exact cD ha
  simp at ha
 case makeFunc fn a b=>
  cases fn<;>simp only at ha ⊢ <;> try (simp at ha)
  split at ha
  ·simp only[ax,bI] at ha;obtain⟨rfl,rfl⟩:=ha
   exact⟨rfl,fun h2 _=>rfl⟩
  simp at ha
 case slice t x l u m=>
  split at ha
  ·exact cD ha
  simp at ha
 case fieldAddr s x f=>
  split at ha
  ·exact cD ha
  simp at ha
 case field s x f=>
  split at ha
  ·exact cD ha
  simp at ha
 case indexAddr t x y=>
  split at ha
  ·exact cD ha
  simp at ha
 case index t x y=>
  split at ha
  ·exact cD ha
  simp at ha
 case lookup t x y ok=>
  split at ha
  ·exact fin (fun h2 hs u hu=>Wa hs hu) ha
  simp at ha
 case extract x i=>
  split at ha
  ·exact cD ha
  simp at ha
 case call c=>
  obtain⟨callee,args,aT⟩:=c
  cases callee with
  |builtin b=>
   simp only[cn] at ha ⊢
   split at ha
   ·rename_i l hl
    refine Wc ?_ ha
    cases b<;>simp only[Bool.false_eq_true] at hr<;>simp
   simp at ha
  |value f=>simp at hr
  |invoke r m=>simp at hr
def ae.mR:Nat→ae→ae
 |0,h=>h
 |k+1,h=>let g:=ae.mR k h;⟨g.next+1,g.tr.set none (g.next+1) g.next⟩
theorem ae.Bj:∀(k:Nat) (h:ae),(ae.mR k h).next=h.next+k
 |0,_=>rfl
 |k+1,h=>by simp only[ae.mR,ae.Bj k h];omega
theorem ae.uX:∀(k:Nat) (h:ae) (o:Nat),(ae.mR k h).get o=h.get o
 |0,_,_=>rfl
 |k+1,h,o=>by
  have ih:=ae.uX k h o
  have hn:=ae.Bj k h
  rw[← ih]
  simp only[ae.mR,ae.get_eq]
  rw[Tr.Jk _ _ _ _ _ (by omega)]
  by_cases ho:o=(ae.mR k h).next
  ·subst ho;simp
  by_cases hl:o<(ae.mR k h).next
  ·have:o<(ae.mR k h).next+1:=by omega
   simp[ho,hl,this]
  have:¬o<(ae.mR k h).next+1:=by omega
  simp[hl,this]
theorem Rel.mR {U:Mu}{lo:Nat}{h:ae}{w:World}(r:Rel U lo h w)(k:Nat):Rel U lo (ae.mR k h) w:=by
 refine⟨fun o x hx=>r.be o x (by rwa [ae.uX] at hx),fun o o' x x' b a C a' C' hl hx tD=>r.inj o o' x x' b a C a' C' hl (by rwa [ae.uX] at hx) (by rwa [ae.uX] at tD),fun o x hx=>?_,
  fun o x b a C hl hx=>r.eo o x b a C hl (by rwa [ae.uX] at hx),?_,r.jA.same rfl fun o x h1 h2=>⟨h1,x,by rwa [ae.uX] at h2⟩⟩
 ·have:=r.ng o x hx;rw[ae.Bj];omega
 have:=r.bA;rw[ae.Bj];omega
theorem Frame.mR {U:Mu}{lo:Nat}{h:ae}{w:World}(k:Nat):Frame lo U h w U (ae.mR k h) w:=by
 refine⟨Mu.le_refl _,Nat.le_refl _,by rw[ae.Bj];omega,fun _ _ _=>rfl,fun b _=>?_,fun o _=>ae.uX k h o,fun _ _=>rfl,fun o _ hn=>by rw[ae.uX];exact hn,.refl w⟩
 rintro⟨o,x,a,C,h1,h2,h3⟩
 exact⟨o,x,a,C,h1,by rwa [ae.uX] at h2,h3⟩
section
variable (base:Nat) (sl:Nat→Nat) (FO:Nat→Option a7) (S:Nat→Bool)
def bF:List Nat→ae→ae
 |[],h=>h
 | i :: r, h => bif S i then match FO i with
   |some x=>(bF r h).put (base+sl i) (some x)
   |none=>bF r h
  else bF r h
variable {base sl FO S}
theorem nu:∀(as:List Nat) (h:ae),(bF base sl FO S as h).next=h.next
 |[],_=>rfl
 |i::r,h=>by
  simp only[bF]
  cases S i with
  |false=>exact nu r h
  |true=>
   cases FO i with
   |none=>exact nu r h
   |some x=>exact nu r h
theorem w6 {as:List Nat}{h:ae}{o:Nat}(hb:∀i∈as,base+sl i<h.next)(hm:∀i∈as,S i=true→FO i≠none→o≠base+sl i):(bF base sl FO S as h).get o=h.get o:=by
 induction as with
 |nil=>rfl
 |cons i r ih=>
  have ih:=ih (fun j hj=>hb j (List.mem_cons_of_mem _ hj)) (fun j hj=>hm j (List.mem_cons_of_mem _ hj))
  simp only[bF]
  cases hs:S i with
  |false=>exact ih
  |true=>
   cases hf:FO i with
   |none=>exact ih
   |some x=>
    simp only[aJ]
    rw[ae.dB _ _ _ _ (by rw[nu];exact hb i (by simp)),if_neg (hm i (by simp) hs (by simp[hf]))]
    exact ih
theorem zT {as:List Nat}{h:ae}{i:Nat}{x:a7}(hb:∀i∈as,base+sl i<h.next)(yo:∀i∈as,∀j∈as,sl i=sl j→i=j)(hi:i∈as)(hs:S i=true)(hf:FO i=some x) :
  (bF base sl FO S as h).get (base+sl i)=some x:=by
 induction as with
 |nil=>cases hi
 |cons j r ih=>
  have ih:=ih (fun j hj=>hb j (List.mem_cons_of_mem _ hj)) (fun j hj k hk=>yo j (List.mem_cons_of_mem _ hj) k (List.mem_cons_of_mem _ hk))
  simp only[bF]
  by_cases eT:i=j
  ·subst eT
   simp only[hs,hf,aJ]
   rw[ae.dB _ _ _ _ (by rw[nu];exact hb i (by simp)),if_pos rfl]
  have dD:i∈r:=(List.mem_cons.1 hi).resolve_left eT
  cases hsj:S j with
  |false=>exact ih dD
  |true=>
   cases w7:FO j with
   |none=>exact ih dD
   |some y=>
    simp only[aJ]
    rw[ae.dB _ _ _ _ (by rw[nu];exact hb j (by simp)),if_neg]
    ·exact ih dD
    intro h
    exact eT (yo i hi j (by simp) (by omega))
theorem OZ {as:List Nat}{h:ae}{o:Nat}{x:a7}(hb:∀i∈as,base+sl i<h.next)(yo:∀i∈as,∀j∈as,sl i=sl j→i=j)(hx:(bF base sl FO S as h).get o=some x) :
  (∃i∈as,S i=true∧o=base+sl i∧FO i=some x)∨(h.get o=some x∧∀i∈as,S i=true→FO i≠none→o≠base+sl i):=by
 by_cases he:∃i∈as,S i=true∧FO i≠none∧o=base+sl i
 ·obtain⟨i,hi,hs,hf,rfl⟩:=he
  cases pE:FO i with
  |none=>exact absurd pE hf
  |some y=>
   rw[zT hb yo hi hs pE] at hx
   exact .inl ⟨i,hi,hs,rfl,by rw[pE,hx]⟩
 have hm:∀i∈as,S i=true→FO i≠none→o≠base+sl i:=fun i hi hs hf ho=>he ⟨i,hi,hs,hf,ho⟩
 rw[w6 hb hm] at hx
 exact .inr ⟨hx,hm⟩
end
theorem Wd (ts:aC)(d:Option Tmp)(v:Value):(bw ts d v).length=ts.length:=by cases d<;>simp[bw]
theorem EK {ts:aC}{d:Option Tmp}{v:Value}{t:Nat}(h:d≠some t):(bw ts d v)[t]?=ts[t]?:=by
 cases d with
 |none=>rfl
 |some d=>simp only[bw];rw[List.getElem?_set_ne];intro hh;exact h (by rw[hh])
theorem We {ts ba:aC}{d:Option Tmp}{v v':Value}{t:Nat}(hl:ts.length=ba.length)(h:ts[t]?=ba[t]?)(hv:d=some t→v=v'):(bw ts d v)[t]?=(bw ba d v')[t]?:=by
 by_cases hd:d=some t
 ·subst hd
  rw[hv rfl]
  simp only[bw,List.getElem?_set,if_true,hl]
 rw[EK hd,EK hd];exact h
theorem Wf (ts:aC){d e:Option Tmp}(v u:Value)(h:∀t,d=some t→e≠some t):bw (bw ts d v) e u=bw (bw ts e u) d v:=by
 cases d with
 |none=>rfl
 |some d=>
  cases e with
  |none=>rfl
  |some e=>
   have:d≠e:=fun hh=>h d rfl (by rw[hh])
   simp only[bw]
   rw[List.set_comm _ _ this]
def sD (ops:Array Oper)(i:Nat):Option Tmp:=(ops[i]?).bind (·.dst)
def eA (ops:Array Oper)(V:Nat→Value)(S:Nat→Bool)(bY:aC):Nat→aC
 |0=>bY
 |n+1=>bif S n then bw (eA ops V S bY n) (sD ops n) (V n) else eA ops V S bY n
section
variable {ops:Array Oper} {V V':Nat→Value} {S S':Nat→Bool} {bY:aC}
theorem J9:∀n,(eA ops V S bY n).length=bY.length
 |0=>rfl
 |n+1=>by simp only[eA];cases S n<;>simp[Wd,J9 n]
theorem yp:∀ {n},(∀i<n,S i=S' i)→(∀i<n,S i=true→V i=V' i)→eA ops V S bY n=eA ops V' S' bY n
 |0,_,_=>rfl
 |n+1,h,hv=>by
  simp only[eA]
  rw[← h n (by omega),yp (fun i hi=>h i (by omega)) (fun i hi=>hv i (by omega))]
  cases hs:S n with
  |false=>rfl
  |true=>rw[hv n (by omega) hs]
theorem Ka {t:Nat}:∀ {n},(∀j<n,sD ops j=some t→S j=S' j∧(S j=true→V j=V' j))→(eA ops V S bY n)[t]?=(eA ops V' S' bY n)[t]?
 |0,_=>rfl
 |n+1,h=>by
  have ih:=Ka (n:=n) (fun j hj=>h j (by omega))
  simp only[eA]
  by_cases hd:sD ops n=some t
  ·obtain⟨h1,h2⟩:=h n (by omega) hd
   rw[← h1]
   cases hs:S n with
   |false=>exact ih
   |true=>exact We (by rw[J9,J9]) ih (fun _=>h2 hs)
  have e:∀(b:Bool) (v:Value) (ts:aC),(bif b then bw ts (sD ops n) v else ts)[t]?=ts[t]?:=fun b v ts=>by
   cases b
   ·rfl
   exact EK hd
  rw[e,e];exact ih
theorem O0 {i:Nat}:∀ {n},i<n→S i=false→(∀j,i<j→j<n→S j=true→∀t,sD ops i=some t→sD ops j≠some t)→
  eA ops V (fun j=>S j||Nat.beq j i) bY n=bw (eA ops V S bY n) (sD ops i) (V i)
 |0,h,_,_=>by omega
 |n+1,h,hs,hd=>by
  simp only[eA]
  by_cases hi:i=n
  ·subst hi
   have:eA ops V (fun j=>S j||Nat.beq j i) bY i=eA ops V S bY i:=by
    refine yp (fun j hj=>?_) (fun _ _ _=>rfl)
    have:Nat.beq j i=false:=by rw[Bool.eq_false_iff];intro hh;have:=sf hh;omega
    simp[this]
   rw[this,hs]
   simp
  have hb:Nat.beq n i=false:=by rw[Bool.eq_false_iff];intro hh;have:=sf hh;omega
  rw[O0 (n:=n) (by omega) hs (fun j h1 h2=>hd j h1 (by omega)),hb,Bool.or_false]
  cases gn:S n with
  |false=>rfl
  |true=>exact Wf _ _ _ (hd n (by omega) (by omega) gn)
end
def w8 (ops:Array Oper)(o:Oper)(ts ba:aC):Prop:=∀t∈o.looksAt ops,ts[t]?=ba[t]?
theorem w8.eval {ops:Array Oper}{o:Oper}{ts ba:aC}(h:w8 ops o ts ba):∀x∈o.op.operands,cI ts x=cI ba x:=by
 intro x hx
 cases x with
 |tmp t=>
  have:=h t (List.mem_append_left _ (List.mem_filterMap.2 ⟨.tmp t,by simpa using hx,rfl⟩))
  simp only[cI,List.getD_eq_getElem?_getD,this]
 |_=>rfl
theorem w8.wanted {ops:Array Oper}{o:Oper}{ts ba:aC}(h:w8 ops o ts ba):Region.wanted o (l3 ops ts)=Region.wanted o (l3 ops ba):=by
 unfold Region.wanted
 cases hg:o.guard with
 |none=>rfl
 |some gw=>
  obtain⟨g,wt⟩:=gw
  have:l3 ops ts g=l3 ops ba g:=by
   unfold l3
   cases hd:(ops[g]?).bind (·.dst) with
   |none=>rfl
   |some d=>
    simp only[Option.bind_some]
    rw[h d (List.mem_append_right _ (by simp[hg,hd]))]
  simp only[this]
theorem Frame.ext {lo:Nat}{U aN:Mu}{h h1 h2:ae}{w w':World}(f:Frame lo U h w aN h1 w')(hg:∀o,h2.get o=h1.get o)(hn:h1.next=h2.next):Frame lo U h w aN h2 w' where
  le:=f.le
  size:=f.size
  next:=hn▸f.next
  kept:=f.kept
  own b hb:=by
    rintro⟨o,x,a,C,k1,k2,k3⟩
    exact f.own b hb ⟨o,x,a,C,k1,by rw[← hg];exact k2,k3⟩
  low o ho:=by rw[hg,f.low o ho]
  fR:=f.fR
  born o ho hx:=by rw[hg,f.born o ho hx]
  calm:=f.calm
theorem Rel.ext {U:Mu}{lo:Nat}{h h':ae}{w:World}(r:Rel U lo h w)(hg:∀o,h'.get o=h.get o)(hn:h.next=h'.next):Rel U lo h' w:=
 r.sub (Nat.le_of_eq hn) (fun o x hx=>by rw[← hg];exact hx) (Nat.le_refl _) (hn▸r.bA)
theorem Wg {U:Mu}{lo:Nat}{h:ae}{w:World}(r:Rel U lo h w){id:Nat}(hid:id<h.next)(hl:lo≤id)(hg:h.get id=none)(hm:U id=none)(ob:Obj)(C:Nat)(x:a7)
  (hx:fp (U.put id (w.heap.size,0,C)) (w.alloc ob) w.heap.size 0 C x) (hf:∀off,(w.alloc ob).frozen? ⟨w.heap.size,off,none⟩=false) :
  U.le (U.put id (w.heap.size,0,C))∧Rel (U.put id (w.heap.size,0,C)) lo (h.put id (some x)) (w.alloc ob)∧
  ∀iE h0 w0,Frame lo iE h0 w0 U h w→h0.next≤id→Frame lo iE h0 w0 (U.put id (w.heap.size,0,C)) (h.put id (some x)) (w.alloc ob):=by
 have hle:U.le (U.put id (w.heap.size,0,C)):=by
  intro o y hy
  have:o≠id:=by intro ho;subst ho;rw[hm] at hy;cases hy
  rw[Mu.iQ _ this];exact hy
 have hblk:∀o y b a C',h.get o=some y→U o=some (b,a,C')→b<w.heap.size:=fun o y b a C' hy hm=>by
  obtain⟨b',a',oy,h1,h2⟩:=r.be o y hy
  rw[hm] at h1;injection h1 with h1;injection h1 with h1 _;subst h1
  exact h2.rD
 refine⟨hle,⟨?_,?_,?_,?_,?_,?_⟩,fun iE h0 w0 f hb=>?_⟩
 ·intro o y hy
  rw[ae.dB _ _ _ _ hid] at hy
  by_cases ho:o=id
  ·subst ho
   simp at hy;subst hy
   exact⟨_,_,_,Mu.ct _ _ _,hx⟩
  simp[ho] at hy
  obtain⟨b,a,C',h1,h2⟩:=r.be o y hy
  exact⟨b,a,C',by rw[Mu.iQ _ ho];exact h1,(h2.mono hle).kept (heap_alloc_old _ _ h2.rD)⟩
 ·intro o o' y y' b a C' a' oy hl hy oz hm dZ
  rw[ae.dB _ _ _ _ hid] at hy oz
  by_cases ho:o=id
  ·by_cases lg:o'=id
   ·rw[ho,lg]
   simp[lg] at oz
   rw[Mu.iQ _ lg] at dZ
   have:=hblk o' y' _ _ _ oz dZ
   subst ho;rw[Mu.ct] at hm;injection hm with hm;injection hm with hm _;omega
  simp[ho] at hy
  rw[Mu.iQ _ ho] at hm
  have h1:=hblk o y _ _ _ hy hm
  by_cases lg:o'=id
  ·subst lg;rw[Mu.ct] at dZ;injection dZ with dZ;injection dZ with dZ _;omega
  simp[lg] at oz
  rw[Mu.iQ _ lg] at dZ
  exact r.inj o o' y y' b a C' a' oy hl hy oz hm dZ
 ·intro o y hy
  by_cases ho:o=id
  ·subst ho;simpa using hid
  rw[Mu.iQ _ ho] at hy
  have:=r.ng o y hy
  simpa using this
 ·intro o y b a C' hl hy hm off
  rw[ae.dB _ _ _ _ hid] at hy
  by_cases ho:o=id
  ·subst ho
   rw[Mu.ct] at hm;injection hm with hm;injection hm with hm _;subst hm
   exact hf off
  simp[ho] at hy
  rw[Mu.iQ _ ho] at hm
  rw[xW (heap_alloc_old _ _ (hblk o y _ _ _ hy hm))]
  exact r.eo o y b a C' hl hy hm off
 ·exact r.bA
 ·refine r.jA.step (by simp) (fun b hb _=>heap_alloc_old _ _ hb) fun o y b a C' hl hy hm hb=>?_
  rw[ae.dB _ _ _ _ hid] at hy
  by_cases ho:o=id
  ·subst ho;rw[Mu.ct] at hm;injection hm with hm;injection hm with hm _;omega
  simp[ho] at hy
  rw[Mu.iQ _ ho] at hm
  exact⟨o,y,a,C',hl,hy,hm⟩
 refine⟨Mu.le_trans f.le hle,Nat.le_trans f.size (by simp),f.next,fun b hb hn=>?_,fun b hb=>?_,fun o ho=>?_,fun o ho=>?_,fun o ho hn=>?_,⟨f.calm.1,f.calm.2,f.calm.3,f.calm.4⟩⟩
 ·rw[heap_alloc_old _ _ (Nat.lt_of_lt_of_le hb f.size)];exact f.kept b hb hn
 ·rintro⟨o,y,a,C',hl,hy,hm⟩
  rw[ae.dB _ _ _ _ hid] at hy
  by_cases ho:o=id
  ·subst ho;rw[Mu.ct] at hm;injection hm with hm;injection hm with hm _
   have:=f.size;omega
  simp[ho] at hy
  rw[Mu.iQ _ ho] at hm
  exact f.own b hb ⟨o,y,a,C',hl,hy,hm⟩
 ·rw[ae.dB _ _ _ _ hid,if_neg (by omega)];exact f.low o ho
 ·rw[Mu.iQ _ (by omega)];exact f.fR o ho
 rw[ae.dB _ _ _ _ hid,if_neg (by omega)];exact f.born o ho hn
theorem Wh {U aN:Mu}{lo:Nat}{h hm h' hj:ae}{w w':World}(r:Rel U lo h w)(hn:hm.next=h.next)(hs:∀o x,hm.get o=some x→h.get o=some x)
  (bC:∀o,o<lo→hm.get o=h.get o)
  (r':Rel aN lo h' w') (f:Frame lo U hm w aN h' w') (Kc:hj.next=h'.next)
  (dN:∀o,hj.get o=h'.get o∨(lo≤o∧hm.get o=none∧∃x,h.get o=some x∧hj.get o=some x)) :
  Rel aN lo hj w'∧Frame lo U h w aN hj w':=by
 have aside:∀o x b a C,lo≤o→hm.get o=none→h.get o=some x→U o=some (b,a,C)→¬xV U lo hm b:=by
  rintro o x b a C cw h0 hx HJ ⟨o',x',a',C',k1,k2,k3⟩
  have:=r.inj o o' x x' b a C a' C' cw hx (hs _ _ k2) HJ k3
  subst this
  rw[h0] at k2;cases k2
 have Df:∀ {o x},hj.get o=some x→h'.get o=some x∨(lo≤o∧hm.get o=none∧h.get o=some x):=fun {o x} hx=>by
  rcases dN o with h1|⟨h1,h2,y,h3,h4⟩
  ·exact .inl (by rw[← h1];exact hx)
  rw[h4] at hx;injection hx with hx;subst hx;exact .inr ⟨h1,h2,h3⟩
 have ju:∀ {o x},lo≤o→hm.get o=none→h.get o=some x→∃b a C,U o=some (b,a,C)∧aN o=some (b,a,C)∧b<w.heap.size∧w'.heap[b]?=w.heap[b]?∧fp U w b a C x:=fun {o x} h1 h2 h3=>by
  obtain⟨b,a,C,k1,k2⟩:=r.be o x h3
  exact⟨b,a,C,k1,f.le _ _ k1,k2.rD,f.kept b k2.rD (aside o x b a C h1 h2 h3 k1),k2⟩
 have zU:∀ {o o' x x' b a C a' C'},h'.get o=some x→lo≤o'→hm.get o'=none→h.get o'=some x'→aN o=some (b,a,C)→aN o'=some (b,a',C')→o=o':=fun {o o' x x' b a C a' C'} k1 k2 k3 k4 k5 k6=>by
  obtain⟨b2,a2,C2,g1,g2,g3,g4,_⟩:=ju k2 k3 k4
  rw[k6] at g2
  have Wi:b=b2:=by injection g2 with g2;injection g2
  subst Wi
  by_cases hl:lo≤o
  ·exact absurd (f.own b g3 ⟨o,x,a,C,hl,k1,k5⟩) (aside o' x' b a2 C2 k2 k3 k4 g1)
  have hl:o<lo:=by omega
  have hx:h.get o=some x:=by rw[← bC o hl,← f.low o hl];exact k1
  have aU:=ae.fC hx
  have kC:U o=some (b,a,C):=by rw[← f.fR o (by omega)];exact k5
  exact(r.inj o' o x' x b a2 C2 a C k2 k4 hx g1 kC).symm
 refine Rel.Jm r (fun o x hx=>?_) (fun o o' x x' b a C a' C' hl hx tD cj gu=>?_) (fun o x hx=>Kc▸r'.ng o x hx) (fun o x b a C hl hx cj off=>?_) (Kc▸r'.bA)
  ⟨f.le,f.size,?_,fun b hb Bk=>f.kept b hb (fun⟨o,x,a,C,k1,k2,k3⟩=>Bk ⟨o,x,a,C,k1,hs _ _ k2,k3⟩),fun b hb=>?_,fun o ho=>?_,fun o ho=>f.fR o (by omega),fun o ho hx=>?_,f.calm⟩
 ·rcases Df hx with h1|⟨h1,h2,h3⟩
  ·exact r'.be o x h1
  obtain⟨b,a,C,g1,g2,g3,g4,g5⟩:=ju h1 h2 h3
  exact⟨b,a,C,g2,(g5.mono f.le).kept g4⟩
 ·rcases Df hx with h1|⟨h1,h2,h3⟩
  ·rcases Df tD with k1|⟨k1,k2,k3⟩
   ·exact r'.inj o o' x x' b a C a' C' hl h1 k1 cj gu
   exact zU h1 k1 k2 k3 cj gu
  rcases Df tD with k1|⟨k1,k2,k3⟩
  ·exact(zU k1 h1 h2 h3 gu cj).symm
  obtain⟨b1,a1,C1,g1,g2,_⟩:=ju h1 h2 h3
  obtain⟨b2,a2,C2,l1,l2,_⟩:=ju k1 k2 k3
  rw[cj] at g2;rw[gu] at l2
  injection g2 with g2;injection g2 with g2 _
  injection l2 with l2;injection l2 with l2 _
  subst g2;subst l2
  exact r.inj o o' x x' b a1 C1 a2 C2 hl h3 k3 g1 l1
 ·rcases Df hx with h1|⟨h1,h2,h3⟩
  ·exact r'.eo o x b a C hl h1 cj off
  obtain⟨b1,a1,C1,g1,g2,g3,g4,g5⟩:=ju h1 h2 h3
  rw[cj] at g2;injection g2 with g2;injection g2 with g2 _;subst g2
  rw[xW g4]
  exact r.eo o x b a1 C1 hl h3 g1 off
 ·rw[Kc,← hn];exact f.next
 ·rintro⟨o,x,a,C,k1,k2,k3⟩
  rcases Df k2 with h1|⟨h1,h2,h3⟩
  ·obtain⟨o2,x2,a2,C2,g1,g2,g3⟩:=f.own b hb ⟨o,x,a,C,k1,h1,k3⟩
   exact⟨o2,x2,a2,C2,g1,hs _ _ g2,g3⟩
  obtain⟨b1,a1,C1,g1,g2,_⟩:=ju h1 h2 h3
  rw[k3] at g2;injection g2 with g2;injection g2 with g2 _;subst g2
  exact⟨o,x,a1,C1,h1,h3,g1⟩
 ·rcases dN o with h1|⟨h1,_⟩
  ·rw[h1,f.low o ho,bC o ho]
  omega
 rcases dN o with h1|⟨h1,h2,y,h3,h4⟩
 ·rw[h1]
  refine f.born o (by omega) ?_
  cases hq:hm.get o with
  |none=>rfl
  |some z=>rw[hs _ _ hq] at hx;cases hx
 rw[hx] at h3;cases h3
structure yq (ops:Array Oper) (b:Nat→Nat→Bool) (W As:List Nat) (sl:Nat→Nat) (nA:Nat):Prop where
  lt:∀i j,b i j=true→i<j
  Kd:∀j o,ops[j]?=some o→∀e∈o.after,Region.binds .any e=true→e.on<j
  Wj:∀i j o,ops[j]?=some o→b i j=true→∃e∈o.after,Region.binds .any e=true∧(e.on=i∨b i e.on=true)
  chain:W.Pairwise (fun w w'=>b w w'=true)
  Wl:∀w∈W,w<ops.size
  alt:∀i∈As,i<ops.size
  aw:∀i∈As,i∉W
  Wm:∀i∈As,sl i<nA
  jZ:∀i∈As,∀j∈As,sl i=sl j→i=j
  names:∀i j oi oj,ops[i]?=some oi→ops[j]?=some oj→i<j→oi.apart ops oj=true∨b i j=true
section
variable (P:Program) (lo:Nat) (ops:Array Oper) (b:Nat→Nat→Bool) (W As:List Nat) (sl:Nat→Nat) (base:Nat) (bY:aC) (Q:kD)
def pF (V:Nat→Value)(FO:Nat→Option a7)(M:Nat→Bool)(H:ae)(m:Nat)(o:Oper):Prop:=
  let HK:=eA ops V (fun j=>b j m) bY ops.size
  (Region.wanted o (l3 ops HK)=true∧
    ((tR o.op=true∧m∉As∧FO m=none∧∃h1,cn P lo HK (bF base sl FO (fun i=>b i m&&!M i) As H) o.op=some (V m,h1))∨
     (∃x,m∈As∧FO m=some x∧ic P HK (base+sl m) o.op=some (V m,x))))∨
  (Region.wanted o (l3 ops HK)=false∧V m=Go.undef∧FO m=none)
def PC (br:List Nat)(last:Option Nat)(V:Nat→Value)(FO:Nat→Option a7)(M:Nat→Bool)(H:ae):Prop:=
 ∀m o,ops[m]?=some o→m∉W→(∀w∈br,b w m=false)→(∀l,last=some l→b m l=false)→pF P lo ops b As sl base bY V FO M H m o
def Ext (br:List Nat)(V V':Nat→Value)(FO dR:Nat→Option a7):Prop:=
 ∀i,i<ops.size→i∉br→(∀w∈br,b w i=false)→V' i=V i∧dR i=FO i
def DR:List Nat→Option Nat→(Nat→Value)→(Nat→Option a7)→(Nat→Bool)→ae→Prop
 |[],last,V,FO,M,H=>PC P lo ops b W As sl base bY [] last V FO M H∧Q .normal (eA ops V (fun _=>true) bY ops.size) (bF base sl FO (fun i=>!M i) As H)
 | wr :: r, last, V, FO, M, H => PC P lo ops b W As sl base bY (wr :: r) last V FO M H ∧ ∀ o, ops[wr]? = some o →
   (Region.wanted o (l3 ops (eA ops V (fun j=>b j wr) bY ops.size))=true→∀ts,w8 ops o ts (eA ops V (fun j=>b j wr) bY ops.size)→
    oM P lo o ts (bF base sl FO (fun i=>b i wr&&!M i) As H) (fun ba h'=>∃V' dR,Ext ops b (wr::r) V V' FO dR∧ba=bw ts o.dst (V' wr)∧DR r (some wr) V' dR (fun i=>M i||b i wr) h'))∧
   (Region.wanted o (l3 ops (eA ops V (fun j=>b j wr) bY ops.size))=false→∃V' dR,Ext ops b (wr::r) V V' FO dR∧V' wr=Go.undef∧DR r (some wr) V' dR M H)
def Lf (listed:Array Bool):Nat→Bool:=fun j=>listed.getD j false
structure uY (nA:Nat) (iE:Mu) (h0:ae) (w0:World) (ds:List Deferred) (br:List Nat) (last:Option Nat) (V:Nat→Value) (FO:Nat→Option a7) (M:Nat→Bool) (H:ae) (listed:Array Bool) (U:Mu) (a:Act) (w:World):Prop where
  sz:listed.size=ops.size
  closed:∀i j,b i j=true→Lf listed j=true→Lf listed i=true
  wr:∃done,done++br=W∧(∀w∈done,Lf listed w=true)∧(∀w∈br,Lf listed w=false)
  O1:∀l,last=some l→Lf listed l=true
  Bl:∀i,M i=true→Lf listed i=true
  ht:dd U (eA ops V (Lf listed) bY ops.size) a.tmps
  hr:Rel U lo (bF base sl FO (fun i=>Lf listed i&&!M i) As H) w
  fr:Frame lo iE h0 w0 U (bF base sl FO (fun i=>Lf listed i&&!M i) As H) w
  un:∀i∈As,Lf listed i=false→U (base+sl i)=none
  ds:a.defers=ds
  hn:base+nA≤H.next
  hH:∀i∈As,M i=false→H.get (base+sl i)=none
  cw:lo≤base
  hb:h0.next≤base
end
theorem Wn {listed:Array Bool}{i:Nat}(hi:i<listed.size):Lf (listed.setIfInBounds i true)=fun j=>Lf listed j||Nat.beq j i:=by
 funext j
 unfold Lf
 by_cases h:i=j
 ·subst h;simp[hi]
 rw[getD_set_ne false h]
 have:Nat.beq j i=false:=by rw[Bool.eq_false_iff];intro hh;exact h (sf hh).symm
 simp[this]
def rI (listed:Array Bool):Nat→Nat
 |0=>0
 |n+1=>(bif listed.getD n true then 0 else 1)+rI listed n
theorem O2 {listed:Array Bool}{i:Nat}:∀ {n},i<n→i<listed.size→listed.getD i true=false→rI listed n=rI (listed.setIfInBounds i true) n+1
 |0,h,_,_=>by omega
 |n+1,h,hs,hi=>by
  simp only[rI]
  by_cases di:i=n
  ·subst di
   have e:∀m,m≤i→rI (listed.setIfInBounds i true) m=rI listed m:=by
    intro m hm
    induction m with
    |zero=>rfl
    |succ m ih=>simp only[rI];rw[ih (by omega),getD_set_ne true (by omega)]
   rw[e i (Nat.le_refl _),hi]
   have:(listed.setIfInBounds i true).getD i true=true:=by simp[hs]
   rw[this]
   simp only[aJ,bl];omega
  rw[O2 (n:=n) (by omega) hs hi,getD_set_ne true di];omega
theorem O3 {listed:Array Bool}:∀ {n},rI listed n=0→∀i<n,listed.getD i true=true
 |0,_,i,h=>by omega
 |n+1,h,i,hi=>by
  simp only[rI] at h
  cases hl:listed.getD n true with
  |false=>simp only[hl,bl] at h;omega
  |true=>
   by_cases di:i=n
   ·subst di;exact hl
   exact O3 (n:=n) (by simp only[hl,aJ] at h;omega) i (by omega)
theorem zV {base:Nat}{sl:Nat→Nat}{FO dR:Nat→Option a7}{S S':Nat→Bool}:∀ {as:List Nat} {h:ae},(∀k∈as,(bif S k then FO k else none)=(bif S' k then dR k else none))→bF base sl FO S as h=bF base sl dR S' as h
 |[],_,_=>rfl
 |i::r,h,hc=>by
  have ih:=zV (base:=base) (sl:=sl) (as:=r) (h:=h) (fun k hk=>hc k (List.mem_cons_of_mem _ hk))
  have h0:=hc i (by simp)
  have e:∀(S:Nat→Bool) (FO:Nat→Option a7),bF base sl FO S (i::r) h=(match (bif S i then FO i else none) with|some x=>(bF base sl FO S r h).put (base+sl i) (some x)|none=>bF base sl FO S r h):=fun S FO=>by
   simp only[bF]
   cases S i<;>rfl
  rw[e,e,h0,ih]
section
variable {P:Program} {lo:Nat} {ops:Array Oper} {b:Nat→Nat→Bool} {W As:List Nat} {sl:Nat→Nat} {nA base:Nat} {bY:aC} {Q:kD}
theorem DR.pc {br:List Nat}{last:Option Nat}{V:Nat→Value}{FO:Nat→Option a7}{M:Nat→Bool}{H:ae}(h:DR P lo ops b W As sl base bY Q br last V FO M H):PC P lo ops b W As sl base bY br last V FO M H:=by
 cases br with
 |nil=>exact h.1
 |cons _ _=>exact h.1
theorem O4 (st:yq ops b W As sl nA){L:Nat→Bool}{V:Nat→Value}{i:Nat}{o:Oper}(ho:ops[i]?=some o)(hi:L i=false)(hp:∀j,b j i=true→L j=true)(hc:∀i j,b i j=true→L j=true→L i=true) :
  w8 ops o (eA ops V L bY ops.size) (eA ops V (fun j=>b j i) bY ops.size):=by
 intro t ht
 refine Ka fun j hj hd=>?_
 suffices h:L j=b j i by exact⟨h,fun _=>rfl⟩
 obtain⟨oj,zW⟩:∃oj,ops[j]?=some oj:=⟨ops[j],by simp[hj]⟩
 have w9:oj.dst=some t:=by simpa[sD,zW] using hd
 rcases Nat.lt_trichotomy j i with h|h|h
 ·have hb:b j i=true:=by
   rcases st.names j i oj o zW ho h with h1|h1
   ·exact absurd ht ((Oper.apart_spec h1).1 t w9)
   exact h1
  rw[hb,hp j hb]
 ·subst h
  rw[hi]
  cases hb:b j j with
  |false=>rfl
  |true=>have:=st.lt _ _ hb;omega
 have hb:b i j=true:=by
  rcases st.names i j o oj ho zW h with h1|h1
  ·exact absurd ht ((Oper.apart_spec h1).2.2 t w9)
  exact h1
 have h1:L j=false:=by
  cases hl:L j with
  |false=>rfl
  |true=>rw[hc _ _ hb hl] at hi;cases hi
 rw[h1]
 cases cK:b j i with
 |false=>rfl
 |true=>have:=st.lt _ _ cK;omega
theorem Ke (st:yq ops b W As sl nA){L:Nat→Bool}{V:Nat→Value}{i:Nat}{o:Oper}(ho:ops[i]?=some o)(hi:L i=false)(hc:∀i j,b i j=true→L j=true→L i=true) :
  eA ops V (fun j=>L j||Nat.beq j i) bY ops.size=bw (eA ops V L bY ops.size) o.dst (V i):=by
 have aU:i<ops.size:=(Array.getElem?_eq_some_iff.1 ho).1
 have hd:sD ops i=o.dst:=by simp[sD,ho]
 rw[← hd]
 refine O0 aU hi fun j h1 h2 hl t ht Kf=>?_
 obtain⟨oj,zW⟩:∃oj,ops[j]?=some oj:=⟨ops[j],by simp[h2]⟩
 rcases st.names i j o oj ho zW h1 with h3|h3
 ·exact(Oper.apart_spec h3).2.1 t (by rw[← hd];exact ht) (by simpa[sD,zW] using Kf)
 rw[hc _ _ h3 hl] at hi;cases hi
theorem nv {i j:Nat}(h:j≠i):Nat.beq j i=false:=by
 rw[Bool.eq_false_iff];intro hh;exact h (sf hh)
theorem uY.advance (st:yq ops b W As sl nA){iE:Mu}{h0:ae}{w0:World}{ds:List Deferred}{br uZ:List Nat}{last u3:Option Nat}{V V':Nat→Value}{FO dR:Nat→Option a7}{M M':Nat→Bool}{H H':ae}{listed:Array Bool}{U aN:Mu}{a a':Act}{w w':World}{i:Nat}{o:Oper}
  (d:uY lo ops b W As sl base bY nA iE h0 w0 ds br last V FO M H listed U a w) (ho:ops[i]?=some o) (hi:Lf listed i=false) (hp:∀j,b j i=true→Lf listed j=true)
  (sE:(uZ=br∧i∉W)∨br=i::uZ) (EL:u3=last∨u3=some i) (hM:∀j,M' j=true→M j=true∨b j i=true) (hV:∀j,Lf listed j=true→V' j=V j)
  (ht:dd aN (bw (eA ops V (Lf listed) bY ops.size) o.dst (V' i)) a'.tmps) (yd:a'.defers=ds)
  (hr:Rel aN lo (bF base sl dR (fun j=>(Lf listed j||Nat.beq j i)&&!M' j) As H') w') (fr:Frame lo iE h0 w0 aN (bF base sl dR (fun j=>(Lf listed j||Nat.beq j i)&&!M' j) As H') w')
  (un:∀j∈As,Lf listed j=false→j≠i→aN (base+sl j)=none) (hn:base+nA≤H'.next) (hH:∀j∈As,M' j=false→H'.get (base+sl j)=none) :
  uY lo ops b W As sl base bY nA iE h0 w0 ds uZ u3 V' dR M' H' (listed.setIfInBounds i true) aN a' w':=by
 have aU:i<ops.size:=(Array.getElem?_eq_some_iff.1 ho).1
 have rJ:=Wn (listed:=listed) (i:=i) (by rw[d.sz];exact aU)
 have uQ:Nat.beq i i=true:=Nat.beq_refl i
 obtain⟨done,jG,j3,oO⟩:=d.wr
 refine⟨by simpa using d.sz,fun p q yr hq=>?_,?_,fun l hl=>?_,fun j hj=>?_,?_,by rw[rJ];exact hr,by rw[rJ];exact fr,fun j hj hl=>?_,yd,hn,hH,d.cw,d.hb⟩
 ·rw[rJ] at hq ⊢
  simp only[Bool.or_eq_true] at hq ⊢
  left
  rcases hq with hq|hq
  ·exact d.closed p q yr hq
  rw[sf hq] at yr;exact hp p yr
 ·rcases sE with⟨rfl,u4⟩|sE
  ·refine⟨done,jG,fun w hw=>by rw[rJ];simp[j3 w hw],fun w hw=>?_⟩
   have:w≠i:=by rintro rfl;exact u4 (jG▸List.mem_append_right _ hw)
   rw[rJ];simp[oO w hw,nv this]
  refine⟨done++[i],by rw[← jG,sE];simp,fun w hw=>?_,fun w hw=>?_⟩
  ·rw[rJ]
   rcases List.mem_append.1 hw with h|h
   ·simp[j3 w h]
   have:w=i:=by simpa using h
   subst this;simp
  have zX:=st.chain
  rw[← jG,sE,List.pairwise_append] at zX
  have hb:=(List.pairwise_cons.1 zX.2.1).1 w hw
  have:=st.lt _ _ hb
  rw[rJ];simp[oO w (by rw[sE];exact List.mem_cons_of_mem _ hw),nv (show w≠i by omega)]
 ·rw[rJ]
  rcases EL with h|h
  ·simp[d.O1 l (by rw[← h];exact hl)]
  rw[h] at hl;injection hl with hl;subst hl;simp
 ·rw[rJ]
  rcases hM j hj with h|h
  ·simp[d.Bl j h]
  simp[hp j h]
 ·rw[rJ,Ke st ho hi d.closed]
  rw[yp (V':=V) (S':=Lf listed) (fun _ _=>rfl) (fun j _ hl=>hV j hl)]
  exact ht
 rw[rJ] at hl
 simp only[Bool.or_eq_false_iff] at hl
 exact un j hj hl.1 (by rintro rfl;rw[uQ] at hl;cases hl.2)
theorem Wo (st:yq ops b W As sl nA){F:Fence}(hF:gk F){n:Nat}{iE:Mu}{h0:ae}{w0:World}{ds:List Deferred} :
  ∀(fuel:Nat) (listed:Array Bool) (br:List Nat) (last:Option Nat) (V:Nat→Value) (FO:Nat→Option a7) (M:Nat→Bool) (H:ae) (U:Mu) (a:Act) (w:World),
   uY lo ops b W As sl base bY nA iE h0 w0 ds br last V FO M H listed U a w→DR P lo ops b W As sl base bY Q br last V FO M H→rI listed ops.size=fuel→
   wpAnyIn F n P .any ops (fu lo iE h0 w0 ds Q) fuel listed a w:=by
 intro fuel
 have fin:∀(listed:Array Bool) (br:List Nat) (last:Option Nat) (V:Nat→Value) (FO:Nat→Option a7) (M:Nat→Bool) (H:ae) (U:Mu) (a:Act) (w:World),
   uY lo ops b W As sl base bY nA iE h0 w0 ds br last V FO M H listed U a w→DR P lo ops b W As sl base bY Q br last V FO M H→Region.ready .any ops listed=[]→fu lo iE h0 w0 ds Q .normal a w:=by
  intro listed br last V FO M H U a w d hD mO
  have bg:∀i,i<ops.size→Lf listed i=true:=by
   intro i
   induction i using Nat.strongRecOn with
   |_ i ih=>
    intro hi
    cases hl:Lf listed i with
    |true=>rfl
    |false=>
     have:i∈Region.ready .any ops listed:=by
      refine mem_ready.2 ⟨?_,ops[i],by simp[hi],fun e he hb=>?_⟩
      ·unfold Lf at hl
       have:i<listed.size:=by rw[d.sz];exact hi
       simp[this] at hl ⊢;exact hl
      have:=st.Kd i ops[i] (by simp[hi]) e he hb
      exact ih e.on this (by omega)
     rw[mO] at this;cases this
  cases br with
  |cons w1 r=>
   obtain⟨done,jG,j3,oO⟩:=d.wr
   have h1:=oO w1 (by simp)
   rw[bg w1 (st.Wl w1 (by rw[← jG];simp))] at h1;cases h1
  |nil=>
   have e1:eA ops V (fun _=>true) bY ops.size=eA ops V (Lf listed) bY ops.size:=yp (fun i hi=>(bg i hi).symm) (fun _ _ _=>rfl)
   have e2:bF base sl FO (fun i=>!M i) As H=bF base sl FO (fun i=>Lf listed i&&!M i) As H:=zV fun k hk=>by rw[bg k (st.alt k hk)];simp
   refine⟨_,_,U,d.ht,d.hr,d.fr,d.ds,?_⟩
   rw[← e1,← e2];exact hD.2
 induction fuel with
 |zero=>
  intro listed br last V FO M H U a w d hD hu
  have mO:Region.ready .any ops listed=[]:=by
   rw[List.eq_nil_iff_forall_not_mem]
   intro i hi
   obtain⟨h1,o,ho,_⟩:=mem_ready.1 hi
   rw[O3 hu i (Array.getElem?_eq_some_iff.1 ho).1] at h1;cases h1
  exact⟨mO,fin listed br last V FO M H U a w d hD mO⟩
 |succ fuel ih=>
  intro listed br last V FO M H U a w d hD hu
  refine⟨fin listed br last V FO M H U a w d hD,fun i hi=>?_⟩
  obtain⟨yt,o,ho,bg⟩:=mem_ready.1 hi
  have aU:i<ops.size:=(Array.getElem?_eq_some_iff.1 ho).1
  have EM:i<listed.size:=by rw[d.sz];exact aU
  have cT:Lf listed i=false:=by unfold Lf;simp[EM] at yt ⊢;exact yt
  have hp:∀j,b j i=true→Lf listed j=true:=fun j hj=>by
   obtain⟨e,he,hb,h1⟩:=st.Wj j i o ho hj
   rcases h1 with rfl|h1
   ·exact bg e he hb
   exact d.closed j e.on h1 (bg e he hb)
  have qk:rI (listed.setIfInBounds i true) ops.size=fuel:=by have:=O2 aU EM yt;omega
  have dQ:=O4 (bY:=bY) st (V:=V) ho cT hp d.closed
  have hy:yielded ops a.tmps=l3 ops (eA ops V (Lf listed) bY ops.size):=funext (OR d.ht)
  have l4:∀j∈As,base+sl j<H.next:=fun j hj=>by have:=st.Wm j hj;have:=d.hn;omega
  obtain⟨done,jG,j3,oO⟩:=d.wr
  unfold wpOpIn
  simp only[ho,hy]
  by_cases u4:i∈W
  · -- a writer
   have zY:i∈br:=by
    rw[← jG] at u4
    rcases List.mem_append.1 u4 with h|h
    ·rw[j3 i h] at cT;cases cT
    exact h
   have EN:∃r,br=i::r:=by
    cases br with
    |nil=>cases zY
    |cons w1 r=>
     rcases List.mem_cons.1 zY with rfl|h
     ·exact⟨r,rfl⟩
     have zX:=st.chain
     rw[← jG,List.pairwise_append] at zX
     have:=hp w1 ((List.pairwise_cons.1 zX.2.1).1 i h)
     rw[oO w1 (by simp)] at this;cases this
   obtain⟨r,rfl⟩:=EN
   have yu:i∉As:=fun h=>st.aw i h u4
   have HL:∀j,Lf listed j=true→j<ops.size:=fun j hj=>by
    rcases Nat.lt_or_ge j ops.size with h|h
    ·exact h
    unfold Lf at hj
    have:¬j<listed.size:=by rw[d.sz];omega
    simp[this] at hj
   have known:∀j,Lf listed j=true→j∉i::r∧∀w∈i::r,b w j=false:=fun j hj=>by
    refine⟨fun h=>(by rw[oO j h] at hj;cases hj),fun w hw=>?_⟩
    cases hb:b w j with
    |false=>rfl
    |true=>have:=d.closed w j hb hj;rw[oO w hw] at this;cases this
   obtain⟨_,EO⟩:=hD
   obtain⟨rK,ft⟩:=EO o ho
   by_cases hw:Region.wanted o (l3 ops (eA ops V (Lf listed) bY ops.size))=true
   ·simp only[hw,if_true]
    rw[dQ.wanted] at hw
    have hA:=rK hw _ dQ
    have u5:∀o' x,(bF base sl FO (fun k=>b k i&&!M k) As H).get o'=some x→(bF base sl FO (fun k=>Lf listed k&&!M k) As H).get o'=some x:=by
     intro o' x hx
     rcases OZ l4 st.jZ hx with⟨k,hk,hs,rfl,hf⟩|⟨hx,_⟩
     ·simp only[bR] at hs
      exact zT l4 st.jZ hk (by simp only[hp k hs.1,hs.2,Bool.and_self]) hf
     rw[w6 l4];· exact hx
     ·rintro k hk hs _ rfl
      simp only[bR,Bool.not_eq_true'] at hs
      rw[d.hH k hk hs.2] at hx;cases hx
    have Wp:Rel U lo (bF base sl FO (fun k=>b k i&&!M k) As H) w:=d.hr.sub (by rw[nu,nu];exact Nat.le_refl _) u5 (Nat.le_refl _) (by have:=d.hr.bA;rw[nu] at this ⊢;exact this)
    refine Oper.wpIn_mono (fun a' w' hl=>?_) (hA F hF n U a w _ d.ht Wp)
    obtain⟨ba,h',aN,Kg,oF,Bm,yd,V',dR,u6,rfl,cy⟩:=hl
    have bC:∀(S:Nat→Bool) o',o'<lo→(bF base sl FO S As H).get o'=H.get o':=fun S o' lg=>w6 l4 (fun k hk _ _=>by have:=d.cw;omega)
    have mS:H.next≤h'.next:=by have:=Bm.next;rwa [nu] at this
    have EP:∀j∈As,base+sl j<h'.next:=fun j hj=>by have:=l4 j hj;omega
    have hj:=Wh (hj:=bF base sl dR (fun j=>(Lf listed j||Nat.beq j i)&&!(M j||b j i)) As h') d.hr (by rw[nu,nu]) u5 (fun o' lg=>by rw[bC _ o' lg,bC _ o' lg]) oF Bm (by rw[nu]) (fun o'=>by
     by_cases he:∃j∈As,((Lf listed j||Nat.beq j i)&&!(M j||b j i))=true∧dR j≠none∧o'=base+sl j
     ·obtain⟨j,ER,hs,hf,rfl⟩:=he
      have gP:j≠i:=by rintro rfl;exact yu ER
      cases w7:dR j with
      |none=>exact absurd w7 hf
      |some x=>
       have Kh:=zT (h:=h') (S:=fun j=>(Lf listed j||Nat.beq j i)&&!(M j||b j i)) EP st.jZ ER hs w7
       simp only[nv gP,Bool.or_false,bR,Bool.not_eq_true',Bool.or_eq_false_iff] at hs
       have hk:=known j hs.1
       have HM:FO j=some x:=by rw[← (u6 j (HL j hs.1) hk.1 hk.2).2,w7]
       refine .inr ⟨by have:=d.cw;omega,?_,x,zT l4 st.jZ ER (by simp only[hs.1,hs.2.1];rfl) HM,Kh⟩
       rw[w6 l4];· exact d.hH j ER hs.2.1
       ·intro k hk ql _ heq
        have:=st.jZ j ER k hk (by omega)
        subst this
        simp[hs.2.2] at ql
     exact .inl (w6 EP fun k hk hs hf heq=>he ⟨k,hk,hs,hf,heq⟩))
    refine ih _ r (some i) V' dR (fun j=>M j||b j i) h' aN a' w' (d.advance st ho cT hp (.inr rfl) (.inr rfl) (fun j hj=>by simpa using hj) (fun j hj=>(u6 j (HL j hj) (known j hj).1 (known j hj).2).1) Kg (by rw[yd,d.ds]) hj.1 (d.fr.trans hj.2) ?_ (by have:=d.hn;omega) ?_) cy qk
    ·intro j hj hl gP
     rw[Bm.fR _ (by rw[nu];exact l4 j hj)]
     exact d.un j hj hl
    intro j hj hm
    simp only[Bool.or_eq_false_iff] at hm
    refine Bm.born _ (by rw[nu];exact l4 j hj) ?_
    rw[w6 l4];· exact d.hH j hj hm.1
    ·intro k hk ql _ heq
     have:=st.jZ j hj k hk (by omega)
     subst this
     simp[hm.2] at ql
   simp only[hw,if_false,Bool.false_eq_true]
   rw[dQ.wanted,Bool.not_eq_true] at hw
   obtain⟨V',dR,u6,hv,cy⟩:=ft hw
   refine⟨Bh F hF,?_⟩
   have e:bF base sl FO (fun k=>Lf listed k&&!M k) As H=bF base sl dR (fun j=>(Lf listed j||Nat.beq j i)&&!M j) As H:=zV fun k hk=>by
    have mu:k≠i:=by rintro rfl;exact yu hk
    simp only[nv mu,Bool.or_false]
    cases hl:Lf listed k with
    |false=>rfl
    |true=>rw[(u6 k (HL k hl) (known k hl).1 (known k hl).2).2]
   refine ih _ r (some i) V' dR M H U _ w (d.advance st ho cT hp (.inr rfl) (.inr rfl) (fun j hj=>.inl hj) (fun j hj=>(u6 j (HL j hj) (known j hj).1 (known j hj).2).1) ?_ (by rw[put_defers];exact d.ds) (e▸d.hr) (e▸d.fr) (fun j hj hl _=>d.un j hj hl) d.hn d.hH) cy qk
   rw[hv];exact Bg d.ht .undef o.dst
  · -- no writer
   have j4:∀w∈br,b w i=false:=fun w1 mT=>by
    cases hb:b w1 i with
    |false=>rfl
    |true=>have:=hp w1 hb;rw[oO w1 mT] at this;cases this
   have iT:∀l,last=some l→b i l=false:=fun l hl=>by
    cases hb:b i l with
    |false=>rfl
    |true=>rw[d.closed i l hb (d.O1 l hl)] at cT;cases cT
   have Bn:=hD.pc i o ho u4 j4 iT
   have same:FO i=none→bF base sl FO (fun k=>Lf listed k&&!M k) As H=bF base sl FO (fun j=>(Lf listed j||Nat.beq j i)&&!M j) As H:=fun hf=>zV fun k hk=>by
    by_cases mu:k=i
    ·subst mu
     rw[hf]
     cases (Lf listed k&&!M k)<;>cases ((Lf listed k||Nat.beq k k)&&!M k)<;>rfl
    simp only[nv mu,Bool.or_false]
   have Ki:M i=false:=by
    cases hm:M i with
    |false=>rfl
    |true=>rw[d.Bl i hm] at cT;cases cT
   rcases Bn with⟨hw,hk⟩|⟨hw,hv,hf⟩
   ·rw[← dQ.wanted] at hw
    simp only[hw,if_true]
    rcases hk with⟨hR,_,hf,h1,ha⟩|⟨x,yu,hf,ha⟩
    ·obtain⟨_,cE⟩:=zS hR ha
     have lh:cn P lo (eA ops V (Lf listed) bY ops.size) (bF base sl FO (fun k=>Lf listed k&&!M k) As H) o.op=some (V i,bF base sl FO (fun k=>Lf listed k&&!M k) As H):=by
      rw[Bi dQ.eval]
      refine cE _ fun o' x hx=>?_
      rcases OZ l4 st.jZ hx with⟨k,hk,hs,rfl,hf⟩|⟨hx,_⟩
      ·simp only[bR] at hs
       exact zT l4 st.jZ hk (by simp only[hp k hs.1,hs.2,Bool.and_self]) hf
      rw[w6 l4];· exact hx
      ·rintro k hk hs _ rfl
       simp only[bR,Bool.not_eq_true'] at hs
       rw[d.hH k hk hs.2] at hx;cases hx
     have dw:=oM.op (o:=o) (next:=fun ba h'=>ba=bw (eA ops V (Lf listed) bY ops.size) o.dst (V i)∧h'=bF base sl FO (fun k=>Lf listed k&&!M k) As H) lh ⟨rfl,rfl⟩
     refine Oper.wpIn_mono (fun a' w' hl=>?_) (dw F hF n U a w _ d.ht d.hr)
     obtain⟨ba,h',aN,Kg,oF,Bm,yd,rfl,rfl⟩:=hl
     refine ih _ br last V FO M H aN a' w' (d.advance st ho cT hp (.inl ⟨rfl,u4⟩) (.inl rfl) (fun j hj=>.inl hj) (fun _ _=>rfl) Kg (by rw[yd,d.ds]) (same hf▸oF) (same hf▸d.fr.trans Bm) (fun j hj hl _=>?_) d.hn d.hH) hD qk
     rw[Bm.fR _ (by rw[nu];exact l4 j hj)]
     exact d.un j hj hl
    have JF:ic P (eA ops V (Lf listed) bY ops.size) (base+sl i) o.op=some (V i,x):=by rw[OY dQ.eval];exact ha
    obtain⟨s,rK,ob,v',C,ft,sg,sx⟩:=V6 (w:=w) d.ht JF
    have JW:∀c,o.op≠.defer c:=fun c hc=>by rw[hc] at ha;simp[ic] at ha
    have ll:base+sl i<(bF base sl FO (fun k=>Lf listed k&&!M k) As H).next:=by rw[nu];exact l4 i yu
    have ES:(bF base sl FO (fun k=>Lf listed k&&!M k) As H).get (base+sl i)=none:=by
     rw[w6 l4];· exact d.hH i yu Ki
     ·intro k hk ql _ heq
      have:=st.jZ i yu k hk (by omega)
      subst this
      simp[cT] at ql
    have HJ:=d.un i yu cT
    have hle:U.le (U.put (base+sl i) (w.heap.size,0,C)):=by
     intro o y hy
     have:o≠base+sl i:=by intro ho;subst ho;rw[HJ] at hy;cases hy
     rw[Mu.iQ _ this];exact hy
    obtain⟨Wq,n4⟩:=sx _ hle (Mu.ct _ _ _)
    obtain⟨_,g1,g2⟩:=Wg d.hr ll (by have:=d.cw;omega) ES HJ ob C x n4 sg
    refine⟨Bh F hF,?_⟩
    rw[Oper.semAt_eq _ _ _ JW,rK]
    have eG:(do pure (Next.value (← s)):Sem Next).run P w=.ok (Next.value v') (w.alloc ob):=by rw[Sem.run_bind,ft];rfl
    rw[eG]
    simp only[Oper.uponIn]
    have fV:∀o',(bF base sl FO (fun j=>(Lf listed j||Nat.beq j i)&&!M j) As H).get o'=((bF base sl FO (fun k=>Lf listed k&&!M k) As H).put (base+sl i) (some x)).get o':=by
     intro o'
     rw[ae.dB _ _ _ _ ll]
     by_cases lg:o'=base+sl i
     ·subst lg
      rw[if_pos rfl]
      exact zT l4 st.jZ yu (by simp[Ki]) hf
     rw[if_neg lg]
     by_cases he:∃k∈As,(Lf listed k&&!M k)=true∧FO k≠none∧o'=base+sl k
     ·obtain⟨k,hk,ql,ET,rfl⟩:=he
      cases Kj:FO k with
      |none=>exact absurd Kj ET
      |some y=>
       rw[zT (S:=fun k=>Lf listed k&&!M k) l4 st.jZ hk ql Kj]
       refine zT l4 st.jZ hk ?_ Kj
       simp only[bR] at ql ⊢
       simp[ql.1,ql.2]
     rw[w6 l4,w6 l4]
     ·intro k hk ql ET heq;exact he ⟨k,hk,ql,ET,heq⟩
     intro k hk ql ET heq
     have mu:k≠i:=by rintro rfl;exact lg heq
     simp only[nv mu,Bool.or_false] at ql
     exact he ⟨k,hk,ql,ET,heq⟩
    have eU:((bF base sl FO (fun k=>Lf listed k&&!M k) As H).put (base+sl i) (some x)).next=(bF base sl FO (fun j=>(Lf listed j||Nat.beq j i)&&!M j) As H).next:=by rw[ae.Hh,nu,nu]
    refine ih _ br last V FO M H _ _ _ (d.advance st ho cT hp (.inl ⟨rfl,u4⟩) (.inl rfl) (fun j hj=>.inl hj) (fun _ _=>rfl) (Bg (d.ht.mono hle) Wq o.dst) (by rw[put_defers];exact d.ds)
     (g1.ext fV eU) ((g2 iE h0 w0 d.fr (by have:=d.hb;omega)).ext fV eU) (fun j hj hl gP=>?_) d.hn d.hH) hD qk
    rw[Mu.iQ _ (fun h=>gP (st.jZ j hj i yu (by omega)))]
    exact d.un j hj hl
   rw[← dQ.wanted] at hw
   simp only[hw,if_false,Bool.false_eq_true]
   refine⟨Bh F hF,?_⟩
   refine ih _ br last V FO M H U _ w (d.advance st ho cT hp (.inl ⟨rfl,u4⟩) (.inl rfl) (fun j hj=>.inl hj) (fun _ _=>rfl) ?_ (by rw[put_defers];exact d.ds) (same hf▸d.hr) (same hf▸d.fr) (fun j hj hl _=>d.un j hj hl) d.hn d.hH) hD qk
   rw[hv];exact Bg d.ht .undef o.dst
theorem AW.drawn {id:Nat}{ts:aC}{h:ae}(hm:P.follows .mixedOrders=true)(st:yq ops b W As sl nA){V:Nat→Value}{FO:Nat→Option a7}
  (hD:DR P lo ops b W As sl h.next ts Q W none V FO (fun _=>false) (ae.mR nA h)):AW P lo (.region id ops true) Q ts h:=by
 intro F hF n U a w ht r _
 refine wpIn_mono (wpIn_region_any hm ?_) fun _ _ _ hl=>fu.Dd hl
 have hL:Lf (Array.replicate ops.size false)=fun _=>false:=by
  funext j
  unfold Lf
  by_cases hj:j<ops.size<;>simp[hj]
 have ep:(fun (i:Nat)=>(false&&!false:Bool))=fun _=>false:=rfl
 have e0:∀(as:List Nat) (H:ae),bF h.next sl FO (fun _=>false) as H=H:=by
  intro as H
  induction as with
  |nil=>rfl
  |cons k r ih=>simp only[bF,bl];exact ih
 have hu:rI (Array.replicate ops.size false) ops.size=ops.size:=by
  have:∀m,m≤ops.size→rI (Array.replicate ops.size false) m=m:=by
   intro m hm
   induction m with
   |zero=>rfl
   |succ m ih=>
    simp only[rI]
    rw[ih (by omega)]
    have:(Array.replicate ops.size false).getD m true=false:=by
     have:m<ops.size:=by omega
     simp[this]
    rw[this];simp only[bl];omega
  exact this _ (Nat.le_refl _)
 have nt:∀n,eA ops V (fun _=>false) ts n=ts:=by
  intro n
  induction n with
  |zero=>rfl
  |succ n ih=>simp only[eA,bl];exact ih
 have Kk:=(r.drew).mR nA
 have pD:=(Frame.drew lo U h w).trans (Frame.mR nA)
 refine Wo (base:=h.next) (bY:=ts) (Q:=Q) st hF ops.size _ W none V FO (fun _=>false) (ae.mR nA h) U a w.drew
  ⟨by simp,fun i j hb hl=>?_,⟨[],rfl,fun _ hw=>(by cases hw),fun w _=>by rw[hL]⟩,fun l hl=>(by cases hl),fun i hi=>(by cases hi),?_,?_,?_,fun i hi _=>?_,rfl,?_,fun i hi _=>?_,?_,Nat.le_refl _⟩ hD hu
 ·rw[hL] at hl;cases hl
 ·rw[hL,nt];exact ht
 ·rw[hL];simp only[Bool.false_and];rw[e0];exact Kk
 ·rw[hL];simp only[Bool.false_and];rw[e0];exact pD
 ·exact r.Oh (by omega)
 ·rw[ae.Bj];exact Nat.le_refl _
 ·rw[ae.uX]
  cases hg:h.get (h.next+sl i) with
  |none=>rfl
  |some x=>have:=ae.fC hg;omega
 have:=r.bA;exact this
end
def bm (ms:List Nat)(i j:Nat):Bool:=(ms.getD j 0).testBit i
def Bo (ms:List Nat):List Edge→Nat
 |[]=>0
 |e::es=>bif Region.binds .any e then (1 <<< e.on) ||| ms.getD e.on 0 ||| Bo ms es else Bo ms es
theorem Kl {ms:List Nat}{i:Nat}:∀ {es:List Edge},(Bo ms es).testBit i=true→∃e∈es,Region.binds .any e=true∧(e.on=i∨(ms.getD e.on 0).testBit i=true)
 |[],h=>by simp[Bo] at h
 |e::es,h=>by
  simp only[Bo] at h
  cases hb:Region.binds .any e with
  |false=>
   rw[hb] at h
   obtain⟨e',h1,h2⟩:=Kl (es:=es) h
   exact⟨e',List.mem_cons_of_mem _ h1,h2⟩
  |true=>
   rw[hb] at h
   simp only[aJ,Nat.testBit_or,Bool.or_eq_true] at h
   rcases h with (h|h)|h
   ·refine⟨e,by simp,hb,.inl ?_⟩
    rw[Nat.one_shiftLeft,Nat.testBit_two_pow] at h
    exact of_decide_eq_true h
   ·exact⟨e,by simp,hb,.inr h⟩
   obtain⟨e',h1,h2⟩:=Kl (es:=es) h
   exact⟨e',List.mem_cons_of_mem _ h1,h2⟩
def HN (ms:List Nat):List Nat→Bool
 |[]=>true
 |w::r=>r.all (bm ms w)&&HN ms r
def EU (ops:Array Oper)(ms W As:List Nat):Bool:=
 Nat.beq ms.length ops.size&&HN ms W&&W.all (Nat.blt · ops.size)&&As.all (fun i=>Nat.blt i ops.size&&!W.contains i)&&
 (List.range ops.size).all fun j=>match ops[j]? with
  |none=>false
  | some o => Nat.blt (ms.getD j 0) (2 ^ j) && o.after.toList.all (fun e => !Region.binds .any e || Nat.blt e.on j) && Nat.beq (ms.getD j 0) (Bo ms o.after.toList) &&
   (List.range j).all fun i=>bm ms i j||match ops[i]? with
    |none=>true
    |some oi=>oi.apart ops o
theorem O5 {ms:List Nat}:∀ {W:List Nat},HN ms W=true→W.Pairwise (fun w w'=>bm ms w w'=true)
 |[],_=>.nil
 |w::r,h=>by
  simp only[HN,bR,List.all_eq_true] at h
  exact .cons h.1 (O5 h.2)
def lr (As:List Nat)(n:Nat):Nat:=match As with|[]=>0|_=>n
theorem Ws {ops:Array Oper}{ms W As:List Nat}(h:EU ops ms W As=true):yq ops (bm ms) W As id (lr As ops.size):=by
 simp only[EU,bR,List.all_eq_true,Nat.blt_eq,List.mem_range] at h
 obtain⟨⟨⟨⟨h1,h2⟩,h3⟩,h4⟩,h5⟩:=h
 have h1:=sf h1
 have at_:∀j o,ops[j]?=some o→ms.getD j 0<2 ^ j∧(∀e∈o.after.toList,(!Region.binds .any e||Nat.blt e.on j)=true)∧ms.getD j 0=Bo ms o.after.toList∧
   ∀i,i<j→(bm ms i j||match ops[i]? with|none=>true|some oi=>oi.apart ops o)=true:=by
  intro j o ho
  have:=h5 j (Array.getElem?_eq_some_iff.1 ho).1
  rw[ho] at this
  simp only[bR,List.all_eq_true,Nat.blt_eq,List.mem_range] at this
  exact⟨this.1.1.1,this.1.1.2,sf this.1.2,this.2⟩
 refine⟨fun i j hb=>?_,fun j o ho e he hb=>?_,fun i j o ho hb=>?_,O5 h2,h3,fun i hi=>(h4 i hi).1,fun i hi hw=>?_,fun i hi=>(by cases As with|nil=>cases hi|cons _ _=>exact(h4 i hi).1),fun _ _ _ _ h=>h,fun i j oi oj Wt zW eT=>?_⟩
 ·rcases Nat.lt_or_ge j ops.size with hj|hj
  ·have aU:=(at_ j ops[j] (by simp[hj])).1
   rcases Nat.lt_or_ge i j with h|h
   ·exact h
   unfold bm at hb
   rw[Nat.testBit_lt_two_pow (Nat.lt_of_lt_of_le aU (Nat.pow_le_pow_right (by omega) h))] at hb
   cases hb
  unfold bm at hb
  rw[List.getD_eq_getElem?_getD,List.getElem?_eq_none (by omega)] at hb
  simp at hb
 ·have:=(at_ j o ho).2.1 e (by simpa using he)
  simp only[hb,Bool.not_true,Bool.false_or,Nat.blt_eq] at this
  exact this
 ·have:=(at_ j o ho).2.2.1
  unfold bm at hb
  rw[this] at hb
  obtain⟨e,he,h6,h7⟩:=Kl hb
  exact⟨e,by simpa using he,h6,h7⟩
 ·have:=(h4 i hi).2
  simp[List.contains_iff_mem,hw] at this
 have:=(at_ j oj zW).2.2.2 i eT
 rw[Wt] at this
 simp only[Bool.or_eq_true] at this
 exact this.symm
def EV:Op→Bool
 |.move _|.assign _|.pick .. | .build .. | .nilCheck _|.binOp .. | .unOp .. | .convert .. | .makeFunc .. | .slice .. | .fieldAddr .. | .field .. | .indexAddr .. | .index .. | .extract ..=>true
 |.call ⟨.builtin .cap,_,_⟩|.call ⟨.builtin .max,_,_⟩|.call ⟨.builtin .min,_,_⟩=>true
 |_=>false
theorem Wu {P:Program}{lo:Nat}{ts:aC}{h h2 h1:ae}{op:Op}{v:Value}(hp:EV op=true)(ha:cn P lo ts h op=some (v,h1)):cn P lo ts h2 op=some (v,h2):=by
 have cD:∀ {o:Option Value},o.map (·,h)=some (v,h1)→o.map (·,h2)=some (v,h2):=fun {o} hm=>by
  obtain⟨u,h3,h4⟩:=cZ hm
  simp only[bI] at h4
  obtain⟨rfl,rfl⟩:=h4
  rw[h3];rfl
 cases op<;>simp only[EV,Bool.false_eq_true] at hp<;>simp only[cn] at ha ⊢
 case move x=>exact cD ha
 case assign x=>exact cD ha
 case pick c a b=>
  split at ha
  ·exact cD ha
  ·exact cD ha
  simp at ha
 case build t ps=>
  split at ha
  ·exact cD ha
  simp at ha
 case nilCheck x=>
  split at ha
  ·exact cD ha
  simp at ha
 case binOp o t x y u=>
  split at ha
  ·exact cD ha
  simp at ha
 case unOp o t x=>
  split at ha
  ·exact cD ha
  simp at ha
 case convert s d x=>
  split at ha
  ·exact cD ha
  simp at ha
 case makeFunc fn a b=>
  cases fn<;>simp only at ha ⊢ <;> try (simp at ha)
  split at ha
  ·simp only[ax,bI] at ha;obtain⟨rfl,rfl⟩:=ha
   rfl
  simp at ha
 case slice t x l u m=>
  split at ha
  ·exact cD ha
  simp at ha
 case fieldAddr s x f=>
  split at ha
  ·exact cD ha
  simp at ha
 case field s x f=>
  split at ha
  ·exact cD ha
  simp at ha
 case indexAddr t x y=>
  split at ha
  ·exact cD ha
  simp at ha
 case index t x y=>
  split at ha
  ·exact cD ha
  simp at ha
 case extract x i=>
  split at ha
  ·exact cD ha
  simp at ha
 case call c=>
  obtain⟨callee,args,aT⟩:=c
  cases callee with
  |builtin b=>
   simp only[cn] at ha ⊢
   split at ha
   ·rename_i l hl
    cases b<;>simp only[Bool.false_eq_true] at hp
    ·rcases aT with⟨aT⟩
     rcases aT with _|⟨t,_|⟨u,r⟩⟩<;>rcases l with _|⟨x,_|⟨y,s⟩⟩<;>simp only[n3] at ha ⊢ <;> try (simp at ha;done)
     exact cD ha
    ·rcases l with _|⟨x,s⟩<;>simp only[n3] at ha ⊢ <;> try (simp at ha;done)
     exact cD ha
    rcases l with _|⟨x,s⟩<;>simp only[n3] at ha ⊢ <;> try (simp at ha;done)
    exact cD ha
   simp at ha
  |value f=>simp at hp
  |invoke r m=>simp at hp
inductive gT where
  |op (m:Nat)
  |ck (m:Nat)
def gF (base:Nat)(mask:Nat→Bool):List (Nat×a7)→ae→ae
 |[],h=>h
 |(i,x)::r,h=>bif mask i then (gF base mask r h).put (base+i) (some x) else gF base mask r h
def Wv (P:Program)(lo:Nat)(ops:Array Oper)(o:Oper)(ts:aC)(h:ae)(next:aC→ae→Prop):Prop:=
 ∀jv,w8 ops o jv ts→oM P lo o jv h (fun ba h'=>∃v,ba=bw jv o.dst v∧next (bw ts o.dst v) h')
def xc (P:Program)(lo:Nat)(ops:Array Oper)(base:Nat)(ms W As:List Nat)(K:aC→ae→Prop):List gT→aC→List (Nat×a7)→ae→Prop
 |[],ts,fl,h=>K ts (gF base (fun _=>true) fl h)
 | .op m :: r, ts, fl, h => ∃ o, ops[m]? = some o ∧
  bif Region.wanted o (l3 ops ts) then
   bif W.contains m then Wv P lo ops o ts (gF base (fun i=>bm ms i m) fl h) (fun ba h'=>xc P lo ops base ms W As K r ba (fl.filter fun p=>!bm ms p.1 m) h')
   else bif As.contains m then ∃v x,ic P ts (base+m) o.op=some (v,x)∧xc P lo ops base ms W As K r (bw ts o.dst v) ((m,x)::fl) h
   else ∃v h1,cn P lo ts (gF base (fun i=>bm ms i m) fl h) o.op=some (v,h1)∧xc P lo ops base ms W As K r (bw ts o.dst v) fl h
  else xc P lo ops base ms W As K r (bw ts o.dst Go.undef) fl h
 | .ck m :: r, ts, fl, h => ∃ o d, ops[m]? = some o ∧ o.dst = some d ∧
  (Region.wanted o (l3 ops ts)=true→∃v h1,ts[d]?=some v∧cn P lo ts (gF base (fun i=>bm ms i m) fl h) o.op=some (v,h1))∧xc P lo ops base ms W As K r ts fl h
def EW (ops:Array Oper)(ms:List Nat)(m:Nat)(o:Oper):Bool:=
 (List.range ops.size).all fun j=>match (ops[j]?).bind (·.dst) with
  |none=>true
  |some d=>bif Nat.beq j m then !(o.looksAt ops).contains d else bm ms j m||!((o.looksAt ops).contains d||o.dst==some d)
def xd (ops:Array Oper)(ms W As:List Nat):List Nat→List Nat→List Nat→List gT→Bool
 |d,br,todo,[]=>br.isEmpty&&todo.isEmpty&&(List.range ops.size).all (d.contains ·)
 |d,br,todo,.op m::r=>match ops[m]? with
  |none=>false
  | some o => !d.contains m && (List.range m).all (fun j => !bm ms j m || d.contains j) &&
   bif W.contains m then
    todo.isEmpty&&(match br with
     |[]=>false
     | w :: Wr => Nat.beq w m && (List.range ops.size).all (fun k => d.contains k || W.contains k || br.any (fun w => bm ms w k)) &&
      xd ops ms W As (m::d) Wr (d.filter fun k=>!W.contains k&&!As.contains k&&!bm ms k m&&match ops[k]? with|none=>true|some ok=>!EV ok.op) r)
   else (bif As.contains m then As.all (fun k=>Nat.ble k m||!d.contains k) else tR o.op)&&xd ops ms W As (m::d) br todo r
 |d,br,todo,.ck m::r=>match ops[m]? with
  |none=>false
  |some o=>todo.contains m&&EW ops ms m o&&xd ops ms W As d br (todo.filter fun k=>!Nat.beq k m) r
def zZ:List Nat→Bool
 |[]=>true
 |a::r=>r.all (Nat.blt · a)&&zZ r
def dO (d M:Nat→Bool)(FO:Nat→Option a7):List Nat→List (Nat×a7)
 |[]=>[]
 |a::r=>match (bif d a&&!M a then FO a else none) with
  |some x=>(a,x)::dO d M FO r
  |none=>dO d M FO r
theorem EX {d d' M M':Nat→Bool}{FO dR:Nat→Option a7}:∀ {As:List Nat},(∀i∈As,(bif d i&&!M i then FO i else none)=(bif d' i&&!M' i then dR i else none))→dO d M FO As=dO d' M' dR As
 |[],_=>rfl
 |a::r,h=>by
  have ih:=EX (As:=r) (fun i hi=>h i (List.mem_cons_of_mem _ hi))
  simp only[dO]
  rw[h a (by simp),ih]
def jO {α:Type}(f:Nat→α)(m:Nat)(v:α):Nat→α:=fun i=>if i=m then v else f i
theorem z6 {α:Type}(f:Nat→α)(m:Nat)(v:α):jO f m v m=v:=by simp[jO]
theorem Dg {α:Type}{f:Nat→α}{m:Nat}{v:α}{i:Nat}(h:i≠m):jO f m v i=f i:=by simp[jO,h]
theorem Ww {a:Nat}{r:List Nat}(h:zZ (a::r)=true):(∀k∈r,k<a)∧zZ r=true:=by
 simp only[zZ,bR,List.all_eq_true,Nat.blt_eq] at h
 exact h
theorem HO {d M:Nat→Bool}{FO:Nat→Option a7}{a:Nat}{r:List Nat}(h:d a=false):dO d M FO (a::r)=dO d M FO r:=by
 simp only[dO,h,Bool.false_and,bl]
theorem O6 {d M:Nat→Bool}{FO:Nat→Option a7}{m:Nat}{x:a7}:∀ {As:List Nat},zZ As=true→m∈As→(∀k∈As,k≤m∨d k=false)→d m=false→M m=false→
  dO (fun i=>Nat.beq i m||d i) M (jO FO m (some x)) As=(m,x)::dO d M FO As
 |[],_,h,_,_,_=>by cases h
 |a::r,kE,hm,hk,hd,hM=>by
  obtain⟨h1,h2⟩:=Ww kE
  by_cases ha:a=m
  ·subst ha
   have e1:dO (fun i=>Nat.beq i a||d i) M (jO FO a (some x)) (a::r)=(a,x)::dO (fun i=>Nat.beq i a||d i) M (jO FO a (some x)) r:=by
    simp only[dO,Nat.beq_refl,Bool.true_or,hM,Bool.not_false,Bool.and_self,aJ,z6]
   rw[e1,HO hd]
   congr 1
   refine EX fun i hi=>?_
   have:i≠a:=by have:=h1 i hi;omega
   rw[nv this,Dg this];rfl
  have dZ:m∈r:=(List.mem_cons.1 hm).resolve_left (Ne.symm ha)
  have O7:d a=false:=by
   rcases hk a (by simp) with h|h
   ·have:=h1 m dZ;omega
   exact h
  rw[HO (by rw[nv ha,O7];rfl),HO O7]
  exact O6 h2 dZ (fun k jr=>hk k (List.mem_cons_of_mem _ jr)) hd hM
theorem HP {base:Nat}{mask d M:Nat→Bool}{FO:Nat→Option a7}{h:ae}:∀ {As:List Nat},gF base mask (dO d M FO As) h=bF base id FO (fun i=>mask i&&(d i&&!M i)) As h
 |[]=>rfl
 |a::r=>by
  have ih:=HP (base:=base) (mask:=mask) (d:=d) (M:=M) (FO:=FO) (h:=h) (As:=r)
  simp only[bF,dO]
  cases hd:(d a&&!M a) with
  |false=>simp only[bl,Bool.and_false];exact ih
  |true=>
   simp only[aJ,Bool.and_true]
   cases hf:FO a with
   |none=>cases mask a<;>exact ih
   |some x=>simp only[gF,id];rw[ih]
theorem O8 {c d M:Nat→Bool}{FO:Nat→Option a7}:∀ {As:List Nat},(dO d M FO As).filter (fun p=>!c p.1)=dO d (fun i=>M i||c i) FO As
 |[]=>rfl
 |a::r=>by
  have ih:=O8 (c:=c) (d:=d) (M:=M) (FO:=FO) (As:=r)
  simp only[dO]
  have key:(bif d a&&!(M a||c a) then FO a else none)=bif c a then none else (bif d a&&!M a then FO a else none):=by
   cases d a<;>cases M a<;>cases c a<;>rfl
  rw[key]
  generalize (bif d a&&!M a then FO a else none)=z
  cases hc:c a with
  |true=>
   cases z with
   |none=>exact ih
   |some x=>
    have:List.filter (fun p:Nat×a7=>!c p.1) ((a,x)::dO d M FO r)=List.filter (fun p=>!c p.1) (dO d M FO r):=by
     rw[List.filter_cons];simp only[hc,Bool.not_true,Bool.false_eq_true,if_false]
    exact this.trans ih
  |false=>
   cases z with
   |none=>exact ih
   |some x=>
    have:List.filter (fun p:Nat×a7=>!c p.1) ((a,x)::dO d M FO r)=(a,x)::List.filter (fun p=>!c p.1) (dO d M FO r):=by
     rw[List.filter_cons];simp only[hc,Bool.not_false,if_true]
    exact this.trans (by rw[ih];rfl)
section
variable {P:Program} {lo:Nat} {ops:Array Oper} {ms W As:List Nat} {base:Nat} {bY:aC} {Q:kD}
theorem pF.congr {V V':Nat→Value}{FO dR:Nat→Option a7}{M:Nat→Bool}{H:ae}{m:Nat}{o:Oper}
  (hV:∀j,bm ms j m=true→V' j=V j) (hm:V' m=V m) (hF:∀j,bm ms j m=true→dR j=FO j) (Wx:dR m=FO m) (h:pF P lo ops (bm ms) As id base bY V FO M H m o) :
  pF P lo ops (bm ms) As id base bY V' dR M H m o:=by
 have e1:eA ops V' (fun j=>bm ms j m) bY ops.size=eA ops V (fun j=>bm ms j m) bY ops.size:=yp (fun _ _=>rfl) (fun j _ hj=>hV j hj)
 have e2:bF base id dR (fun i=>bm ms i m&&!M i) As H=bF base id FO (fun i=>bm ms i m&&!M i) As H:=zV fun k _=>by
  cases hb:bm ms k m with
  |false=>rfl
  |true=>rw[hF k hb]
 unfold pF at h ⊢
 simp only[e1,e2,hm,Wx]
 exact h
theorem pF.pure {V:Nat→Value}{FO:Nat→Option a7}{M M':Nat→Bool}{H H':ae}{m:Nat}{o:Oper}(hp:EV o.op=true∨m∈As)(h:pF P lo ops (bm ms) As id base bY V FO M H m o) :
  pF P lo ops (bm ms) As id base bY V FO M' H' m o:=by
 unfold pF at h ⊢
 rcases h with⟨hw,⟨h1,h0,h2,h3,ha⟩|hA⟩|h
 ·rcases hp with hp|hp
  ·exact .inl ⟨hw,.inl ⟨h1,h0,h2,_,Wu hp ha⟩⟩
  exact absurd hp h0
 ·exact .inl ⟨hw,.inr hA⟩
 exact .inr h
structure SI (P:Program) (lo:Nat) (ops:Array Oper) (ms W As:List Nat) (base:Nat) (bY:aC) (d br todo:List Nat) (last:Option Nat) (V:Nat→Value) (FO:Nat→Option a7) (M:Nat→Bool) (H:ae) (ts:aC) (fl:List (Nat×a7)):Prop where
  nt:ts=eA ops V (fun i=>d.contains i) bY ops.size
  kQ:fl=dO (fun i=>d.contains i) M FO As
  closed:∀i j,bm ms i j=true→d.contains j=true→d.contains i=true
  wr:∀w∈W,(d.contains w=true↔w∉br)
  Bp:∀w∈br,w∈W
  HQ:br.Pairwise (fun w w'=>bm ms w w'=true)
  fo:∀i,d.contains i=false→FO i=none
  Bl:∀i,M i=true→d.contains i=true
  fR:∀m o,ops[m]?=some o→d.contains m=true→m∉W→∃M0 H0,pF P lo ops (bm ms) As id base bY V FO M0 H0 m o
  now:∀m o,ops[m]?=some o→d.contains m=true→m∉W→m∉todo→(∀l,last=some l→bm ms m l=false)→pF P lo ops (bm ms) As id base bY V FO M H m o
theorem contains_cons (m:Nat)(d:List Nat)(i:Nat):(m::d).contains i=(Nat.beq i m||d.contains i):=by
 rw[List.contains_cons]
 have:(i==m)=Nat.beq i m:=by
  rw[Bool.eq_iff_iff,beq_iff_eq]
  exact⟨fun h=>by rw[h];exact Nat.beq_refl m,sf⟩
 rw[this]
theorem HR {d:List Nat}{i:Nat}:d.contains i=false↔i∉d:=by
 rw[← Bool.not_eq_true,List.contains_iff_mem]
theorem SI.rd (st:yq ops (bm ms) W As id (lr As ops.size)){d br todo:List Nat}{last:Option Nat}{V:Nat→Value}{FO dR:Nat→Option a7}{M:Nat→Bool}{H:ae}{ts:aC}{fl z7:List (Nat×a7)}{m:Nat}{o:Oper}{v:Value}
  (s:SI P lo ops ms W As base bY d br todo last V FO M H ts fl) (ho:ops[m]?=some o) (hd:d.contains m=false) (hp:∀j,bm ms j m=true→d.contains j=true) (hW:m∉W)
  (HM:∀j,j≠m→dR j=FO j) (kQ:z7=dO (fun i=>(m::d).contains i) M dR As) (h:pF P lo ops (bm ms) As id base bY (jO V m v) dR M H m o) :
  SI P lo ops ms W As base bY (m::d) br todo last (jO V m v) dR M H (bw ts o.dst v) z7:=by
 have cC:∀j,d.contains j=true→j≠m:=fun j hj h=>by subst h;rw[hd] at hj;cases hj
 have z8:∀j,d.contains j=true→jO V m v j=V j:=fun j hj=>Dg (cC j hj)
 have O9:∀j,d.contains j=true→dR j=FO j:=fun j hj=>HM j (cC j hj)
 have ls:∀M0 H0 k ok,d.contains k=true→pF P lo ops (bm ms) As id base bY V FO M0 H0 k ok→pF P lo ops (bm ms) As id base bY (jO V m v) dR M0 H0 k ok:=fun M0 H0 k ok hk Bn=>
  Bn.congr (fun j hj=>z8 j (s.closed j k hj hk)) (z8 k hk) (fun j hj=>O9 j (s.closed j k hj hk)) (O9 k hk)
 have ep:∀i j,bm ms i j=true→(m::d).contains j=true→(m::d).contains i=true:=fun i j hb hj=>by
  rw[contains_cons,Bool.or_eq_true] at hj ⊢
  rcases hj with hj|hj
  ·rw[sf hj] at hb;exact .inr (hp i hb)
  exact .inr (s.closed i j hb hj)
 refine⟨?_,kQ,ep,fun w hw=>?_,s.Bp,s.HQ,fun i hi=>?_,fun i hi=>?_,fun k ok gg hk mU=>?_,fun k ok gg hk mU ht hl=>?_⟩
 ·have e:(fun i=>(m::d).contains i)=fun i=>d.contains i||Nat.beq i m:=by funext i;rw[contains_cons,Bool.or_comm]
  rw[e,Ke st ho hd s.closed,z6]
  rw[yp (V':=V) (S':=fun i=>d.contains i) (fun _ _=>rfl) (fun j _ hj=>z8 j hj),← s.nt]
 ·have:w≠m:=by rintro rfl;exact hW hw
  rw[contains_cons,nv this,Bool.false_or];exact s.wr w hw
 ·rw[contains_cons,Bool.or_eq_false_iff] at hi
  have cC:i≠m:=fun h=>by subst h;rw[Nat.beq_refl] at hi;exact absurd hi.1 (by simp)
  rw[HM i cC];exact s.fo i hi.2
 ·rw[contains_cons,s.Bl i hi,Bool.or_true]
 ·rw[contains_cons,Bool.or_eq_true] at hk
  by_cases Aa:k=m
  ·subst Aa;rw[ho] at gg;injection gg with gg;subst gg;exact⟨M,H,h⟩
  have hk:d.contains k=true:=hk.resolve_left (by rw[nv Aa];simp)
  obtain⟨M0,H0,h0⟩:=s.fR k ok gg hk mU
  exact⟨M0,H0,ls M0 H0 k ok hk h0⟩
 rw[contains_cons,Bool.or_eq_true] at hk
 by_cases Aa:k=m
 ·subst Aa;rw[ho] at gg;injection gg with gg;subst gg;exact h
 have hk:d.contains k=true:=hk.resolve_left (by rw[nv Aa];simp)
 exact ls M H k ok hk (s.now k ok gg hk mU ht hl)
theorem Wy (st:yq ops (bm ms) W As id (lr As ops.size)){V:Nat→Value}{L:Nat→Bool}{m:Nat}{o:Oper}{t:Nat}{v:Value}(ho:ops[m]?=some o)(hs:EW ops ms m o=true)(hd:o.dst=some t)(hL:L m=true)
  (hv:(eA ops V L bY ops.size)[t]?=some v):v=V m:=by
 have aU:m<ops.size:=(Array.getElem?_eq_some_iff.1 ho).1
 have key:∀n,m<n→n≤ops.size→(eA ops V L bY n)[t]?=some v→v=V m:=by
  intro n
  induction n with
  |zero=>intro h;omega
  |succ n ih=>
   intro Wz hn hv
   simp only[eA] at hv
   by_cases Km:m=n
   ·subst Km
    rw[hL] at hv
    have:sD ops m=some t:=by simp[sD,ho,hd]
    rw[this] at hv
    simp only[aJ,bw,List.getElem?_set,if_true] at hv
    split at hv
    ·injection hv with hv;exact hv.symm
    cases hv
   refine ih (by omega) (by omega) ?_
   cases hl:L n with
   |false=>rw[hl] at hv;exact hv
   |true=>
    rw[hl] at hv
    simp only[aJ] at hv
    rw[EK] at hv
    ·exact hv
    intro Bq
    simp only[EW,List.all_eq_true,List.mem_range] at hs
    have:=hs n (by omega)
    have Kn:(ops[n]?).bind (·.dst)=some t:=Bq
    rw[Kn] at this
    simp only[nv (show n≠m by omega),bl,hd,beq_self_eq_true,Bool.or_true,Bool.not_true,Bool.or_false] at this
    have:=st.lt _ _ this
    omega
 exact key ops.size aU (Nat.le_refl _) hv
theorem WA {V:Nat→Value}{L:Nat→Bool}{m:Nat}{o:Oper}(ho:ops[m]?=some o)(hs:EW ops ms m o=true)(hL:L m=true)(hc:∀i j,bm ms i j=true→L j=true→L i=true) :
  w8 ops o (eA ops V L bY ops.size) (eA ops V (fun j=>bm ms j m) bY ops.size):=by
 intro t ht
 refine Ka fun j hj hd=>?_
 suffices h:L j=bm ms j m by exact⟨h,fun _=>rfl⟩
 simp only[EW,List.all_eq_true,List.mem_range] at hs
 have:=hs j hj
 have tQ:(ops[j]?).bind (·.dst)=some t:=hd
 rw[tQ] at this
 have Pa:(o.looksAt ops).contains t=true:=by rw[List.contains_iff_mem];exact ht
 by_cases HS:j=m
 ·subst HS
  simp only[Nat.beq_refl,aJ,Pa,Bool.not_true] at this
  cases this
 simp only[nv HS,bl,Pa,Bool.true_or,Bool.not_true,Bool.or_false] at this
 rw[this];exact hc j m this hL
theorem Dh (st:yq ops (bm ms) W As id (lr As ops.size))(kE:zZ As=true):∀(items:List gT) (d br todo:List Nat) (last:Option Nat) (V:Nat→Value) (FO:Nat→Option a7) (M:Nat→Bool) (H:ae) (ts:aC) (fl:List (Nat×a7)),
  xd ops ms W As d br todo items=true→SI P lo ops ms W As base bY d br todo last V FO M H ts fl→xc P lo ops base ms W As (Q .normal) items ts fl H→
  ∃V' dR,(∀i,d.contains i=true→V' i=V i∧dR i=FO i)∧DR P lo ops (bm ms) W As id base bY Q br last V' dR M H
 |[],d,br,todo,last,V,FO,M,H,ts,fl,hc,s,hs=>by
  simp only[xd,bR,List.isEmpty_iff,List.all_eq_true,List.mem_range] at hc
  obtain⟨⟨rfl,rfl⟩,bg⟩:=hc
  refine⟨V,FO,fun _ _=>⟨rfl,rfl⟩,fun m o ho hW _ hl=>s.now m o ho (bg m (Array.getElem?_eq_some_iff.1 ho).1) hW (by simp) hl,?_⟩
  have e1:eA ops V (fun _=>true) bY ops.size=ts:=by rw[s.nt];exact yp (fun i hi=>(bg i hi).symm) (fun _ _ _=>rfl)
  have e2:bF base id FO (fun i=>!M i) As H=gF base (fun _=>true) fl H:=by
   rw[s.kQ,HP]
   refine zV fun k hk=>?_
   rw[bg k (st.alt k hk)];simp
  rw[e1,e2];exact hs
 |.op m::r,d,br,todo,last,V,FO,M,H,ts,fl,hc,s,hs=>by
  obtain⟨o,ho,hs⟩:=hs
  simp only[xd,ho,bR,Bool.not_eq_true',List.all_eq_true,List.mem_range,Bool.or_eq_true] at hc
  obtain⟨⟨xf,Br⟩,hc⟩:=hc
  have hp:∀j,bm ms j m=true→d.contains j=true:=fun j hj=>by
   rcases Br j (st.lt j m hj) with h|h
   ·rw[hj] at h;cases h
   exact h
  have aU:m<ops.size:=(Array.getElem?_eq_some_iff.1 ho).1
  have dQ:w8 ops o ts (eA ops V (fun j=>bm ms j m) bY ops.size):=by
   have:=O4 (bY:=bY) (V:=V) (L:=fun i=>d.contains i) st ho xf hp s.closed
   rw[← s.nt] at this;exact this
  have heq:∀Bs:Nat→Option a7,(∀j,d.contains j=true→Bs j=FO j)→bF base id Bs (fun i=>bm ms i m&&!M i) As H=gF base (fun i=>bm ms i m) fl H:=fun Bs h1=>by
   rw[s.kQ,HP]
   refine zV fun k _=>?_
   cases hb:bm ms k m with
   |false=>rfl
   |true=>rw[hp k hb,h1 k (hp k hb)];simp
  have cC:∀j,d.contains j=true→j≠m:=fun j hj h=>by subst h;rw[xf] at hj;cases hj
  have WB:M m=false:=by
   cases hm:M m with
   |false=>rfl
   |true=>rw[s.Bl m hm] at xf;cases xf
  have u7:∀v,eA ops (jO V m v) (fun j=>bm ms j m) bY ops.size=eA ops V (fun j=>bm ms j m) bY ops.size:=fun v=>yp (fun _ _=>rfl) (fun j _ hj=>Dg (cC j (hp j hj)))
  have lift:∀(v:Value) (Bs:Nat→Option a7),(∀j,j≠m→Bs j=FO j)→(∃V' dR,(∀i,(m::d).contains i=true→V' i=jO V m v i∧dR i=Bs i)∧DR P lo ops (bm ms) W As id base bY Q br last V' dR M H)→
    ∃V' dR,(∀i,d.contains i=true→V' i=V i∧dR i=FO i)∧DR P lo ops (bm ms) W As id base bY Q br last V' dR M H:=by
   rintro v Bs hF ⟨V',dR,h1,h2⟩
   refine⟨V',dR,fun i hi=>?_,h2⟩
   obtain⟨h3,h4⟩:=h1 i (by rw[contains_cons,hi,Bool.or_true])
   exact⟨by rw[h3,Dg (cC i hi)],by rw[h4,hF i (cC i hi)]⟩
  by_cases HT:W.contains m=true
  · -- a writer
   have oP:m∈W:=by rwa [List.contains_iff_mem] at HT
   simp only[HT,aJ,bR,List.isEmpty_iff] at hc hs
   obtain⟨rfl,hc⟩:=hc
   cases br with
   |nil=>cases hc
   |cons w Wr=>
    simp only[bR,List.all_eq_true,List.mem_range,Bool.or_eq_true,List.any_eq_true] at hc
    obtain⟨⟨hw,Bt⟩,hc⟩:=hc
    have hw:=sf hw
    subst hw
    have EY:∀k,k<ops.size→k∉W→(∀w'∈w::Wr,bm ms w' k=false)→d.contains k=true:=fun k hk mU l5=>by
     rcases Bt k hk with (h|h)|⟨w',yv,h⟩
     ·exact h
     ·rw[List.contains_iff_mem] at h;exact absurd h mU
     rw[l5 w' yv] at h;cases h
    have Bn:PC P lo ops (bm ms) W As id base bY (w::Wr) last V FO M H:=fun k ok gg mU l5 hl=>
     s.now k ok gg (EY k (Array.getElem?_eq_some_iff.1 gg).1 mU l5) mU (by simp) hl
    have Bu:w∉Wr:=by
     intro di
     have:=st.lt _ _ ((List.pairwise_cons.1 s.HQ).1 w di)
     omega
    have next:∀(v:Value) (h':ae) (M':Nat→Bool) (z7:List (Nat×a7)),(∀i,M' i=true→M i=true∨bm ms i w=true)→z7=dO (fun i=>(w::d).contains i) M' FO As→
      xc P lo ops base ms W As (Q .normal) r (bw ts o.dst v) z7 h'→
      ∃V' dR,Ext ops (bm ms) (w::Wr) V V' FO dR∧V' w=v∧DR P lo ops (bm ms) W As id base bY Q Wr (some w) V' dR M' h':=by
     intro v h' M' z7 nY Ko qm
     have z8:∀j,d.contains j=true→jO V w v j=V j:=fun j hj=>Dg (cC j hj)
     have ls:∀M0 H0 k ok,d.contains k=true→pF P lo ops (bm ms) As id base bY V FO M0 H0 k ok→pF P lo ops (bm ms) As id base bY (jO V w v) FO M0 H0 k ok:=fun M0 H0 k ok hk Bn=>
      Bn.congr (fun j hj=>z8 j (s.closed j k hj hk)) (z8 k hk) (fun _ _=>rfl) rfl
     have Pb:∀k,(w::d).contains k=true→k∉W→d.contains k=true:=fun k hk mU=>by
      rw[contains_cons,Bool.or_eq_true] at hk
      refine hk.resolve_left ?_
      have:k≠w:=by rintro rfl;exact mU oP
      rw[nv this];simp
     have l6:SI P lo ops ms W As base bY (w::d) Wr (d.filter fun k=>!W.contains k&&!As.contains k&&!bm ms k w&&match ops[k]? with|none=>true|some ok=>!EV ok.op) (some w) (jO V w v) FO M' h' (bw ts o.dst v) z7:=by
      refine⟨?_,Ko,?_,fun w' yv=>?_,fun w' yv=>s.Bp w' (List.mem_cons_of_mem _ yv),(List.pairwise_cons.1 s.HQ).2,fun i hi=>?_,fun i hi=>?_,fun k ok gg hk mU=>?_,fun k ok gg hk mU oQ hl=>?_⟩
      ·have e:(fun i=>(w::d).contains i)=fun i=>d.contains i||Nat.beq i w:=by funext i;rw[contains_cons,Bool.or_comm]
       rw[e,Ke st ho xf s.closed,z6]
       rw[yp (V':=V) (S':=fun i=>d.contains i) (fun _ _=>rfl) (fun j _ hj=>z8 j hj),← s.nt]
      ·intro i j hb hj
       rw[contains_cons,Bool.or_eq_true] at hj ⊢
       rcases hj with hj|hj
       ·rw[sf hj] at hb;exact .inr (hp i hb)
       exact .inr (s.closed i j hb hj)
      ·by_cases Kq:w'=w
       ·subst Kq
        rw[contains_cons,Nat.beq_refl,Bool.true_or]
        exact⟨fun _=>Bu,fun _=>rfl⟩
       rw[contains_cons,nv Kq,Bool.false_or,s.wr w' yv,List.mem_cons]
       exact⟨fun h h2=>h (.inr h2),fun h h2=>h2.elim Kq h⟩
      ·rw[contains_cons,Bool.or_eq_false_iff] at hi
       exact s.fo i hi.2
      ·rw[contains_cons]
       rcases nY i hi with h|h
       ·rw[s.Bl i h,Bool.or_true]
       rw[hp i h,Bool.or_true]
      ·have hk:=Pb k hk mU
       obtain⟨M0,H0,h0⟩:=s.fR k ok gg hk mU
       exact⟨M0,H0,ls M0 H0 k ok hk h0⟩
      have hk:=Pb k hk mU
      obtain⟨M0,H0,h0⟩:=s.fR k ok gg hk mU
      refine(ls M0 H0 k ok hk h0).pure ?_
      have hb:=hl w rfl
      by_cases hA:k∈As
      ·exact .inr hA
      left
      have WC:k∈d:=by rwa [List.contains_iff_mem] at hk
      have Kr:W.contains k=false:=HR.2 mU
      have Ks:As.contains k=false:=HR.2 hA
      rw[List.mem_filter] at oQ
      simp only[WC,Kr,Ks,hb,gg,Bool.not_false,Bool.and_self,Bool.true_and,true_and,Bool.not_eq_true',Bool.not_eq_false] at oQ
      exact oQ
     obtain⟨V',dR,h1,h2⟩:=Dh st kE r (w::d) Wr _ (some w) (jO V w v) FO M' h' (bw ts o.dst v) z7 hc l6 qm
     refine⟨V',dR,fun i hi u4 yx=>?_,by rw[(h1 w (by rw[contains_cons,Nat.beq_refl];rfl)).1,z6],h2⟩
     have hid:d.contains i=true:=by
      by_cases Pc:i∈W
      ·exact(s.wr i Pc).2 u4
      exact EY i hi Pc yx
     obtain⟨h3,h4⟩:=h1 i (by rw[contains_cons,hid,Bool.or_true])
     exact⟨by rw[h3,z8 i hid],h4⟩
    refine⟨V,FO,fun _ _=>⟨rfl,rfl⟩,Bn,fun o2 HU=>?_⟩
    rw[ho] at HU;injection HU with HU;subst HU
    rw[← dQ.wanted]
    constructor
    ·intro mV jv Kt
     rw[mV] at hs
     simp only[aJ] at hs
     rw[heq FO (fun _ _=>rfl)]
     refine(hs jv (fun t ht=>(Kt t ht).trans (dQ t ht).symm)).mono fun ba h' hq=>?_
     obtain⟨v,rfl,qm⟩:=hq
     obtain⟨V',dR,k1,k2,k3⟩:=next v h' (fun i=>M i||bm ms i w) _ (fun i hi=>by simpa using hi) (by
      rw[s.kQ,O8 (c:=fun i=>bm ms i w)]
      refine EX fun i hi=>?_
      have:i≠w:=by rintro rfl;exact st.aw i hi oP
      rw[contains_cons,nv this,Bool.false_or]) qm
     exact⟨V',dR,k1,by rw[k2],k3⟩
    intro mV
    rw[mV] at hs
    simp only[bl] at hs
    exact next Go.undef H M fl (fun i hi=>.inl hi) (by
     rw[s.kQ]
     refine EX fun i hi=>?_
     have:i≠w:=by rintro rfl;exact st.aw i hi oP
     rw[contains_cons,nv this,Bool.false_or]) hs
  have oP:m∉W:=by rwa [List.contains_iff_mem] at HT
  have WD:W.contains m=false:=HR.2 oP
  simp only[WD,bl,bR] at hc hs
  obtain⟨gQ,fT⟩:=hc
  have ea:FO m=none:=s.fo m xf
  have rL:fl=dO (fun i=>(m::d).contains i) M FO As:=by
   rw[s.kQ]
   refine EX fun i hi=>?_
   by_cases Pd:i=m
   ·subst Pd;rw[ea];cases (d.contains i&&!M i)<;>cases ((i::d).contains i&&!M i)<;>rfl
   rw[contains_cons,nv Pd,Bool.false_or]
  by_cases mV:Region.wanted o (l3 ops ts)=true
  ·have sF:=mV
   rw[dQ.wanted] at sF
   simp only[mV,aJ] at hs
   by_cases hA:As.contains m=true
   ·have EZ:m∈As:=by rwa [List.contains_iff_mem] at hA
    simp only[hA,aJ,List.all_eq_true,Bool.or_eq_true,Bool.not_eq_true'] at gQ hs
    obtain⟨v,x,ha,qm⟩:=hs
    have x7:∀j,j≠m→jO FO m (some x) j=FO j:=fun j hj=>Dg hj
    refine lift v (jO FO m (some x)) x7 (Dh st kE r (m::d) br todo last _ _ M H _ _ fT (s.rd st ho xf hp oP x7 ?_ ?_) qm)
    ·have e:(fun i=>(m::d).contains i)=fun i=>Nat.beq i m||d.contains i:=by funext i;rw[contains_cons]
     rw[e,O6 kE EZ (fun k hk=>(gQ k hk).imp (fun h=>aS h) (fun h=>h)) xf WB,← s.kQ]
    refine .inl ⟨?_,.inr ⟨x,EZ,z6 _ _ _,?_⟩⟩
    ·rw[u7];exact sF
    rw[u7,z6,← OY dQ.eval];exact ha
   have EZ:m∉As:=by rwa [List.contains_iff_mem] at hA
   have WE:As.contains m=false:=HR.2 EZ
   simp only[WE,bl] at gQ hs
   obtain⟨v,h1,ha,qm⟩:=hs
   refine lift v FO (fun _ _=>rfl) (Dh st kE r (m::d) br todo last _ _ M H _ _ fT (s.rd st ho xf hp oP (fun _ _=>rfl) rL ?_) qm)
   refine .inl ⟨?_,.inl ⟨gQ,EZ,ea,h1,?_⟩⟩
   ·rw[u7];exact sF
   rw[u7,z6,heq FO (fun _ _=>rfl),← Bi dQ.eval];exact ha
  have mV:Region.wanted o (l3 ops ts)=false:=by rwa [Bool.not_eq_true] at mV
  have sF:=mV
  rw[dQ.wanted] at sF
  simp only[mV,bl] at hs
  refine lift Go.undef FO (fun _ _=>rfl) (Dh st kE r (m::d) br todo last _ _ M H _ _ fT (s.rd st ho xf hp oP (fun _ _=>rfl) rL ?_) hs)
  refine .inr ⟨?_,z6 _ _ _,ea⟩
  rw[u7];exact sF
 |.ck m::r,d,br,todo,last,V,FO,M,H,ts,fl,hc,s,hs=>by
  obtain⟨o,t,ho,Ku,gf,hs⟩:=hs
  simp only[xd,ho,bR] at hc
  obtain⟨⟨_,dw⟩,hc⟩:=hc
  refine Dh st kE r d br _ last V FO M H ts fl hc ⟨s.nt,s.kQ,s.closed,s.wr,s.Bp,s.HQ,s.fo,s.Bl,s.fR,fun k ok gg hk mU oQ hl=>?_⟩ hs
  by_cases Aa:k=m
  ·subst Aa
   rw[ho] at gg;injection gg with gg;subst gg
   obtain⟨M0,H0,h0⟩:=s.fR k o ho hk mU
   have dQ:=WA (bY:=bY) (V:=V) (L:=fun i=>d.contains i) ho dw hk s.closed
   rw[← s.nt] at dQ
   have hp:∀j,bm ms j k=true→d.contains j=true:=fun j hj=>s.closed j k hj hk
   have heq:bF base id FO (fun i=>bm ms i k&&!M i) As H=gF base (fun i=>bm ms i k) fl H:=by
    rw[s.kQ,HP]
    refine zV fun j _=>?_
    cases hb:bm ms j k with
    |false=>rfl
    |true=>rw[hp j hb];simp
   rcases h0 with⟨hw,⟨h1,h2,h3,h4,ha⟩|hA⟩|h0
   ·obtain⟨v,h5,hv,oR⟩:=gf (by rw[dQ.wanted];exact hw)
    rw[s.nt] at hv
    have WG:=Wy (bY:=bY) st (V:=V) (L:=fun i=>d.contains i) ho dw Ku hk hv
    subst WG
    exact .inl ⟨hw,.inl ⟨h1,h2,h3,h5,by rw[heq,← Bi dQ.eval];exact oR⟩⟩
   ·exact .inl ⟨hw,.inr hA⟩
   exact .inr h0
  refine s.now k ok gg hk mU (fun h=>oQ ?_) hl
  rw[List.mem_filter]
  exact⟨h,by rw[nv Aa];rfl⟩
theorem AW.sched {id:Nat}{ts:aC}{h:ae}{items:List gT}(hm:P.follows .mixedOrders=true)(dw:EU ops ms W As=true)(kE:zZ As=true)(hc:xd ops ms W As [] W [] items=true)
  (hs:xc P lo ops h.next ms W As (Q .normal) items ts [] (ae.mR (lr As ops.size) h)):AW P lo (.region id ops true) Q ts h:=by
 have st:=Ws dw
 have e1:eA ops (fun _=>Go.undef) (fun _=>false) ts ops.size=ts:=by
  have:∀n,eA ops (fun _=>Go.undef) (fun _=>false) ts n=ts:=by
   intro n
   induction n with
   |zero=>rfl
   |succ n ih=>simp only[eA,bl];exact ih
  exact this _
 have e2:[]=dO (fun _=>false) (fun _=>false) (fun _=>none) As:=by
  have:∀as,dO (fun _=>false) (fun _=>false) (fun _=>none) as=[]:=by
   intro as
   induction as with
   |nil=>rfl
   |cons a r ih=>rw[HO rfl];exact ih
  exact(this As).symm
 obtain⟨V',dR,_,hD⟩:=Dh (P:=P) (lo:=lo) (base:=h.next) (bY:=ts) (Q:=Q) st kE items [] W [] none (fun _=>Go.undef) (fun _=>none) (fun _=>false) (ae.mR (lr As ops.size) h) ts [] hc
  ⟨e1.symm,e2,fun _ _ _ h=>(by cases h),fun w hw=>⟨fun h=>(by cases h),fun h=>absurd hw h⟩,fun _ h=>h,st.chain,fun _ _=>rfl,fun _ h=>(by cases h),fun _ _ _ h=>(by cases h),fun _ _ _ h=>(by cases h)⟩ hs
 exact AW.drawn hm st hD
end
section
variable {P:Program} {lo:Nat} {Q:kD} {ts:aC} {h:ae}
theorem Rel.kill {U:Mu}{w:World}(r:Rel U lo h w)(l:Nat)(hl:l<h.next):Rel U lo (h.put l none) w:=
 r.sub (Nat.le_refl _) (fun o x hx=>by
  rw[ae.dB _ _ _ _ hl] at hx
  by_cases ho:o=l
  ·simp[ho] at hx
  simpa[ho] using hx) (Nat.le_refl _) r.bA
theorem Frame.kill {U aN:Mu}{h':ae}{w w':World}(f:Frame lo U h w aN h' w')(l:Nat)(hl:l<h'.next)(cw:lo≤l):Frame lo U h w aN (h'.put l none) w' where
  le:=f.le
  size:=f.size
  next:=f.next
  kept:=f.kept
  own b hb:=by
    rintro⟨o,x,a,C,h1,h2,h3⟩
    rw[ae.dB _ _ _ _ hl] at h2
    by_cases ho:o=l
    · simp[ho] at h2
    exact f.own b hb ⟨o,x,a,C,h1,by simpa[ho] using h2,h3⟩
  low o ho:=by rw[ae.dB _ _ _ _ hl,if_neg (by omega)];exact f.low o ho
  fR:=f.fR
  born o ho hn:=by
    rw[ae.dB _ _ _ _ hl]
    by_cases A4:o=l
    · simp[A4]
    simpa[A4] using f.born o ho hn
  calm:=f.calm
theorem Pe {U:Mu}{w:World}(r:Rel U lo h w){l b a C:Nat}{x:a7}(cw:lo≤l)(hx:h.get l=some x)(hm:U l=some (b,a,C)):uU U (h.put l none) b:=by
 intro o y a' C' hy dZ
 rw[ae.dB _ _ _ _ (ae.fC hx)] at hy
 by_cases ho:o=l
 ·simp[ho] at hy
 simp[ho] at hy
 exact ho (r.inj l o x y b a C a' C' cw hx hy hm dZ).symm
theorem Rel.Kv {U:Mu}{w:World}{o:Obj}(r:Rel U lo h w){l b C:Nat}{x:a7}(hl:l<h.next)(hm:U l=some (b,0,C))(u:uU U h b)(hK:bE.K≤b)(hx:fp U (w.putObj b o) b 0 C x)(hf:∀off,(w.putObj b o).frozen? ⟨b,off,none⟩=false) :
  Rel U lo (h.put l (some x)) (w.putObj b o):=by
 have r':=HG o r u hK
 refine⟨fun p y hy=>?_,fun p p' y y' b' a C1 a' C2 uI hy oz cj gu=>?_,r.ng,fun p y b' a C1 hp hy cj off=>?_,r.bA,⟨r'.jA.gl,r'.jA.ks,fun p y b' a C1 hp hy cj=>?_⟩⟩
 ·rw[ae.dB _ _ _ _ hl] at hy
  by_cases gZ:p=l
  ·subst gZ;simp at hy;subst hy;exact⟨b,0,C,hm,hx⟩
  exact r'.be p y (by simpa[gZ] using hy)
 ·rw[ae.dB _ _ _ _ hl] at hy oz
  by_cases gZ:p=l
  ·by_cases qc:p'=l
   ·rw[gZ,qc]
   simp[qc] at oz
   subst gZ;rw[hm] at cj;injection cj with cj;injection cj with cj _;subst cj
   exact(u p' y' a' C2 oz gu).elim
  simp[gZ] at hy
  by_cases qc:p'=l
  ·subst qc;rw[hm] at gu;injection gu with gu;injection gu with gu _;subst gu
   exact(u p y a C1 hy cj).elim
  simp[qc] at oz
  exact r.inj p p' y y' b' a C1 a' C2 uI hy oz cj gu
 ·rw[ae.dB _ _ _ _ hl] at hy
  by_cases gZ:p=l
  ·subst gZ;rw[hm] at cj;injection cj with cj;injection cj with cj _;subst cj;exact hf off
  exact r'.eo p y b' a C1 hp (by simpa[gZ] using hy) cj off
 rw[ae.dB _ _ _ _ hl] at hy
 by_cases gZ:p=l
 ·subst gZ;rw[hm] at cj;injection cj with cj;injection cj with cj _;subst cj;exact hK
 exact r'.jA.hi p y b' a C1 hp (by simpa[gZ] using hy) cj
theorem Frame.Kv {U aN:Mu}{h':ae}{w w':World}(f:Frame lo U h w aN h' w'){l b C:Nat}{x y:a7}(hl:l<h'.next)(cw:lo≤l)(hx:h.get l=some x)(hm:U l=some (b,0,C)):Frame lo U h w aN (h'.put l (some y)) w' where
  le:=f.le
  size:=f.size
  next:=f.next
  kept:=f.kept
  own b' hb:=by
    rintro⟨o,z,a,C',h1,h2,h3⟩
    rw[ae.dB _ _ _ _ hl] at h2
    by_cases ho:o=l
    · subst ho
      rw[f.le _ _ hm] at h3;injection h3 with h3;injection h3 with h3 _;subst h3
      exact⟨o,x,0,C,cw,hx,hm⟩
    exact f.own b' hb ⟨o,z,a,C',h1,by simpa[ho] using h2,h3⟩
  low o ho:=by rw[ae.dB _ _ _ _ hl,if_neg (by omega)];exact f.low o ho
  fR:=f.fR
  born o ho hn:=by
    rw[ae.dB _ _ _ _ hl,if_neg (by rintro rfl;rw[hx] at hn;cases hn)]
    exact f.born o ho hn
  calm:=f.calm
def rM (ts:aC):List (Tmp×Value)→aC
 |[]=>ts
 |(t,v)::r=>rM (ts.set t v) r
theorem Pf {U:Mu}:∀(ps:List Tmp) {vs kz:List Value} {ts:aC} {tmps:Array Value},bn U vs kz→dd U ts tmps→
  dd U (rM ts (ps.zip vs)) ((ps.zip kz).foldl (fun tmps (x:Tmp×Value)=>tmps.setIfInBounds x.1 x.2) tmps)
 |[],_,_,_,_,_,ht=>by simpa[rM] using ht
 |p::ps,[],kz,_,_,hv,ht=>by
  have:=hv.iP;subst this
  simpa[rM] using ht
 |p::ps,v::vs,kz,ts,tmps,hv,ht=>by
  obtain⟨v',r',rfl,h1,h2⟩:=hv.dt
  simp only[List.zip_cons_cons,rM,List.foldl_cons]
  refine Pf ps h2 ?_
  have:=bn.set p ht h1
  simpa[dd] using this
def WH (L:Jl)(l:Nat)(K:Bool→ae→Prop):kD
 |.normal,_,h=>K true (h.put l (some (.loop L none)))
 |.ret,_,h=>K false (h.put l (some (.loop L (some .ret))))
 |.exit id,_,h=>K false (h.put l (some (.loop L (some (.exit id)))))
 |.goto t,_,h=>K false (h.put l (some (.loop L (some (.goto t)))))
 |_,_,_=>False
theorem oM.yield {o:Oper}{fo:Operand}{args:Array Operand}{aT:Array TypeId}{l:Nat}{L:Jl}{vs:List Value}{next:aC→ae→Prop}(ho:o.op=.call ⟨.value fo,args,aT⟩)
  (hf:cI ts fo=some (.func (.yield l) #[] #[])) (hl:ns ts args.toList=some vs) (hg:h.get l=some (.loop L none)) (cw:lo≤l) (hlen:vs.length=L.params.size)
  (hc:AW P lo L.assign (HD (AW P lo L.body (WH L l fun b h'=>next (bw ts o.dst (.bool b)) h')) (fun _ _ _=>False)) (rM L.ts (L.params.toList.zip vs)) (h.put l none)):oM P lo o ts h next:=by
 intro F hF n U a w Q ht r
 refine⟨Bh F hF,?_⟩
 rw[Oper.semAt_eq _ _ _ (fun c hc=>by rw[ho] at hc;cases hc)]
 have pD:=fq ht hf
 generalize rH:a.eval fo=fv at pD
 cases pD with
 |jU _ b C hm=>
  obtain⟨b',a',C',dZ,oI⟩:=r.be l _ hg
  rw[hm] at dZ;injection dZ with dZ;injection dZ with e1 e2;injection e2 with e2 e3;subst e1;subst e2;subst e3
  obtain⟨_,rec,yy,dw,Pg,Bv,has,Ph,nt⟩:=oI
  have hb:=Bf yy
  have Pj:=Db ht hl
  have e8:(#[]++args.map a.eval:Array Value).size=rec.params.size:=by
   have:=Pj.1
   rw[Bv,← hlen,this];simp
  have eG:(execOp a.eval o).run P w=.ok (.round b rec.fn ((rec.params.zip (#[]++args.map a.eval)).foldl (fun tmps (t,a)=>tmps.setIfInBounds t a) rec.tmps) rec.assign rec.body) w:=by
   simp only[execOp,ho,resolve,rH,Deferred.ofValue,Sem.run_bind,Sem.run_pure,Result.andThen_ok,invoke,run_yield yy e8]
  rw[eG]
  refine⟨hF.one n,?_⟩
  refine roundIn_of_wpIn (hF.fn _) ?_
  have fa:=ae.fC hg
  have sG:xV U lo h b:=⟨l,_,0,C,cw,hg,hm⟩
  have hu:=Pe r cw hg hm
  have rk:=r.kill l fa
  have fk:Frame lo U h w U (h.put l none) w:=(Frame.refl lo U h w).kill l fa cw
  have E0:dd U (rM L.ts (L.params.toList.zip vs)) ((rec.params.zip (#[]++args.map a.eval)).foldl (fun tmps (t,a)=>tmps.setIfInBounds t a) rec.tmps):=by
   have:=Pf L.params.toList (U:=U) (vs:=vs) (kz:=(args.map a.eval).toList) (by simpa using Pj) nt
   rw[← Array.foldl_toList,Bv]
   simpa using this
  rw[has]
  refine wpIn_mono (hc (F.inRound b) (hF.inRound b) (n - 1) U { tmps:=_,defers:=[] } w E0 rk (fun l' nV=>?_)) fun e a1 w1 pB=>?_
  ·have:b=l':=by simpa[Fence.inRound] using nV
   subst this;exact⟨rec,yy,hu⟩
  obtain⟨jv,h1,mK,ms1,Bw,r1,f1,j3,_,hq⟩:=pB
  cases e with
  |normal=>
   have Ab:w1.heap[b]?=some (.loop rec):=by rw[f1.kept b hb hu.own];exact yy
   have HV:=hu.frame hb f1
   refine⟨_,run_beginRound Ab (by rw[dw];rfl),?_⟩
   rw[← Ph] at hq
   have gG:=Bf Ab
   have r2:=HG (.loop { rec with state:=.busy }) r1 HV (r.jA.hi l _ b 0 _ cw hg hm)
   have f2:=HH (.loop { rec with state:=.busy }) (fk.trans f1) (.inr sG)
   have u9:(w1.putObj b (.loop { rec with state:=.busy })).heap[b]?=some (.loop { rec with state:=.busy }):=World.putObj_heap_same gG
   refine wpIn_mono (hq (F.inRound b) (hF.inRound b) (n - 1) mK a1 _ Bw r2 (fun l' nV=>?_)) fun e a2 w3 js=>?_
   ·have:b=l':=by simpa[Fence.inRound] using nV
    subst this;exact⟨_,u9,HV⟩
   obtain⟨ts3,h3,WJ,ms3,Pk,r3,f3,Pl,_,zQ⟩:=js
   have cK:=Bf u9
   have Ac:w3.heap[b]?=some (.loop { rec with state:=.busy }):=by rw[f3.kept b cK HV.own];exact u9
   have oa:=Bf Ac
   have Bx:=HV.frame cK f3
   have E1:=f2.trans f3
   have Ev:=E1.le _ _ hm
   have By:l<h3.next:=Nat.lt_of_lt_of_le fa E1.next
   have fin:∀(jump:Option Code),next (bw ts o.dst (.bool jump.isNone)) (h3.put l (some (.loop L jump)))→
     ∃v w',(Instr.endRound b jump).run P w3=.ok v w'∧fu lo U h w a.defers (fun _=>next) .normal (a.put o.dst v) w':=by
    intro jump hn
    refine⟨_,_,run_endRound jump Ac,bw ts o.dst (.bool jump.isNone),h3.put l (some (.loop L jump)),WJ,Bg (ht.mono E1.le) (.bool _) o.dst,?_,?_,put_defers _ _ _,hn⟩
    ·refine r3.Kv By Ev Bx (r.jA.hi l _ b 0 _ cw hg hm) ⟨rfl,_,World.putObj_heap_same oa,rfl,rfl,Bv,has,Ph,nt.mono E1.le⟩ fun off=>?_
     simp only[World.frozen?,World.putObj_heap_same oa]
    exact(HH _ E1 (.inr sG)).Kv By cw hg hm
   cases e with
   |normal=>exact fin none zQ
   |ret=>exact fin (some .ret) zQ
   |exit id=>exact fin (some (.exit id)) zQ
   |goto t=>exact fin (some (.goto t)) zQ
   |panic ch=>exact zQ.elim
   |outgrown=>exact zQ.elim
  |exit id=>exact hq.elim
  |goto l=>exact hq.elim
  |ret=>exact hq.elim
  |panic ch=>exact hq.elim
  |outgrown=>exact hq.elim
theorem WK {U:Mu}{w:World}(o:Obj)(r:Rel U lo h w):Rel U lo h (w.alloc o)∧Frame lo U h w U h (w.alloc o)∧uU U h w.heap.size:=by
 have hblk:∀p y b a C',h.get p=some y→U p=some (b,a,C')→b<w.heap.size:=fun p y b a C' hy hm=>by
  obtain⟨b',a',oy,h1,h2⟩:=r.be p y hy
  rw[hm] at h1;injection h1 with h1;injection h1 with h1 _;subst h1
  exact h2.rD
 refine⟨⟨fun p y hy=>?_,r.inj,r.ng,fun p y b a C hl hy hm off=>?_,r.bA,r.jA.step (by simp) (fun b hb _=>heap_alloc_old _ _ hb) fun o x b a C h1 h2 h3 _=>⟨o,x,a,C,h1,h2,h3⟩⟩,⟨Mu.le_refl _,by simp,Nat.le_refl _,fun b hb _=>heap_alloc_old _ _ hb,fun _ _ h=>h,fun _ _=>rfl,fun _ _=>rfl,fun _ _ h=>h,⟨rfl,rfl,rfl,fun _=>by first|exact Nat.le_refl _|exact Nat.le_add_right _ _|exact Nat.le_succ _⟩⟩,fun p y a C hy hm=>?_⟩
 ·obtain⟨b,a,C,h1,h2⟩:=r.be p y hy
  exact⟨b,a,C,h1,h2.kept (heap_alloc_old _ _ h2.rD)⟩
 ·rw[xW (heap_alloc_old _ _ (hblk p y b a C hy hm))]
  exact r.eo p y b a C hl hy hm off
 exact Nat.lt_irrefl _ (hblk p y _ a C hy hm)
theorem AW.rangeFunc (tag:Nat){g:Operand}{ps:Array Tmp}{assign body:Code}{f:FuncId}{first captured:Array Value}(hg:cI ts g=some (.func (.func f) first captured))(dM:∀as w,(callFunc f as).run P w=.ok (.enter f as) w)
  (hc:mr P lo f (first.toList++[.func (.yield h.next) #[] #[]]++captured.toList) (h.alloc (.loop ⟨ps,assign,body,ts,tag⟩ none)) fun _ h'=>
   ∃L jump,h'.get h.next=some (.loop L jump)∧match jump with
    |none=>Q .normal ts (h'.put h.next none)
    |some c=>AW P lo c Q ts (h'.put h.next none)):AW P lo (.rangeFunc g ps assign body) Q ts h:=by
 intro F hF n U a w ht r ro
 refine wpIn_rangeFunc fun fn Pm=>?_
 have enter:∃mark w' rec,(Instr.enterLoop fn a.tmps ps assign body F.round).run P w=.ok (w'.heap.size,mark) (w'.alloc (.loop rec))∧Rel U lo h w'∧Frame lo U h w U h w'∧mQ w.heap.size U h w' mark∧
   rec.state=.ready∧rec.pending=none∧rec.params=ps∧rec.assign=assign∧rec.body=body∧rec.tmps=a.tmps:=by
  cases n4:F.round with
  |none=>
   obtain⟨k1,k2,k3⟩:=WK (.deferred (some [])) r
   refine⟨[{ target:=.collected w.heap.size,args:=#[] }],w.alloc (.deferred (some [])),{ state:=.ready,pending:=none,fn,tmps:=a.tmps,params:=ps,assign,body,defers:=w.heap.size },?_,k1,k2,
    ⟨⟨w.heap.size,rfl,Nat.le_refl _,by rw[heap_alloc];simp,k3,fun _ h=>(by cases h)⟩,trivial⟩,rfl,rfl,rfl,rfl,rfl,rfl⟩
   rw[run_enterLoop_outer,World.size_alloc]
  |some l0=>
   obtain⟨r0,h1,_⟩:=ro l0 n4
   refine⟨[],w,{ state:=.ready,pending:=none,fn,tmps:=a.tmps,params:=ps,assign,body,defers:=r0.defers },?_,r,Frame.refl _ _ _ _,trivial,rfl,rfl,rfl,rfl,rfl,rfl⟩
   simp only[Instr.enterLoop,Sem.run_bind,run_getLoop h1,Result.andThen_ok,Sem.run_pure,run_newObj_alloc]
 obtain⟨mark,w',rec,eG,r',f',C7,rK,ft,WL,WM,WN,WO⟩:=enter
 have oI:fp (U.put h.next (w'.heap.size,0,0)) (w'.alloc (.loop rec)) w'.heap.size 0 0 (.loop ⟨ps,assign,body,ts,tag⟩ none):=
  ⟨rfl,rec,by rw[heap_alloc];simp,rK,ft,WL,WM,WN,by rw[WO];exact ht.mono (r'.AR _)⟩
 obtain⟨r1,f1⟩:=Jn r' (.loop rec) 0 (.loop ⟨ps,assign,body,ts,tag⟩ none) oI (fun off=>by simp only[World.frozen?,heap_alloc];simp)
 have pD:=fq ht hg
 generalize rH:a.eval g=fv at pD
 cases pD with
 |func _ _ _ gE du hx hy rx ry=>
  refine⟨w'.heap.size,mark,w'.alloc (.loop rec),{ target:=.fn (.func f) du,args:=gE++#[.func (.yield w'.heap.size) #[] #[]] },w'.alloc (.loop rec),f,gE++#[.func (.yield w'.heap.size) #[] #[]]++du,w'.alloc (.loop rec),eG,?_,fun f' _=>hF.fn f',by simp only[invoke];exact dM _ _,hF.one n,?_⟩
  ·have WQ:Array.map a.eval #[Operand.const (.func (.yield w'.heap.size) #[] #[])]=#[.func (.yield w'.heap.size) #[] #[]]:=by simp[Act.eval]
   simp only[resolve,rH,Deferred.ofValue,Sem.run_pure,WQ]
  have gZ:gk F.plain:=⟨hF.fn,hF.depth,hF.alive⟩
  have fH:bn (U.put h.next (w'.heap.size,0,0)) (first.toList++[Value.func (.yield h.next) #[] #[]]++captured.toList) (gE++#[Value.func (.yield w'.heap.size) #[] #[]]++du).toList:=by
   simp only[Array.toList_append]
   exact(((qa.2 ⟨hx,rx⟩).mono (r'.AR _)).append (.cons (.jU _ _ 0 (Mu.ct _ _ _)) (.nil _))).append ((qa.2 ⟨hy,ry⟩).mono (r'.AR _))
  have uV:CallsIn F (n - 1) P f (gE++#[.func (.yield w'.heap.size) #[] #[]]++du) (w'.alloc (.loop rec)) _:=hc F.plain gZ rfl (n - 1) _ _ _ fH r1
  refine uV.mono fun e w3 ⟨r2,v,h',aN,e1,e2,r3,f3,L,jump,hj,hq⟩=>?_
  subst e1
  obtain⟨b,a',C',dZ,oS⟩:=r3.be h.next _ hj
  rw[f3.le _ _ (Mu.ct _ _ _)] at dZ
  injection dZ with dZ;injection dZ with k1 k2;injection k2 with k2 k3;subst k1;subst k2;subst k3
  obtain⟨_,Bz,E2,Kw,BA,_⟩:=oS
  have WR:Bz.state≠.busy:=by rw[Kw];cases jump<;>simp
  have hu:=Pe r3 r.bA hj (f3.le _ _ (Mu.ct _ _ _))
  have aU:=ae.fC hj
  have E3:=r.bA
  have r4:=HG (.loop { Bz with state:=.exhausted }) (r3.kill h.next aU) hu r'.jA.ks
  have f4:Frame lo U h w' aN (h'.put h.next none) (w3.putObj w'.heap.size (.loop { Bz with state:=.exhausted })):=
   HH _ ((f1.trans f3).kill h.next aU E3) (.inl (Nat.le_refl _))
  refine⟨jump,_,(run_endLoop E2 WR).trans (congrArg (fun j=>Result.ok j _) BA),?_⟩
  cases jump with
  |none=>exact⟨ts,_,aN,mark,ht.mono f4.le,r4,f'.trans f4,rfl,C7.frame f4,hq⟩
  |some c=>
   have:=hq F hF n aN { a with defers:=mark++a.defers } _ (ht.mono f4.le) r4 (ro.frame (f'.trans f4))
   exact wpIn_mono this fun _ _ _ hl=>hl.trans (f'.trans f4) (C7.frame f4)
theorem Di {b:Go.Frame}{a:Act}{k:List Item}{cs:List Go.Frame}{w:World}{c:Code}:step P (lone (b.atR a (.code (.scope c)::k)) cs w)=.next (lone (b.atR a (.code c::.inScope c::k)) cs w):=
 step_lone_go (by simp[stepG,stepG.exec,Frame.atR])
theorem WS {b:Go.Frame}{a:Act}{k:List Item}{cs:List Go.Frame}{w:World}{c:Code}:step P (lone (b.atR a (.inScope c::k)) cs w)=.next (lone (b.atR a k) cs w):=
 step_lone_go (by simp[stepG,stepG.exec,Frame.atR])
theorem WT {F:Fence}{n:Nat}{c:Code}{Q:Exit→Act→World→Prop}{a:Act}{w:World}(h:c.wpIn F n P (Exit.noGoto Q) a w):(Code.scope c).wpIn F n P Q a w:=by
 intro b k cs n4 hb hr
 have h0:(lone (b.atR a (.code (.scope c)::k)) cs w).fenced P F:=fenced_calm hb hr rfl
 obtain⟨e,va,vc,hq,nq⟩:=h b (.inScope c::k) cs n4 hb hr
 cases e with
 |normal=>exact⟨.normal,va,vc,hq,.head h0 Di (StepsIn.trans nq (.one (fenced_calm hb hr rfl) WS))⟩
 |exit id=>
  have hx:exitTo id (.inScope c::k)=exitTo id k:=by simp[exitTo]
  exact⟨_,va,vc,hq,fun k' hk=>.head h0 Di (nq.1 k' (by rw[hx];exact hk)),
   fun oF hk=>let ⟨k₁,h1,h2⟩:=nq.2 oF (by rw[hx];exact hk);⟨k₁,h1,.head h0 Di h2⟩⟩
 |goto l=>exact hq.elim
 |ret=>exact⟨_,va,vc,hq,.of_steps (.one h0 Di) nq⟩
 |panic ch=>exact⟨_,va,vc,hq,.of_steps (.one h0 Di) nq⟩
 |outgrown=>exact⟨_,va,vc,hq,.of_steps (.one h0 Di) nq⟩
def WU (Q:kD):kD
 |.goto _,_,_=>False
 |e,ts,h=>Q e ts h
theorem AW.scope {c:Code}(hc:AW P lo c (WU Q) ts h):AW P lo (.scope c) Q ts h:=by
 intro F hF n U a w ht r ro
 refine WT (wpIn_mono (hc F hF n U a w ht r ro) fun e a' w' hl=>?_)
 cases e with
 |goto l=>obtain⟨_,_,_,_,_,_,_,_,_,h⟩:=hl;exact h.elim
 |normal=>exact hl
 |exit id=>exact hl
 |ret=>exact hl
 |panic ch=>exact hl
 |outgrown=>exact hl
end
structure Pn where
  call:FuncId→List Value→ae→Option (Value×ae)
  bN:Nat→List Value→ae→Option (Value×ae)
section
variable (P:Program) (lo:Nat) (WV:Pn) (n:Nat)
end
section
variable {P:Program} {lo:Nat} {WV:Pn} {n:Nat}
end
section
variable {P:Program} {lo:Nat}
end
section
variable {P:Program} {lo:Nat} {ts:aC} {h:ae}
end
section
variable {P:Program} {lo:Nat} {Q:kD} {ts:aC} {h:ae} {pv:Value}
end
section
variable {P:Program} {lo:Nat} {ts:aC} {h:ae}
end
end Go.Am
end
