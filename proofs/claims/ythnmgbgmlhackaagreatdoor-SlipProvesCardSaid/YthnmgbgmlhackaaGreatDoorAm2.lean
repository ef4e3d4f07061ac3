/-
 What is used in the proof of a statement (part Am2); no condition.
-/
import Derived.LoopNIn
import Derived.DefersIn
import Derived.RangeFuncLeaves
import Derived.RangeFuncRecord
import Derived.Scope
import Derived.RecoverIn
import Derived.Test.YthnmgbgmlhackaaGreatDoorAm1
set_option linter.all false
set_option maxHeartbeats 40000000
set_option maxRecDepth 100000
section
namespace Go.Am
variable [bE]
structure jJ (F:Fence):Prop where
  fn:∀f,F.fn f
  depth:F.depth=none
  alive:F.alive=false
theorem jJ.one {F:Fence}(h:jJ F)(n:Nat):F.depth.isSome=true→1≤n:=fun hd=>by rw[h.depth] at hd;cases hd
theorem Ux:jJ Fence.wide:=⟨fun _=>trivial,rfl,rfl⟩
theorem jJ.inRound {F:Fence}(h:jJ F)(l:Nat):jJ (F.inRound l):=⟨h.fn,h.depth,h.alive⟩
theorem jJ.eq {F:Fence}(h:jJ F)(hr:F.round=none):F=Fence.wide:=by
 obtain⟨fn,depth,alive,round⟩:=F
 obtain⟨h1,h2,h3⟩:=h
 simp only at h1 h2 h3 hr
 subst h2;subst h3;subst hr
 have:fn=fun _=>True:=funext fun f=>propext ⟨fun _=>trivial,fun _=>h1 f⟩
 subst this
 rfl
abbrev ow:=Exit→aL→ai→Prop
def ix (lo:Nat)(U:Mu)(h:ai)(w:World)(ds:List Deferred)(Q:ow)(e:Exit)(a':Act)(w':World):Prop:=
 ∃bo h' aV,eA aV bo a'.tmps∧Rel aV lo h' w'∧Frame lo U h w aV h' w'∧a'.defers=ds∧Q e bo h'
theorem ix.trans {lo:Nat}{U qS:Mu}{h h1:ai}{w w1:World}{ds:List Deferred}{Q:ow}{e:Exit}{a':Act}{w':World}(f:Frame lo U h w qS h1 w1)(l:ix lo qS h1 w1 ds Q e a' w'):ix lo U h w ds Q e a' w':=
 let ⟨bo,h',aV,h2,h3,h4,h5,h6⟩:=l
 ⟨bo,h',aV,h2,h3,f.trans h4,h5,h6⟩
theorem ix.mono {lo:Nat}{U:Mu}{h:ai}{w:World}{ds:List Deferred}{Q Q':ow}{e e':Exit}{a':Act}{w':World}(l:ix lo U h w ds Q e a' w')(hq:∀ts h,Q e ts h→Q' e' ts h):ix lo U h w ds Q' e' a' w':=
 let ⟨bo,h',aV,h2,h3,h4,h5,h6⟩:=l
 ⟨bo,h',aV,h2,h3,h4,h5,hq _ _ h6⟩
def yC (U:Mu)(h:ai)(b:Nat):Prop:=∀o x a C,h.get o=some x→U o=some (b,a,C)→False
theorem yC.own {U:Mu}{lo:Nat}{h:ai}{b:Nat}(u:yC U h b):¬Bt U lo h b:=fun⟨o,x,a,C,_,h2,h3⟩=>u o x a C h2 h3
theorem yC.frame {lo:Nat}{U aV:Mu}{h h':ai}{w w':World}{b:Nat}(u:yC U h b)(hb:b<w.heap.size)(f:Frame lo U h w aV h' w'):yC aV h' b:=by
 intro o x a C hx hm
 by_cases hl:lo≤o
 ·exact u.own (f.own b hb ⟨o,x,a,C,hl,hx,hm⟩)
 rw[f.low o (by omega)] at hx
 rw[f.jg o (ai.iE hx)] at hm
 exact u o x a C hx hm
def E0 (F:Fence)(U:Mu)(h:ai)(w:World):Prop:=∀l,F.round=some l→∃r:Loop,w.heap[l]?=some (.loop r)∧yC U h l
theorem E1 {w:World}{b:Nat}{o:Obj}(h:w.heap[b]?=some o):b<w.heap.size:=by
 rcases Nat.lt_or_ge b w.heap.size with h'|h'
 ·exact h'
 rw[Array.getElem?_eq_none h'] at h;cases h
theorem E0.frame {F:Fence}{lo:Nat}{U aV:Mu}{h h':ai}{w w':World}(r:E0 F U h w)(f:Frame lo U h w aV h' w'):E0 F aV h' w':=fun l hl=>by
 obtain⟨rec,h1,h2⟩:=r l hl
 have hb:=E1 h1
 exact⟨rec,by rw[f.kept l hb h2.own];exact h1,h2.frame hb f⟩
theorem E0.none {F:Fence}{U:Mu}{h:ai}{w:World}(hF:F.round=none):E0 F U h w:=fun l hl=>by rw[hF] at hl;cases hl
def qX (B:Nat)(U:Mu)(h:ai)(w:World):List Deferred→Prop
 |[]=>True
 |d::ds=>(∃r,d={ target:=.collected r,args:=#[] }∧B≤r∧w.heap[r]?=some (.deferred (some []))∧yC U h r∧∀d'∈ds,d'≠d)∧qX B U h w ds
theorem qX.frame {B lo:Nat}{U aV:Mu}{h h':ai}{w w':World}(f:Frame lo U h w aV h' w'):∀ {ds:List Deferred},qX B U h w ds→qX B aV h' w' ds
 |[],_=>trivial
 |_::_,⟨⟨r,h1,h2,h3,h4,h5⟩,hr⟩=>
  have hb:=E1 h3
  ⟨⟨r,h1,h2,by rw[f.kept r hb h4.own];exact h3,h4.frame hb f,h5⟩,hr.frame f⟩
theorem qX.lt {B:Nat}{U:Mu}{h:ai}{w:World}:∀ {ds:List Deferred},qX B U h w ds→∀d∈ds,∃r,d={ target:=.collected r,args:=#[] }∧B≤r∧r<w.heap.size
 |[],_,d,hd=>by cases hd
 |_::_,⟨⟨r,h1,h2,h3,_⟩,hr⟩,d,hd=>by
  rcases List.mem_cons.1 hd with rfl|hd
  ·exact⟨r,h1,h2,E1 h3⟩
  exact hr.lt d hd
theorem qX.append {B B':Nat}{U:Mu}{h:ai}{w:World}(hB:B≤B'){ds:List Deferred}(h2:qX B U h w ds)(a8:∀d∈ds,∃r,d={ target:=.collected r,args:=#[] }∧r<B') :
  ∀ {Uy:List Deferred},qX B' U h w Uy→qX B U h w (Uy++ds)
 |[],_=>h2
 | _ :: _, ⟨⟨r, h3, h4, h5, h6, h7⟩, hr⟩ => ⟨⟨r, h3, by omega, h5, h6, fun d' xG => by
   rcases List.mem_append.1 xG with h|h
   ·exact h7 d' h
   obtain⟨r',h8,h9⟩:=a8 d' h
   rintro rfl
   rw[h3] at h8
   injection h8 with h8 _;injection h8 with h8
   omega⟩,qX.append hB h2 a8 hr⟩
def LiftM (lo:Nat)(U:Mu)(h:ai)(w:World)(ds:List Deferred)(Q:ow)(e:Exit)(a':Act)(w':World):Prop:=
 ∃bo h' aV ms,eA aV bo a'.tmps∧Rel aV lo h' w'∧Frame lo U h w aV h' w'∧a'.defers=ms++ds∧qX w.heap.size aV h' w' ms∧Q e bo h'
theorem ix.Hf {lo:Nat}{U:Mu}{h:ai}{w:World}{ds:List Deferred}{Q:ow}{e:Exit}{a':Act}{w':World}(l:ix lo U h w ds Q e a' w'):LiftM lo U h w ds Q e a' w':=
 let ⟨bo,h',aV,h2,h3,h4,h5,h6⟩:=l
 ⟨bo,h',aV,[],h2,h3,h4,h5,trivial,h6⟩
theorem LiftM.trans {lo:Nat}{U qS:Mu}{h h1:ai}{w w1:World}{ds ms:List Deferred}{Q:ow}{e:Exit}{a':Act}{w':World}(f:Frame lo U h w qS h1 w1)(hm:qX w.heap.size qS h1 w1 ms)
  (l:LiftM lo qS h1 w1 (ms++ds) Q e a' w'):LiftM lo U h w ds Q e a' w':=by
 obtain⟨bo,h',aV,O5,h2,h3,h4,h5,h6,h7⟩:=l
 refine⟨bo,h',aV,O5++ms,h2,h3,f.trans h4,by rw[h5,List.append_assoc],qX.append f.size (hm.frame h4) (fun d hd=>?_) h6,h7⟩
 obtain⟨r,h8,_,h9⟩:=hm.lt d hd
 exact⟨r,h8,h9⟩
theorem LiftM.mono {lo:Nat}{U:Mu}{h:ai}{w:World}{ds:List Deferred}{Q Q':ow}{e e':Exit}{a':Act}{w':World}(l:LiftM lo U h w ds Q e a' w')(hq:∀ts h,Q e ts h→Q' e' ts h):LiftM lo U h w ds Q' e' a' w':=
 let ⟨bo,h',aV,ms,h2,h3,h4,h5,h6,h7⟩:=l
 ⟨bo,h',aV,ms,h2,h3,h4,h5,h6,hq _ _ h7⟩
def AW (P:Program)(lo:Nat)(c:Code)(Q:ow)(ts:aL)(h:ai):Prop:=
 ∀F,jJ F→∀n U a w,eA U ts a.tmps→Rel U lo h w→E0 F U h w→c.wpIn F n P (LiftM lo U h w a.defers Q) a w
def qv (P:Program)(lo:Nat)(f:FuncId)(args:List Value)(h:ai)(R:Value→ai→Prop):Prop:=
 ∀F,jJ F→F.round=none→∀n U w bj,bB U args bj.toList→Rel U lo h w→
  CallsIn F n P f bj w fun e w'=>∃r v h' aV,e=.returned v∧ao aV r v∧Rel aV lo h' w'∧Frame lo U h w aV h' w'∧R r h'
def sV (P:Program)(lo:Nat)(o:Oper)(ts:aL)(h:ai)(next:aL→ai→Prop):Prop:=
 ∀F,jJ F→∀n U a w Q,eA U ts a.tmps→Rel U lo h w→o.wpIn F n P a w (ix lo U h w a.defers (fun _=>next) .normal) Q
section
variable {P:Program} {lo:Nat} {Q Q':ow} {ts:aL} {h:ai}
theorem AW.mono {c:Code}(hc:AW P lo c Q ts h)(hq:∀e ts h,Q e ts h→Q' e ts h):AW P lo c Q' ts h:=
 fun F hF n U a w ht r ro=>wpIn_mono (hc F hF n U a w ht r ro) fun _ _ _ hl=>hl.mono (hq _)
theorem qv.mono {f:FuncId}{args:List Value}{R R':Value→ai→Prop}(hc:qv P lo f args h R)(hr:∀r h,R r h→R' r h):qv P lo f args h R':=
 fun F hF sg n U w bj ha r=>(hc F hF sg n U w bj ha r).mono fun _ _ ⟨r,v,h',aV,h1,h2,h3,h4,h5⟩=>⟨r,v,h',aV,h1,h2,h3,h4,hr _ _ h5⟩
theorem sV.mono {o:Oper}{next next':aL→ai→Prop}(hc:sV P lo o ts h next)(hn:∀ts h,next ts h→next' ts h):sV P lo o ts h next':=
 fun F hF n U a w Q ht r=>Oper.wpIn_mono (fun _ _ hl=>hl.mono hn) (hc F hF n U a w Q ht r)
theorem ix.refl {U:Mu}{a:Act}{w:World}{e:Exit}(ht:eA U ts a.tmps)(r:Rel U lo h w)(hq:Q e ts h):ix lo U h w a.defers Q e a w:=
 ⟨ts,h,U,ht,r,Frame.refl _ _ _ _,rfl,hq⟩
theorem AW.skip (hq:Q .normal ts h):AW P lo .skip Q ts h:=fun _ _ _ _ _ _ ht r _=>wpIn_skip (ix.refl ht r hq).Hf
theorem AW.label {l:Nat}(hq:Q .normal ts h):AW P lo (.label l) Q ts h:=fun _ _ _ _ _ _ ht r _=>wpIn_label (ix.refl ht r hq).Hf
theorem AW.exit {id:Nat}(hq:Q (.exit id) ts h):AW P lo (.exit id) Q ts h:=fun _ _ _ _ _ _ ht r _=>wpIn_exit (ix.refl ht r hq).Hf
theorem AW.ret (hq:Q .ret ts h):AW P lo .ret Q ts h:=fun _ _ _ _ _ _ ht r _=>wpIn_ret (ix.refl ht r hq).Hf
def Ml (next:aL→ai→Prop)(Q:ow):ow
 |.normal=>next
 |e=>Q e
theorem AW.seq {x y:Code}(hx:AW P lo x (Ml (AW P lo y Q) Q) ts h):AW P lo (.seq x y) Q ts h:=by
 intro F hF n U a w ht r ro
 refine wpIn_seq (wpIn_mono (hx F hF n U a w ht r ro) fun e a' w' hl=>?_)
 obtain⟨bo,h',aV,ms,h2,h3,h4,h5,h6,h7⟩:=hl
 cases e with
 |normal=>
  have:=h7 F hF n aV a' w' h2 h3 (ro.frame h4)
  rw[h5] at this
  exact wpIn_mono this fun _ _ _ hl=>hl.trans h4 h6
 |exit id=>exact⟨bo,h',aV,ms,h2,h3,h4,h5,h6,h7⟩
 |goto l=>exact⟨bo,h',aV,ms,h2,h3,h4,h5,h6,h7⟩
 |ret=>exact⟨bo,h',aV,ms,h2,h3,h4,h5,h6,h7⟩
 |panic ch=>exact⟨bo,h',aV,ms,h2,h3,h4,h5,h6,h7⟩
 |outgrown=>exact⟨bo,h',aV,ms,h2,h3,h4,h5,h6,h7⟩
theorem AW.cond {c:Operand}{x y:Code}{b:Bool}(hc:dF ts c=some (.bool b))(hb:AW P lo (if b then x else y) Q ts h):AW P lo (.cond c x y) Q ts h:=by
 intro F hF n U a w ht r ro
 have hr:=iw ht hc
 generalize he:a.eval c=v at hr
 cases hr
 exact wpIn_cond he (hb F hF n U a w ht r ro)
def Mm (id:Nat)(Q:ow):ow
 |.exit BM=>if BM=id then Q .normal else Q (.exit BM)
 |e=>Q e
theorem AW.block {id:Nat}{c:Code}(hc:AW P lo c (Mm id Q) ts h):AW P lo (.block id c) Q ts h:=by
 intro F hF n U a w ht r ro
 refine wpIn_block (wpIn_mono (hc F hF n U a w ht r ro) fun e a' w' hl=>?_)
 obtain⟨bo,h',aV,ms,h2,h3,h4,h5,h6,h7⟩:=hl
 cases e with
 |normal=>exact⟨bo,h',aV,ms,h2,h3,h4,h5,h6,h7⟩
 |exit BM=>
  simp only[Exit.inBlock]
  by_cases hi:BM=id
  ·simp only[Mm,hi,if_true] at h7 ⊢;exact⟨bo,h',aV,ms,h2,h3,h4,h5,h6,h7⟩
  simp only[Mm,hi,if_false] at h7 ⊢;exact⟨bo,h',aV,ms,h2,h3,h4,h5,h6,h7⟩
 |goto l=>exact⟨bo,h',aV,ms,h2,h3,h4,h5,h6,h7⟩
 |ret=>exact⟨bo,h',aV,ms,h2,h3,h4,h5,h6,h7⟩
 |panic ch=>exact⟨bo,h',aV,ms,h2,h3,h4,h5,h6,h7⟩
 |outgrown=>exact⟨bo,h',aV,ms,h2,h3,h4,h5,h6,h7⟩
def BN (P:Program)(lo:Nat)(c:Code)(Q:ow):Nat→aL→ai→Prop
 |0,_,_=>False
 |m+1,ts,h=>AW P lo c (Ml (BN P lo c Q m) Q) ts h
theorem BN.mono {c:Code}:∀ {m m':Nat} {ts:aL} {h:ai},m≤m'→BN P lo c Q m ts h→BN P lo c Q m' ts h
 |0,_,_,_,_,hr=>hr.elim
 |m+1,0,_,_,hle,_=>by omega
 |m+1,m'+1,ts,h,hle,hr=>AW.mono hr fun e ts h hq=>by
  cases e with
  |normal=>exact BN.mono (Nat.le_of_succ_le_succ hle) hq
  |_=>exact hq
theorem Uz {c:Code}{F:Fence}(hF:jJ F){n:Nat}:∀(m:Nat) (ts:aL) (h:ai) (lO:Mu) (h0:ai) (w0:World) (ds ms:List Deferred) (U:Mu) (a:Act) (w:World),eA U ts a.tmps→Rel U lo h w→E0 F lO h0 w0→Frame lo lO h0 w0 U h w→
  a.defers=ms++ds→qX w0.heap.size U h w ms→BN P lo c Q m ts h→Code.roundsIn F n P c (LiftM lo lO h0 w0 ds Q) m a w
 |0,_,_,_,_,_,_,_,_,_,_,_,_,_,_,_,_,hr=>hr.elim
 |m+1,ts,h,lO,h0,w0,ds,ms,U,a,w,ht,r,ro,f,hd,hm,hr=>by
  refine wpIn_mono (hr F hF n U a w ht r (ro.frame f)) fun e a' w' hl=>?_
  rw[hd] at hl
  have lk:=hl.trans f hm
  cases e with
  |normal=>
   obtain⟨bo,h',aV,O5,h2,h3,h4,h5,h6,h7⟩:=lk
   exact Uz (n:=n) hF m bo h' lO h0 w0 ds O5 aV a' w' h2 h3 ro h4 h5 h6 h7
  |exit id=>exact lk
  |goto l=>exact lk
  |ret=>exact lk
  |panic ch=>exact lk
  |outgrown=>exact lk
theorem AW.zvd {c:Code}(m:Nat)(hr:BN P lo c Q m ts h):AW P lo (.loop c) Q ts h:=
 fun _ hF _ U a w ht r ro=>wpIn_loop_rounds m (Uz hF m ts h U h w a.defers [] U a w ht r ro (Frame.refl _ _ _ _) rfl trivial hr)
theorem AW.loop {c:Code}(I:Nat→aL→ai→Prop)(m:Nat)(h0:I m ts h)(round:∀m ts h,I m ts h→AW P lo c (Ml (fun bo h'=>∃m',m'<m∧I m' bo h') Q) ts h):AW P lo (.loop c) Q ts h:=by
 have key:∀(m:Nat) (ts:aL) (h:ai),I m ts h→BN P lo c Q (m+1) ts h:=by
  intro m
  induction m using Nat.strongRecOn with
  |_ m ih=>
   intro ts h hI
   refine AW.mono (round m ts h hI) fun e bo h' hq=>?_
   cases e with
   |normal=>
    obtain⟨m',a8,hI'⟩:=hq
    exact BN.mono (by omega) (ih m' a8 bo h' hI')
   |_=>exact hq
 exact .zvd (m+1) (key m ts h h0)
def bN (ts:aL)(dst:Option Tmp)(v:Value):aL:=
 match dst with
 |some d=>ts.set d v
 |none=>ts
theorem E2 {U:Mu}{a:Act}{v v':Value}(ht:eA U ts a.tmps)(hv:ao U v v')(dst:Option Tmp):eA U (bN ts dst v) (a.put dst v').tmps:=by
 cases dst with
 |none=>exact ht
 |some d=>
  have:=bB.set d ht hv
  simpa[eA,bN,Act.put] using this
theorem put_defers (a:Act)(dst:Option Tmp)(v:Value):(a.put dst v).defers=a.defers:=by cases dst<;>rfl
theorem E3 {o:Oper}{w:World}{ρ:Operand→Value}(F:Fence)(hF:jJ F):∀f,o.about P w ρ=some f→F.fn f:=fun f _=>hF.fn f
theorem sV.op {o:Oper}{v:Value}{h':ai}{next:aL→ai→Prop}(ha:cV P lo ts h o.op=some (v,h'))(hn:next (bN ts o.dst v) h'):sV P lo o ts h next:=by
 intro F hF n U a w Q ht r
 refine⟨E3 F hF,?_⟩
 have O6:∀c,o.op≠.defer c:=fun c hc=>by rw[hc] at ha;simp[cV] at ha
 rw[Oper.semAt_eq _ _ _ O6]
 obtain⟨nx,v',w',aV,h1,h2,h3,h4,h5⟩:=xjp (P:=P) r ht ha
 rw[h1]
 have hl:ix lo U h w a.defers (fun _=>next) .normal (a.put o.dst v') w':=
  ⟨_,h',aV,E2 (ht.mono h5.le) h3 o.dst,h4,h5,put_defers _ _ _,hn⟩
 rcases h2 with rfl|⟨rfl,rfl⟩
 ·exact hl
 exact hl
theorem sV.call {o:Oper}{fo:Operand}{args:Array Operand}{aT:Array TypeId}{f:FuncId}{first captured:Array Value}{l:List Value}{next:aL→ai→Prop}(ho:o.op=.call ⟨.value fo,args,aT⟩)
  (hf:dF ts fo=some (.func (.func f) first captured)) (hl:rC ts args.toList=some l) (eD:∀as w,(callFunc f as).run P w=.ok (.enter f as) w)
  (hc:∀F,jJ F→F.round=none→∀n U w bj,bB U (first.toList++l++captured.toList) bj.toList→Rel U lo h w→
   CallsIn F n P f bj w fun e w'=>∃r v h' aV,e=.returned v∧ao aV r v∧Rel aV lo h' w'∧Frame lo U h w aV h' w'∧next (bN ts o.dst r) h'):sV P lo o ts h next:=by
 intro F hF n U a w Q ht r
 refine⟨E3 F hF,?_⟩
 rw[Oper.semAt_eq _ _ _ (fun c hc=>by rw[ho] at hc;cases hc)]
 have tS:=iw ht hf
 generalize tR:a.eval fo=fv at tS
 cases tS with
 |func _ _ _ j4 eK hx hy rx ry=>
  have gB:(execOp a.eval o).run P w=.ok (.enter f (j4++args.map a.eval++eK)) w:=by
   simp only[execOp,ho,resolve,tR,Deferred.ofValue,Sem.run_bind,Sem.run_pure,Result.andThen_ok,invoke,eD]
  rw[gB]
  refine⟨hF.one n,?_⟩
  have j5:bB U (first.toList++l++captured.toList) (j4++args.map a.eval++eK).toList:=by
   simp only[Array.toList_append,Array.toList_map]
   exact((uw.2 ⟨hx,rx⟩).append (Hd ht hl)).append (uw.2 ⟨hy,ry⟩)
  have ji:jJ F.plain:=⟨hF.fn,hF.depth,hF.alive⟩
  have yD:CallsIn F (n - 1) P f (j4++args.map a.eval++eK) w _:=hc F.plain ji rfl (n - 1) U w _ j5 r
  refine yD.mono fun e w' ⟨r',v,h',aV,h1,h2,h3,h4,h5⟩=>?_
  subst h1
  exact⟨_,h',aV,E2 (ht.mono h4.le) h2 o.dst,h3,h4,put_defers _ _ _,h5⟩
theorem sV.O7 {o:Oper}{fo:Operand}{args:Array Operand}{aT:Array TypeId}{f:FuncId}{first captured:Array Value}{l:List Value}{next:aL→ai→Prop}(ho:o.op=.call ⟨.value fo,args,aT⟩)
  (hf:dF ts fo=some (.func (.func f) first captured)) (hl:rC ts args.toList=some l) (eD:∀as w,(callFunc f as).run P w=.ok (.enter f as) w)
  (hc:qv P lo f (first.toList++l++captured.toList) h fun r h'=>next (bN ts o.dst r) h'):sV P lo o ts h next:=
 .call ho hf hl eD hc
def qa (ops:Array Oper)(ts:aL)(j:Nat):Option Bool:=
 match ((ops[j]?).bind (·.dst)).bind (ts[·]?) with
 |some (.bool b)=>some b
 |_=>none
theorem UA {U:Mu}{a:Act}{ops:Array Oper}(ht:eA U ts a.tmps)(j:Nat):yielded ops a.tmps j=qa ops ts j:=by
 unfold yielded qa
 cases hd:(ops[j]?).bind (·.dst) with
 |none=>rfl
 |some d=>
  simp only[Option.bind_some]
  cases ph:ts[d]? with
  |none=>
   have:a.tmps[d]?=none:=by
    rw[Array.getElem?_eq_none]
    have:=ht.1
    rw[List.getElem?_eq_none_iff] at ph
    simp at this;omega
   rw[this]
  |some v=>
   obtain⟨v',h1,h2⟩:=ht.2 d v ph
   have rp:a.tmps[d]?=some v':=by simpa using h1
   rw[rp]
   cases h2<;>rfl
def sW (P:Program)(lo:Nat)(ops:Array Oper)(K:aL→ai→Prop):List Nat→aL→ai→Prop
 |[],ts,h=>K ts h
 |i::rest,ts,h=>
  match ops[i]? with
  |none=>sW P lo ops K rest ts h
  |some o=>if Region.wanted o (qa ops ts) then sV P lo o ts h (sW P lo ops K rest) else sW P lo ops K rest (bN ts o.dst Go.undef) h
theorem Mn {ops:Array Oper}{F:Fence}(hF:jJ F){n:Nat}:∀(l:List Nat) (ts:aL) (h:ai) (lO:Mu) (h0:ai) (w0:World) (U:Mu) (a:Act) (w:World),eA U ts a.tmps→Rel U lo h w→Frame lo lO h0 w0 U h w→
  sW P lo ops (Q .normal) l ts h→wpOpsIn F n P ops (ix lo lO h0 w0 a.defers Q) l a w
 |[],ts,h,lO,h0,w0,U,a,w,ht,r,f,hk=>⟨ts,h,U,ht,r,f,rfl,hk⟩
 |i::rest,ts,h,lO,h0,w0,U,a,w,ht,r,f,hk=>by
  simp only[sW] at hk
  simp only[wpOpsIn]
  cases ho:ops[i]? with
  |none=>simp only[ho] at hk ⊢;exact Mn hF rest ts h lO h0 w0 U a w ht r f hk
  |some o=>
   simp only[ho] at hk ⊢
   have hy:yielded ops a.tmps=qa ops ts:=funext (UA ht)
   rw[hy]
   by_cases hw:Region.wanted o (qa ops ts)=true
   ·simp only[hw,if_true] at hk ⊢
    refine Oper.wpIn_mono (fun a' w' hl=>?_) (hk F hF n U a w _ ht r)
    obtain⟨bo,h',aV,h2,h3,h4,h5,h6⟩:=hl.trans f
    have:=Mn (n:=n) hF rest bo h' lO h0 w0 aV a' w' h2 h3 h4 h6
    rw[h5] at this
    exact this
   simp only[hw,if_false,Bool.false_eq_true] at hk ⊢
   refine⟨E3 F hF,?_⟩
   have:=Mn (n:=n) hF rest (bN ts o.dst Go.undef) h lO h0 w0 U (a.put o.dst Go.undef) w (E2 ht .undef o.dst) r f hk
   rw[put_defers] at this
   exact this
theorem AW.region {id:Nat}{ops:Array Oper}(hk:sW P lo ops (Q .normal) (List.range ops.size) ts h):AW P lo (.region id ops false) Q ts h:=
 fun _ hF _ U a w ht r _=>wpIn_mono (wpIn_region (Mn hF _ ts h U h w U a w ht r (Frame.refl _ _ _ _) hk)) fun _ _ _ hl=>hl.Hf
def II (P:Program)(ts:aL)(h:ai):ResultVar→Option Value
 |.tmp t=>some (ts.getD t Go.undef)
 |.cell a t=>wa P h t (ts.getD a Go.undef)
def wu (P:Program)(ts:aL)(h:ai):List ResultVar→Option (List Value)
 |[]=>some []
 |x::r=>match II P ts h x,wu P ts h r with
  |some v,some l=>some (v::l)
  |_,_=>none
def Ds (l:List Value):Value:=
 match l with
 |[v]=>v
 |l=>.tuple l.toArray
def IJ (tmps:Array Value):ResultVar→Sem Value
 |.tmp t=>pure (tmps.getD t Go.undef)
 |.cell c t=>asAddr (tmps.getD c Go.undef) >>= fun ad=>loadVar t ad
theorem zzj (fn:Func)(tmps:Array Value):results fn tmps=(fn.results.mapM (IJ tmps) >>= fun vs=>pure (if h:vs.size=1 then vs[0] else .tuple vs)):=by
 unfold results
 congr 1
theorem UB {U:Mu}{a:Act}{w:World}(ht:eA U ts a.tmps)(r:Rel U lo h w):∀ {rs:List ResultVar} {l:List Value},wu P ts h rs=some l→
  ∃l',(rs.mapM (IJ a.tmps)).run P w=.ok l' w∧bB U l l'
 |[],l,hl=>by simp only[wu,aB] at hl;subst hl;exact⟨[],rfl,bB.nil U⟩
 |x::rs,l,hl=>by
  simp only[wu] at hl
  split at hl
  ·rename_i v l1 h1 h2
   simp only[aB] at hl;subst hl
   obtain⟨l',g1,g2⟩:=UB ht r h2
   cases x with
   |tmp t=>
    simp only[II,aB] at h1;subst h1
    exact⟨_::l',by simp only[List.mapM_cons,IJ,Sem.run_bind,Sem.run_pure,Result.andThen_ok,g1],.cons (ht.getD t) g2⟩
   |cell c t=>
    simp only[II] at h1
    obtain⟨v',w',aV,e1,e2,e3,e4⟩:=OF (P:=P) r (ht.getD c) h1
    have sU:=ht.getD c
    generalize iY:a.tmps.getD c Go.undef=cv at sU e1
    have O8:=h1
    unfold wa at O8
    split at O8
    ·rename_i o off heq
     rw[heq] at sU
     cases sU with
     |ptr _ _ b a0 C hm=>
      simp only[Instr.loadAt,Instr.sureAddr,Sem.run_bind,Sem.run_pure,Result.andThen_ok] at e1
      have ho:=OF (P:=P) r (ao.ptr o off b a0 C hm) (heq▸h1)
      obtain⟨v2,w2,Dc,q1,q2,q3,q4⟩:=ho
      have fO:∃v3,(loadVar t ⟨b,a0+off,none⟩).run P w=.ok v3 w∧ao U v v3:=by
       rw[heq] at h1
       unfold wa at h1
       simp only at h1
       split at h1
       ·rename_i s cs hx
        have sP:=qT r hx hm
        split at h1
        ·rename_i hg
         split at h1
         ·rename_i nn hn
          cases hle:Nat.ble (off+nn) cs.length with
          |false=>simp[hle] at h1
          |true=>
           simp only[hle,aQ,aB] at h1;subst h1
           obtain⟨au,k1,k2,k3⟩:=L3 sP off nn (by simpa using hle)
           have hl:=run_loadCells_list (P:=P) w _ au k3
           rw[k2] at hl
           exact⟨.agg au.toArray,by simp[loadVar,GZ hg,qt hn,hl],.lW k1⟩
         simp at h1
        ·rename_i hg
         obtain⟨v',k1,k2⟩:=sP.2.1 off v h1
         exact⟨v',by simp[loadVar,GZ hg,k1],k2⟩
        simp at h1
       simp at h1
      obtain⟨v3,k1,k2⟩:=fO
      have hA:asAddr (.pointer (some ⟨b,a0+off,none⟩))=(pure ⟨b,a0+off,none⟩:Sem Addr):=rfl
      exact⟨v3::l',by simp only[List.mapM_cons,IJ,Sem.run_bind,iY,hA,Sem.run_pure,Result.andThen_ok,k1,g1],.cons k2 g2⟩
    simp at O8
  simp at hl
theorem zzd {U:Mu}{a:Act}{w:World}{fn:Func}{l:List Value}(ht:eA U ts a.tmps)(r:Rel U lo h w)(hl:wu P ts h fn.results.toList=some l) :
  ∃v,(results fn a.tmps).run P w=.ok v w∧ao U (Ds l) v:=by
 obtain⟨l',h1,h2⟩:=UB (P:=P) ht r hl
 have he:(fn.results.mapM (IJ a.tmps)).run P w=.ok l'.toArray w:=by
  rw[Array.mapM_eq_mapM_toList,Sem.run_map,h1,Result.andThen_ok]
 have gB:(results fn a.tmps).run P w=.ok (if hs:l'.toArray.size=1 then l'.toArray[0] else .tuple l'.toArray) w:=by
  rw[zzj,Sem.run_bind,he,Result.andThen_ok,Sem.run_pure]
 refine⟨_,gB,?_⟩
 cases l with
 |nil=>have:=h2.lV;subst this;exact .tuple #[] #[] rfl (fun i h=>by simp at h)
 |cons v1 r1=>
  obtain⟨v1',r1',rfl,hv,hr⟩:=h2.eJ
  cases r1 with
  |nil=>have:=hr.lV;subst this;simpa[Ds] using hv
  |cons v2 r2=>
   obtain⟨v2',r2',rfl,eZ,ky⟩:=hr.eJ
   simpa[Ds] using ao.uy h2
def O9 (P:Program)(fn:Func)(R:Value→ai→Prop):ow
 |.normal,ts,h=>∃l,wu P ts h fn.results.toList=some l∧R (Ds l) h
 |.ret,ts,h=>∃l,wu P ts h fn.results.toList=some l∧R (Ds l) h
 |_,_,_=>False
theorem Mo {U:Mu}{w:World}{b:Nat}(o:Obj)(r:Rel U lo h w)(u:yC U h b)(hb:bE.K≤b):Rel U lo h (w.putObj b o):=by
 have hk:∀o' x b' a C,h.get o'=some x→U o'=some (b',a,C)→(w.putObj b o).heap[b']?=w.heap[b']?:=fun o' x b' a C hx hm=>
  World.putObj_heap_other (by rintro rfl;exact u o' x a C hx hm)
 refine⟨fun o' x hx=>?_,r.inj,r.rm,fun o' x b' a C hl hx hm off=>?_,r.bX,⟨fun b' sK=>by rw[World.putObj_heap_other (by omega)];exact r.mM.gl b' sK,by rw[World.putObj_size];exact r.mM.ks,r.mM.hi⟩⟩
 ·obtain⟨b',a,C,h1,h2⟩:=r.br o' x hx
  exact⟨b',a,C,h1,h2.kept (hk o' x b' a C hx h1)⟩
 rw[Bu (hk o' x b' a C hx hm)]
 exact r.fZ o' x b' a C hl hx hm off
theorem Mp {U aV:Mu}{h':ai}{w w':World}{b:Nat}(o:Obj)(f:Frame lo U h w aV h' w')(hb:w.heap.size≤b∨Bt U lo h b):Frame lo U h w aV h' (w'.putObj b o):=
 ⟨f.le,by rw[World.putObj_size];exact f.size,f.next,fun b' sK hn=>by
  rw[World.putObj_heap_other (by rintro rfl;exact hb.elim (fun h=>absurd sK (by omega)) hn)]
  exact f.kept b' sK hn,f.own,f.low,f.jg,f.born,⟨f.calm.1,f.calm.2,f.calm.3,f.calm.4⟩⟩
theorem qX.putObj {B:Nat}{U:Mu}{w:World}{b:Nat}(o:Obj):∀ {ds:List Deferred},(∀d∈ds,d≠{ target:=.collected b,args:=#[] })→qX B U h w ds→qX B U h (w.putObj b o) ds
 |[],_,_=>trivial
 | d :: ds, hd, ⟨⟨r, h1, h2, h3, h4, h5⟩, hr⟩ => ⟨⟨r, h1, h2, by
  rw[World.putObj_heap_other (by rintro rfl;exact hd d (by simp) h1)];exact h3,h4,h5⟩,hr.putObj o (fun d' xG=>hd d' (List.mem_cons_of_mem _ xG))⟩
theorem UC {F:Fence}{n:Nat}{fn:Func}{lO U:Mu}{h0:ai}{w0:World}{tmps:Array Value}{R:Ending→World→Prop}(hK:bE.K≤w0.heap.size):∀(ms:List Deferred) (w:World),qX w0.heap.size U h w ms→Rel U lo h w→Frame lo lO h0 w0 U h w→
  (∀w',Rel U lo h w'→Frame lo lO h0 w0 U h w'→∃v,(results fn tmps).run P w'=.ok v w'∧R (.returned v) w')→LeavesInM F n P fn tmps R ms .returning w
 |[],w,_,r,f,hf=>hf w r f
 |d::ds,w,⟨⟨b,h1,h2,h3,h4,h5⟩,hr⟩,r,f,hf=>by
  refine⟨by simp,.inl ⟨b,w.putObj b (.deferred none),by rw[h1],run_takeDeferred h3,?_⟩⟩
  exact UC hK ds _ (hr.putObj _ (fun d' xG=>by rw[← h1];exact h5 d' xG)) (Mo _ r h4 (Nat.le_trans hK h2)) (Mp _ f (.inl h2)) hf
theorem qv.bJ {f:FuncId}{fn:Func}{c:Code}{args:List Value}{R:Value→ai→Prop}(hf:P.funcs[f]?=some fn)(hb:fn.body=some c)
  (hc:AW P lo c (O9 P fn R) (args++List.replicate (fn.ntmps - args.length) Go.undef) h):qv P lo f args h R:=by
 intro F hF sg n U w bj ha r
 have hlen:bj.size=args.length:=by have:=ha.1;simp at this;omega
 have ht:eA U (args++List.replicate (fn.ntmps - args.length) Go.undef) (bj++Array.replicate (fn.ntmps - bj.size) Go.undef):=by
  rw[hlen]
  simp only[eA,Array.toList_append,Array.toList_replicate]
  refine ha.append ⟨by simp,fun i v hv=>⟨Go.undef,?_,?_⟩⟩
  ·have hi:i<fn.ntmps - args.length:=by
    rcases Nat.lt_or_ge i (fn.ntmps - args.length) with h|h
    ·exact h
    rw[List.getElem?_eq_none (by simpa using h)] at hv;simp at hv
   simp[hi]
  have:=List.mem_of_getElem? hv
  rw[List.mem_replicate] at this
  rw[this.2];exact .undef
 refine callsIn_of_wp_marks hf hb (hF.fn f) ?_ sg
 refine wpIn_mono (hc F hF n U { tmps:=bj++Array.replicate (fn.ntmps - bj.size) Go.undef,defers:=[] } w ht r (.none sg)) fun e a' w' hl=>?_
 obtain⟨bo,h',aV,ms,h2,h3,h4,h5,h6,h7⟩:=hl
 have h5:a'.defers=ms:=by rw[h5,List.append_nil]
 have fin:(∃l,wu P bo h' fn.results.toList=some l∧R (Ds l) h')→LeavesInM F n P fn a'.tmps (fun e w'=>∃r v h' aV,e=.returned v∧ao aV r v∧Rel aV lo h' w'∧Frame lo U h w aV h' w'∧R r h') a'.defers .returning w':=by
  rintro⟨l,hl,hR⟩
  rw[h5]
  refine UC r.mM.ks ms w' h6 h3 h4 fun w2 r2 f2=>?_
  obtain⟨v,k1,k2⟩:=zzd (P:=P) h2 r2 hl
  exact⟨v,k1,_,v,h',aV,rfl,k2,r2,f2,hR⟩
 cases e with
 |normal=>exact fin h7
 |ret=>exact fin h7
 |exit id=>exact h7.elim
 |goto l=>exact h7.elim
 |panic ch=>exact h7.elim
 |outgrown=>exact h7.elim
theorem UD {U:Mu}{v v':Value}(hs:xy v=true)(h:ao U v v'):v'=v:=by
 unfold xy at hs
 split at hs<;>first|cases hs;done|(cases h;rfl)
theorem UE {U:Mu}{l l':List Value}(hs:l.all xy=true)(h:bB U l l'):l'=l:=by
 apply List.ext_getElem?
 intro i
 cases hi:l[i]? with
 |none=>
  rw[List.getElem?_eq_none_iff] at hi ⊢
  rw[← h.1];exact hi
 |some v=>
  obtain⟨v',h1,h2⟩:=h.2 i v hi
  rw[List.all_eq_true] at hs
  rw[h1,UD (hs v (List.mem_of_getElem? hi)) h2]
theorem IK {U:Mu}{v v':Value}(hs:ot v=true)(h:ao U v v'):v'=v:=by
 unfold ot at hs
 split at hs
 ·obtain⟨au,rfl,hc⟩:=h.GX
  rw[Array.ext' (UE hs hc)]
 ·obtain⟨au,rfl,hc⟩:=h.T3
  rw[Array.ext' (UE hs hc)]
 exact UD hs h
end
def UF (P:Program)(s:Sem Value)(U:Mu)(w:World)(id:Nat)(v:Value)(x:bn):Prop:=
 ∃ob v' C,s.run P w=.ok v' (w.alloc ob)∧(∀off,(w.alloc ob).frozen? ⟨w.heap.size,off,none⟩=false)∧
  ∀ν,U.le ν→ν id=some (w.heap.size,0,C)→ao ν v v'∧iu ν (w.alloc ob) w.heap.size 0 C x
theorem Pa {ν:Mu}{w:World}{t:TypeId}{arr:Array Value}{cs:List Value}(h:bB ν cs arr.toList):iu ν (w.alloc (.cells arr t)) w.heap.size 0 0 (.cells 0 cs):=by
 refine⟨by simp,fun i v hv=>?_,fun h0=>by omega⟩
 obtain⟨v',h1,h2⟩:=h.2 i v hv
 exact⟨v',by simpa using h1,h2⟩
def lq (P:Program)(ts:aL)(id:Nat):Op→Option (Value×bn)
 |.alloc t=>match sL P t with
  |some z=>some (.pointer (some ⟨id,0,none⟩),.cells 0 z)
  |none=>none
 |.box _ x=>match dF ts x with
  |some v=>some (.pointer (some ⟨id,0,none⟩),.cells 0 v.cells.toList)
  |none=>none
 |.buildSlice t len parts=>match xE ts parts.toList,jh P t with
  |some l,some (e,n)=>
   match sL P e with
   |some z=>
    bif Nat.beq z.length n&&Nat.ble (len*n) 16777216&&Nat.blt 0 n then
     match xA (fun i=>some (i*n,n)) (dJ z len) l with
     |some cs=>some (.slice (some ⟨id,0,none⟩) len len,.cells 0 cs)
     |none=>none
    else none
   |none=>none
  |_,_=>none
 |.makeSlice t l c=>match dF ts l,dF ts c,jh P t with
  |some (.int .i64 (.ofNat l)),some (.int .i64 (.ofNat c)),some (e,n)=>
   match sL P e,(P.info? e).map (·.bytes) with
   |some z,some bytes=>
    bif Nat.beq z.length n&&Nat.ble l c&&Nat.ble (bytes*c) 281474976710656&&Nat.blt 0 n&&Nat.ble c 281474976710656 then
     some (.slice (some ⟨id,0,none⟩) l c,.cells 0 (dJ z c))
    else none
   |_,_=>none
  |_,_,_=>none
 |.makeMap _ none=>some (.map (some id),.map [])
 |_=>none
def IL:Op→Bool
 |.alloc _|.box .. | .buildSlice .. | .makeSlice .. | .makeMap ..=>true
 |_=>false
theorem UG {P:Program}{U:Mu}{w:World}{id:Nat}{t:TypeId}{v v':Value}{s:Sem Value}(hs:s.run P w=.ok (.pointer (some ⟨w.heap.size,0,none⟩)) (w.alloc (.cells v'.cells t)))(hv:ao U v v') :
  UF P s U w id (.pointer (some ⟨id,0,none⟩)) (.cells 0 v.cells.toList):=by
 refine⟨_,_,0,hs,fun off=>by simp,fun ν BD hid=>⟨?_,Pa (hv.cells.mono BD)⟩⟩
 have:=ao.ptr id 0 w.heap.size 0 0 hid
 simpa using this
theorem xbi {P:Program}{U:Mu}{w:World}{ts:aL}{a:Act}{id:Nat}{o:Oper}{v:Value}{x:bn}(ht:eA U ts a.tmps)(ha:lq P ts id o.op=some (v,x)) :
  ∃s:Sem Value,execOp a.eval o=(do pure (.value (← s)))∧UF P s U w id v x:=by
 unfold lq at ha
 split at ha
 all_goals (rename_i O3;try unfold execOp;try rw[O3])
 ·rename_i t
  split at ha
  ·rename_i z hz
   simp only[aB,bO] at ha;obtain⟨rfl,rfl⟩:=ha
   obtain⟨zv,h1,h2,h3⟩:=Bw hz w
   refine⟨_,rfl,?_⟩
   have:=UG (P:=P) (U:=U) (w:=w) (id:=id) (t:=t) (v:=zv) (v':=zv) (s:=Instr.alloc t true (.tuple #[])) (by simp[Instr.alloc,h1,newVar,newRow]) (.Bv h3)
   rwa [h2] at this
  simp at ha
 ·rename_i t y
  split at ha
  ·rename_i u hu
   simp only[aB,bO] at ha;obtain⟨rfl,rfl⟩:=ha
   exact⟨_,rfl,UG (t:=t) (v':=a.eval y) (by simp[Instr.box,newVar,newRow]) (iw ht hu)⟩
  simp at ha
 ·rename_i t len parts
  split at ha
  ·rename_i l e n hl he
   obtain⟨hu,hn⟩:=xz he
   split at ha
   ·rename_i z hz
    obtain⟨zv,h1,h2,h3⟩:=Bw hz w
    cases hc:(Nat.beq z.length n&&Nat.ble (len*n) 16777216&&Nat.blt 0 n) with
    |false=>rw[hc] at ha;simp at ha
    |true=>
     rw[hc] at ha
     simp only[aQ] at ha
     simp only[bW] at hc
     obtain⟨⟨jI,jk⟩,lh⟩:=hc
     have jI:z.length=n:=by simpa using jI
     have jk:len*n≤16777216:=by simpa using jk
     have lh:0<n:=by rw[Nat.blt_eq] at lh;exact lh
     split at ha
     ·rename_i cs hf
      simp only[aB,bO] at ha
      obtain⟨rfl,rfl⟩:=ha
      have Dd:zv.cells.size=n:=by rw[← jI,← h2];simp
      have hlen:len≤16777216:=Nat.le_trans (Nat.le_mul_of_pos_right len lh) jk
      have uB:bB U (dJ z len) ((Array.range (len*n)).map (zv.cells[· % zv.cells.size]!)).toList:=by
       have:=range_zero zv.cells len
       rw[Dd] at this ⊢
       rw[this,h2]
       exact G5 (h2▸ED h3) len
      have hp:ym U l (parts.map fun (i,y)=>(i,a.eval y)).toList:=by simpa using Mk ht hl
      obtain⟨out,h4,h5⟩:=L5 (U:=U) (fun i=>some (i*n,n)) l _ (dJ z len) _ cs hp uB hf
      have iJ:len=jz 0 len:=by rw[rq];unfold aC;omega
      refine⟨_,rfl,.cells out e,.slice (some ⟨w.heap.size,0,none⟩) len len,0,?_,fun off=>by simp,fun ν BD hid=>⟨?_,Pa (h5.mono BD)⟩⟩
      ·have iK:¬(len*n > 2 ^ 24):=by omega
       by_cases h0:len*n=0
       ·have nf:len=0:=by
         rcases Nat.mul_eq_zero.1 h0 with h|h
         ·exact h
         omega
        subst nf
        have qU:Array.range 0=#[]:=rfl
        rw[Nat.zero_mul,qU] at h4
        simp only[List.map_toArray,List.map_nil,Array.toList_map] at h4
        simp[Instr.buildSlice,run_underlying hu,qt hn,qU,h4,newRow]
       simp only[Array.toList_map] at h4
       simp[Instr.buildSlice,run_underlying hu,qt hn,iK,h0,h1,h4,newRow]
      have:=ao.slice id 0 len len w.heap.size 0 0 hid (Nat.le_of_eq iJ) (by unfold eU;omega)
      rwa [← iJ] at this
     simp at ha
   simp at ha
  simp at ha
 ·rename_i t l0 c0
  split at ha
  ·rename_i l c e n hl jn he
   obtain⟨hu,hn⟩:=xz he
   have yE:=iw ht hl
   have sU:=iw ht jn
   generalize hle:a.eval l0=lv at yE
   generalize iY:a.eval c0=cv at sU
   cases yE
   cases sU
   split at ha
   ·rename_i z bytes hz hb
    obtain⟨zv,h1,h2,h3⟩:=Bw hz w
    cases hc:(Nat.beq z.length n&&Nat.ble l c&&Nat.ble (bytes*c) 281474976710656&&Nat.blt 0 n&&Nat.ble c 281474976710656) with
    |false=>rw[hc] at ha;simp at ha
    |true=>
     rw[hc] at ha
     simp only[aQ,aB,bO] at ha
     obtain⟨rfl,rfl⟩:=ha
     simp only[bW] at hc
     obtain⟨⟨⟨⟨jI,jk⟩,lh⟩,EF⟩,EG⟩:=hc
     have jI:z.length=n:=by simpa using jI
     have jk:l≤c:=by simpa using jk
     have lh:bytes*c≤281474976710656:=by simpa using lh
     have EF:0<n:=by rw[Nat.blt_eq] at EF;exact EF
     have EG:c≤281474976710656:=by simpa using EG
     have Dd:zv.cells.size=n:=by rw[← jI,← h2];simp
     have By:IntKind.i64.wrap (c:Int)=c:=L7 EG
     have qV:IntKind.i64.wrap (l:Int)=l:=L7 (by omega)
     have uB:bB U (dJ z c) ((Array.range (c*n)).map (zv.cells[· % zv.cells.size]!)).toList:=by
      have:=range_zero zv.cells c
      rw[Dd] at this ⊢
      rw[this,h2]
      exact G5 (h2▸ED h3) c
     have iJ:c=jz 0 c:=by rw[rq];unfold aC;omega
     refine⟨_,rfl,.cells ((Array.range (c*n)).map (zv.cells[· % zv.cells.size]!)) e,.slice (some ⟨w.heap.size,0,none⟩) l c,0,?_,fun off=>by simp,fun ν BD hid=>⟨?_,Pa (uB.mono BD)⟩⟩
     ·rw[hle,iY]
      cases hi:P.info? e with
      |none=>simp[hi] at hb
      |some i=>
       simp only[hi,Option.map_some,aB] at hb
       subst hb
       have EH:(typeInfo e).run P w=.ok i w:=by simp[typeInfo,hi]
       have Ix:¬((281474976710656:Int)<(i.bytes:Int)*(c:Int)):=by
        have:((i.bytes*c:Nat):Int)≤((281474976710656:Nat):Int):=Int.ofNat_le.2 lh
        rw[Int.natCast_mul] at this
        exact Int.not_lt.2 this
       have De:¬((c:Int)<(l:Int)):=by omega
       by_cases h0:c*n=0
       ·have yp:c=0:=by
         rcases Nat.mul_eq_zero.1 h0 with h|h
         ·exact h
         omega
        subst yp
        have nf:l=0:=by omega
        subst nf
        have qU:Array.range 0=#[]:=rfl
        have xB:IntKind.i64.wrap 0=0:=by decide
        simp[Instr.makeSlice,run_underlying hu,asInt,asIntOf,EH,qt hn,xB,qU,newRow]
       simp[Instr.makeSlice,run_underlying hu,asInt,asIntOf,EH,qt hn,By,qV,De,h0,h1,newRow]
       rintro ((hh|hh)|hh)
       ·omega
       ·exact absurd hh Ix
       omega
     have:=ao.slice id 0 l c w.heap.size 0 0 hid (by rw[← iJ];exact jk) (by unfold eU;omega)
     rwa [← iJ] at this
   simp at ha
  simp at ha
 ·rename_i t
  simp only[aB,bO] at ha;obtain⟨rfl,rfl⟩:=ha
  refine⟨_,rfl,.map #[] 0,.map (some w.heap.size),0,by simp[Instr.makeMap],fun off=>by simp only[World.frozen?,heap_alloc];simp,fun ν BD hid=>⟨.map id _ _ hid,rfl,#[],0,by rw[heap_alloc];simp,⟨[],.nil,by simp,rfl,fun i p e h=>by simp at h,by simp,fun e h=>by simp at h⟩⟩⟩
 simp at ha
theorem Hg {ts bo:aL}:∀ {xs:List Operand},(∀x∈xs,dF ts x=dF bo x)→rC ts xs=rC bo xs
 |[],_=>rfl
 |x::r,h=>by simp only[rC,h x (by simp),Hg (fun y hy=>h y (List.mem_cons_of_mem _ hy))]
theorem Mq {ts bo:aL}:∀ {xs:List (Nat×Operand)},(∀x∈xs.map (·.2),dF ts x=dF bo x)→xE ts xs=xE bo xs
 |[],_=>rfl
 |(i,x)::r,h=>by simp only[xE,h x (by simp),Mq (xs:=r) (fun y hy=>h y (by simp only[List.map_cons];exact List.mem_cons_of_mem _ hy))]
theorem Pb {ts bo:aL}{x:Option Operand}(h:∀y∈x.toArray,dF ts y=dF bo y):xF ts x=xF bo x:=by
 cases x with
 |none=>rfl
 |some x=>simp only[xF,h x (by simp)]
theorem E4 {P:Program}{lo:Nat}{ts bo:aL}{h:ai}{op:Op}(he:∀x∈op.operands,dF ts x=dF bo x):cV P lo ts h op=cV P lo bo h op:=by
 cases op<;>simp only[Op.operands] at he<;>try rfl
 case move x=>simp only[cV,he x (by simp)]
 case assign x=>simp only[cV,he x (by simp)]
 case pick c a b=>simp only[cV,he c (by simp),he a (by simp),he b (by simp)]
 case box t x=>simp only[cV,he x (by simp)]
 case build t ps=>simp only[cV,Mq (ts:=ts) (bo:=bo) (xs:=ps.toList) (fun x hx=>he x (by simpa using hx))]
 case buildSlice t n ps=>simp only[cV,Mq (ts:=ts) (bo:=bo) (xs:=ps.toList) (fun x hx=>he x (by simpa using hx))]
 case load t x=>simp only[cV,he x (by simp)]
 case store t x y=>simp only[cV,he x (by simp),he y (by simp)]
 case nilCheck x=>simp only[cV,he x (by simp)]
 case binOp o t x y u=>simp only[cV,he x (by simp),he y (by simp)]
 case unOp o t x=>simp only[cV,he x (by simp)]
 case convert s d x=>simp only[cV,he x (by simp)]
 case makeFunc fn a b=>
  cases fn<;>try rfl
  simp only[cV,Hg (ts:=ts) (bo:=bo) (xs:=a.toList) (fun x hx=>he x (by simp at hx ⊢;exact .inl hx)),Hg (ts:=ts) (bo:=bo) (xs:=b.toList) (fun x hx=>he x (by simp at hx ⊢;exact .inr hx))]
 case makeMap t r=>cases r<;>rfl
 case makeSlice t x y=>simp only[cV,he x (by simp),he y (by simp)]
 case slice t x l u m=>
  simp only[cV,he x (by simp),Pb (ts:=ts) (bo:=bo) (x:=l) (fun y hy=>he y (by simp at hy ⊢;simp[hy])),Pb (ts:=ts) (bo:=bo) (x:=u) (fun y hy=>he y (by simp at hy ⊢;simp[hy])),
   Pb (ts:=ts) (bo:=bo) (x:=m) (fun y hy=>he y (by simp at hy ⊢;simp[hy]))]
 case fieldAddr s x f=>simp only[cV,he x (by simp)]
 case field s x f=>simp only[cV,he x (by simp)]
 case indexAddr t x y=>simp only[cV,he x (by simp),he y (by simp)]
 case index t x y=>simp only[cV,he x (by simp),he y (by simp)]
 case lookup t x y ok=>simp only[cV,he x (by simp),he y (by simp)]
 case mapUpdate t x y z=>simp only[cV,he x (by simp),he y (by simp),he z (by simp)]
 case insert t x y z=>simp only[cV,he x (by simp),he y (by simp),he z (by simp)]
 case extract x i=>simp only[cV,he x (by simp)]
 case call c=>
  obtain⟨callee,args,aT⟩:=c
  cases callee<;>try rfl
  simp only[cV,Hg (ts:=ts) (bo:=bo) (xs:=args.toList) (fun x hx=>he x (by simp[Call.operands];simpa using hx))]
theorem UH {P:Program}{ts bo:aL}{id:Nat}{op:Op}(he:∀x∈op.operands,dF ts x=dF bo x):lq P ts id op=lq P bo id op:=by
 cases op<;>simp only[Op.operands] at he<;>try rfl
 case box t x=>simp only[lq,he x (by simp)]
 case buildSlice t n ps=>simp only[lq,Mq (ts:=ts) (bo:=bo) (xs:=ps.toList) (fun x hx=>he x (by simpa using hx))]
 case makeMap t r=>cases r<;>rfl
 case makeSlice t x y=>simp only[lq,he x (by simp),he y (by simp)]
def xH:Op→Bool
 |.move _|.assign _|.pick .. | .build .. | .load .. | .nilCheck _|.binOp .. | .unOp .. | .convert .. | .makeFunc .. | .slice .. | .fieldAddr .. | .field .. | .indexAddr .. | .index .. | .lookup .. | .extract ..=>true
 |.call ⟨.builtin .len,_,_⟩|.call ⟨.builtin .cap,_,_⟩|.call ⟨.builtin .max,_,_⟩|.call ⟨.builtin .min,_,_⟩=>true
 |_=>false
def ai.sub (h h':ai):Prop:=∀o x,h.get o=some x→h'.get o=some x
theorem zyh {P:Program}{h h':ai}(hs:h.sub h'){t:TypeId}{p v:Value}(ha:wa P h t p=some v):wa P h' t p=some v:=by
 unfold wa at ha ⊢
 split at ha
 ·split at ha
  ·rename_i hx;rw[hs _ _ hx];exact ha
  simp at ha
 simp at ha
theorem zr6 {P:Program}{h h':ai}(hs:h.sub h'){t:TypeId}{m k v:Value}{ok:Bool}(ha:xC P h t m k ok=some v):xC P h' t m k ok=some v:=by
 unfold xC at ha ⊢
 split at ha
 ·split at ha
  ·cases m<;>try exact ha
   rename_i r
   cases r with
   |none=>exact ha
   |some o=>
    cases ho:h.get o with
    |none=>simp[ho] at ha
    |some x=>
     simp only[ho,hs o x ho] at ha ⊢
     exact ha
  simp at ha
 simp at ha
theorem zq2 {P:Program}{h h':ai}(hs:h.sub h'){t:TypeId}{m v:Value}{xs:Array Value}{ok:Bool}(ha:BK P h t m xs ok=some v):BK P h' t m xs ok=some v:=by
 unfold BK at ha ⊢
 split at ha
 ·rename_i kT e n hk
  cases hb:(!(dD xs.toList&&Nat.beq xs.toList.length n)) with
  |true=>rw[hb] at ha;cases ha
  |false=>
   rw[hb] at ha
   simp only[bx] at ha ⊢
   split at ha
   ·cases m<;>try exact ha
    rename_i r
    cases r with
    |none=>exact ha
    |some o=>
     cases ho:h.get o with
     |none=>simp[ho] at ha
     |some x=>
      simp only[ho,hs o x ho] at ha ⊢
      exact ha
   simp at ha
 simp at ha
theorem zyn {P:Program}{h h':ai}(hs:h.sub h'){t:TypeId}{m k v:Value}{ok:Bool}(ha:xD P h t m k ok=some v):xD P h' t m k ok=some v:=by
 unfold xD at ha ⊢
 split at ha
 ·exact zq2 hs ha
 exact zr6 hs ha
theorem ztx {P:Program}{h h':ai}(hs:h.sub h'){t:TypeId}{x v:Value}(ha:p7 P h t x=some v):p7 P h' t x=some v:=by
 unfold p7 at ha ⊢
 cases hu:P.underlying t with
 |none=>rw[hu] at ha;cases x<;>simp at ha
 |some d=>
  rw[hu] at ha
  cases d<;>cases x<;>try exact ha
  rename_i r
  cases r with
  |none=>exact ha
  |some o=>
   simp only at ha ⊢
   cases ho:h.get o with
   |none=>simp[ho] at ha
   |some y=>simp only[ho,hs o y ho] at ha ⊢;exact ha
theorem zn9 {P:Program}{lo:Nat}{h:ai}{b:Builtin}{aT:List TypeId}{l:List Value}{v:Value}{h1:ai}(hb:b=.len∨b=.cap∨b=.max∨b=.min)(ha:sf P lo h b aT l=some (v,h1)) :
  h1=h∧∀h2,h.sub h2→sf P lo h2 b aT l=some (v,h2):=by
 have dt:∀ {o:Option Value},o.map (·,h)=some (v,h1)→h1=h∧∀h2:ai,h.sub h2→o.map (·,h2)=some (v,h2):=fun {o} hm=>by
  obtain⟨u,h3,h4⟩:=er hm
  simp only[bO] at h4
  obtain⟨rfl,rfl⟩:=h4
  exact⟨rfl,fun h2 _=>by rw[h3];rfl⟩
 rcases hb with rfl|rfl|rfl|rfl
 ·rcases aT with _|⟨t,_|⟨u,r⟩⟩<;>rcases l with _|⟨x,_|⟨y,s⟩⟩<;>simp only[sf] at ha ⊢ <;> try (simp at ha;done)
  obtain⟨u,h3,h4⟩:=er ha
  simp only[bO] at h4
  obtain⟨rfl,rfl⟩:=h4
  exact⟨rfl,fun h2 hs=>by rw[ztx hs h3];rfl⟩
 ·rcases aT with _|⟨t,_|⟨u,r⟩⟩<;>rcases l with _|⟨x,_|⟨y,s⟩⟩<;>simp only[sf] at ha ⊢ <;> try (simp at ha;done)
  exact dt ha
 ·rcases l with _|⟨x,s⟩<;>simp only[sf] at ha ⊢ <;> try (simp at ha;done)
  exact dt ha
 rcases l with _|⟨x,s⟩<;>simp only[sf] at ha ⊢ <;> try (simp at ha;done)
 exact dt ha
theorem Dt {P:Program}{lo:Nat}{ts:aL}{h:ai}{op:Op}{v:Value}{h1:ai}(hr:xH op=true)(ha:cV P lo ts h op=some (v,h1)):h1=h∧∀h2,h.sub h2→cV P lo ts h2 op=some (v,h2):=by
 have fin:∀ {f:ai→Option Value},(∀h2,h.sub h2→∀u,f h=some u→f h2=some u)→(f h).map (·,h)=some (v,h1)→h1=h∧∀h2,h.sub h2→(f h2).map (·,h2)=some (v,h2):=by
  intro f hf hm
  obtain⟨u,h3,h4⟩:=er hm
  simp only[bO] at h4
  obtain⟨rfl,rfl⟩:=h4
  exact⟨rfl,fun h2 hs=>by rw[hf h2 hs u h3];rfl⟩
 have dt:∀ {o:Option Value},o.map (·,h)=some (v,h1)→h1=h∧∀h2,h.sub h2→o.map (·,h2)=some (v,h2):=fun {o} hm=>fin (f:=fun _=>o) (fun _ _ _ hu=>hu) hm
 cases op<;>simp only[xH,Bool.false_eq_true] at hr<;>simp only[cV] at ha ⊢
 case move x=>exact dt ha
 case assign x=>exact dt ha
 case pick c a b=>
  split at ha
  ·exact dt ha
  ·exact dt ha
  simp at ha
 case build t ps=>
  split at ha
  ·exact dt ha
  simp at ha
 case load t x=>
  split at ha
  ·exact fin (fun h2 hs u hu=>zyh hs hu) ha
  simp at ha
 case nilCheck x=>
  split at ha
  ·exact dt ha
  simp at ha
 case binOp o t x y u=>
  split at ha
  ·exact dt ha
  simp at ha
 case unOp o t x=>
  split at ha
  ·exact dt ha
  simp at ha
 case convert s d x=>
  split at ha
  ·exact dt ha
  simp at ha
 case makeFunc fn a b=>
  cases fn<;>simp only at ha ⊢ <;> try (simp at ha)
  split at ha
  ·simp only[aB,bO] at ha;obtain⟨rfl,rfl⟩:=ha
   exact⟨rfl,fun h2 _=>rfl⟩
  simp at ha
 case slice t x l u m=>
  split at ha
  ·exact dt ha
  simp at ha
 case fieldAddr s x f=>
  split at ha
  ·exact dt ha
  simp at ha
 case field s x f=>
  split at ha
  ·exact dt ha
  simp at ha
 case indexAddr t x y=>
  split at ha
  ·exact dt ha
  simp at ha
 case index t x y=>
  split at ha
  ·exact dt ha
  simp at ha
 case lookup t x y ok=>
  split at ha
  ·exact fin (fun h2 hs u hu=>zyn hs hu) ha
  simp at ha
 case extract x i=>
  split at ha
  ·exact dt ha
  simp at ha
 case call c=>
  obtain⟨callee,args,aT⟩:=c
  cases callee with
  |builtin b=>
   simp only[cV] at ha ⊢
   split at ha
   ·rename_i l hl
    refine zn9 ?_ ha
    cases b<;>simp only[Bool.false_eq_true] at hr<;>simp
   simp at ha
  |value f=>simp at hr
  |invoke r m=>simp at hr
def ai.qY:Nat→ai→ai
 |0,h=>h
 |k+1,h=>let g:=ai.qY k h;⟨g.next+1,g.tr.set none (g.next+1) g.next⟩
theorem ai.E5:∀(k:Nat) (h:ai),(ai.qY k h).next=h.next+k
 |0,_=>rfl
 |k+1,h=>by simp only[ai.qY,ai.E5 k h];omega
theorem ai.yF:∀(k:Nat) (h:ai) (o:Nat),(ai.qY k h).get o=h.get o
 |0,_,_=>rfl
 |k+1,h,o=>by
  have ih:=ai.yF k h o
  have hn:=ai.E5 k h
  rw[← ih]
  simp only[ai.qY,ai.get_eq]
  rw[Tr.Ow _ _ _ _ _ (by omega)]
  by_cases ho:o=(ai.qY k h).next
  ·subst ho;simp
  by_cases hl:o<(ai.qY k h).next
  ·have:o<(ai.qY k h).next+1:=by omega
   simp[ho,hl,this]
  have:¬o<(ai.qY k h).next+1:=by omega
  simp[hl,this]
theorem Rel.qY {U:Mu}{lo:Nat}{h:ai}{w:World}(r:Rel U lo h w)(k:Nat):Rel U lo (ai.qY k h) w:=by
 refine⟨fun o x hx=>r.br o x (by rwa [ai.yF] at hx),fun o o' x x' b a C a' C' hl hx xx=>r.inj o o' x x' b a C a' C' hl (by rwa [ai.yF] at hx) (by rwa [ai.yF] at xx),fun o x hx=>?_,
  fun o x b a C hl hx=>r.fZ o x b a C hl (by rwa [ai.yF] at hx),?_,r.mM.same rfl fun o x h1 h2=>⟨h1,x,by rwa [ai.yF] at h2⟩⟩
 ·have:=r.rm o x hx;rw[ai.E5];omega
 have:=r.bX;rw[ai.E5];omega
theorem Frame.qY {U:Mu}{lo:Nat}{h:ai}{w:World}(k:Nat):Frame lo U h w U (ai.qY k h) w:=by
 refine⟨Mu.le_refl _,Nat.le_refl _,by rw[ai.E5];omega,fun _ _ _=>rfl,fun b _=>?_,fun o _=>ai.yF k h o,fun _ _=>rfl,fun o _ hn=>by rw[ai.yF];exact hn,.refl w⟩
 rintro⟨o,x,a,C,h1,h2,h3⟩
 exact⟨o,x,a,C,h1,by rwa [ai.yF] at h2,h3⟩
section
variable (base:Nat) (sl:Nat→Nat) (FO:Nat→Option bn) (S:Nat→Bool)
def bY:List Nat→ai→ai
 |[],h=>h
 | i :: r, h => bif S i then match FO i with
   |some x=>(bY r h).put (base+sl i) (some x)
   |none=>bY r h
  else bY r h
variable {base sl FO S}
theorem rD:∀(as:List Nat) (h:ai),(bY base sl FO S as h).next=h.next
 |[],_=>rfl
 |i::r,h=>by
  simp only[bY]
  cases S i with
  |false=>exact rD r h
  |true=>
   cases FO i with
   |none=>exact rD r h
   |some x=>exact rD r h
theorem AI {as:List Nat}{h:ai}{o:Nat}(hb:∀i∈as,base+sl i<h.next)(hm:∀i∈as,S i=true→FO i≠none→o≠base+sl i):(bY base sl FO S as h).get o=h.get o:=by
 induction as with
 |nil=>rfl
 |cons i r ih=>
  have ih:=ih (fun j hj=>hb j (List.mem_cons_of_mem _ hj)) (fun j hj=>hm j (List.mem_cons_of_mem _ hj))
  simp only[bY]
  cases hs:S i with
  |false=>exact ih
  |true=>
   cases hf:FO i with
   |none=>exact ih
   |some x=>
    simp only[aQ]
    rw[ai.eT _ _ _ _ (by rw[rD];exact hb i (by simp)),if_neg (hm i (by simp) hs (by simp[hf]))]
    exact ih
theorem Du {as:List Nat}{h:ai}{i:Nat}{x:bn}(hb:∀i∈as,base+sl i<h.next)(BO:∀i∈as,∀j∈as,sl i=sl j→i=j)(hi:i∈as)(hs:S i=true)(hf:FO i=some x) :
  (bY base sl FO S as h).get (base+sl i)=some x:=by
 induction as with
 |nil=>cases hi
 |cons j r ih=>
  have ih:=ih (fun j hj=>hb j (List.mem_cons_of_mem _ hj)) (fun j hj k hk=>BO j (List.mem_cons_of_mem _ hj) k (List.mem_cons_of_mem _ hk))
  simp only[bY]
  by_cases gP:i=j
  ·subst gP
   simp only[hs,hf,aQ]
   rw[ai.eT _ _ _ _ (by rw[rD];exact hb i (by simp)),if_pos rfl]
  have dB:i∈r:=(List.mem_cons.1 hi).resolve_left gP
  cases hsj:S j with
  |false=>exact ih dB
  |true=>
   cases wx:FO j with
   |none=>exact ih dB
   |some y=>
    simp only[aQ]
    rw[ai.eT _ _ _ _ (by rw[rD];exact hb j (by simp)),if_neg]
    ·exact ih dB
    intro h
    exact gP (BO i hi j (by simp) (by omega))
theorem UI {as:List Nat}{h:ai}{o:Nat}{x:bn}(hb:∀i∈as,base+sl i<h.next)(BO:∀i∈as,∀j∈as,sl i=sl j→i=j)(hx:(bY base sl FO S as h).get o=some x) :
  (∃i∈as,S i=true∧o=base+sl i∧FO i=some x)∨(h.get o=some x∧∀i∈as,S i=true→FO i≠none→o≠base+sl i):=by
 by_cases he:∃i∈as,S i=true∧FO i≠none∧o=base+sl i
 ·obtain⟨i,hi,hs,hf,rfl⟩:=he
  cases rE:FO i with
  |none=>exact absurd rE hf
  |some y=>
   rw[Du hb BO hi hs rE] at hx
   exact .inl ⟨i,hi,hs,rfl,by rw[rE,hx]⟩
 have hm:∀i∈as,S i=true→FO i≠none→o≠base+sl i:=fun i hi hs hf ho=>he ⟨i,hi,hs,hf,ho⟩
 rw[AI hb hm] at hx
 exact .inr ⟨hx,hm⟩
end
theorem zva (ts:aL)(d:Option Tmp)(v:Value):(bN ts d v).length=ts.length:=by cases d<;>simp[bN]
theorem IM {ts:aL}{d:Option Tmp}{v:Value}{t:Nat}(h:d≠some t):(bN ts d v)[t]?=ts[t]?:=by
 cases d with
 |none=>rfl
 |some d=>simp only[bN];rw[List.getElem?_set_ne];intro hh;exact h (by rw[hh])
theorem zoq {ts bo:aL}{d:Option Tmp}{v v':Value}{t:Nat}(hl:ts.length=bo.length)(h:ts[t]?=bo[t]?)(hv:d=some t→v=v'):(bN ts d v)[t]?=(bN bo d v')[t]?:=by
 by_cases hd:d=some t
 ·subst hd
  rw[hv rfl]
  simp only[bN,List.getElem?_set,if_true,hl]
 rw[IM hd,IM hd];exact h
theorem z2a (ts:aL){d e:Option Tmp}(v u:Value)(h:∀t,d=some t→e≠some t):bN (bN ts d v) e u=bN (bN ts e u) d v:=by
 cases d with
 |none=>rfl
 |some d=>
  cases e with
  |none=>rfl
  |some e=>
   have:d≠e:=fun hh=>h d rfl (by rw[hh])
   simp only[bN]
   rw[List.set_comm _ _ this]
def wy (ops:Array Oper)(i:Nat):Option Tmp:=(ops[i]?).bind (·.dst)
def gr (ops:Array Oper)(V:Nat→Value)(S:Nat→Bool)(cF:aL):Nat→aL
 |0=>cF
 |n+1=>bif S n then bN (gr ops V S cF n) (wy ops n) (V n) else gr ops V S cF n
section
variable {ops:Array Oper} {V V':Nat→Value} {S S':Nat→Bool} {cF:aL}
theorem Pc:∀n,(gr ops V S cF n).length=cF.length
 |0=>rfl
 |n+1=>by simp only[gr];cases S n<;>simp[zva,Pc n]
theorem BP:∀ {n},(∀i<n,S i=S' i)→(∀i<n,S i=true→V i=V' i)→gr ops V S cF n=gr ops V' S' cF n
 |0,_,_=>rfl
 |n+1,h,hv=>by
  simp only[gr]
  rw[← h n (by omega),BP (fun i hi=>h i (by omega)) (fun i hi=>hv i (by omega))]
  cases hs:S n with
  |false=>rfl
  |true=>rw[hv n (by omega) hs]
theorem Pd {t:Nat}:∀ {n},(∀j<n,wy ops j=some t→S j=S' j∧(S j=true→V j=V' j))→(gr ops V S cF n)[t]?=(gr ops V' S' cF n)[t]?
 |0,_=>rfl
 |n+1,h=>by
  have ih:=Pd (n:=n) (fun j hj=>h j (by omega))
  simp only[gr]
  by_cases hd:wy ops n=some t
  ·obtain⟨h1,h2⟩:=h n (by omega) hd
   rw[← h1]
   cases hs:S n with
   |false=>exact ih
   |true=>exact zoq (by rw[Pc,Pc]) ih (fun _=>h2 hs)
  have e:∀(b:Bool) (v:Value) (ts:aL),(bif b then bN ts (wy ops n) v else ts)[t]?=ts[t]?:=fun b v ts=>by
   cases b
   ·rfl
   exact IM hd
  rw[e,e];exact ih
theorem UJ {i:Nat}:∀ {n},i<n→S i=false→(∀j,i<j→j<n→S j=true→∀t,wy ops i=some t→wy ops j≠some t)→
  gr ops V (fun j=>S j||Nat.beq j i) cF n=bN (gr ops V S cF n) (wy ops i) (V i)
 |0,h,_,_=>by omega
 |n+1,h,hs,hd=>by
  simp only[gr]
  by_cases hi:i=n
  ·subst hi
   have:gr ops V (fun j=>S j||Nat.beq j i) cF i=gr ops V S cF i:=by
    refine BP (fun j hj=>?_) (fun _ _ _=>rfl)
    have:Nat.beq j i=false:=by rw[Bool.eq_false_iff];intro hh;have:=v7 hh;omega
    simp[this]
   rw[this,hs]
   simp
  have hb:Nat.beq n i=false:=by rw[Bool.eq_false_iff];intro hh;have:=v7 hh;omega
  rw[UJ (n:=n) (by omega) hs (fun j h1 h2=>hd j h1 (by omega)),hb,Bool.or_false]
  cases jK:S n with
  |false=>rfl
  |true=>exact z2a _ _ _ (hd n (by omega) (by omega) jK)
end
def AJ (ops:Array Oper)(o:Oper)(ts bo:aL):Prop:=∀t∈o.looksAt ops,ts[t]?=bo[t]?
theorem AJ.eval {ops:Array Oper}{o:Oper}{ts bo:aL}(h:AJ ops o ts bo):∀x∈o.op.operands,dF ts x=dF bo x:=by
 intro x hx
 cases x with
 |tmp t=>
  have:=h t (List.mem_append_left _ (List.mem_filterMap.2 ⟨.tmp t,by simpa using hx,rfl⟩))
  simp only[dF,List.getD_eq_getElem?_getD,this]
 |_=>rfl
theorem AJ.wanted {ops:Array Oper}{o:Oper}{ts bo:aL}(h:AJ ops o ts bo):Region.wanted o (qa ops ts)=Region.wanted o (qa ops bo):=by
 unfold Region.wanted
 cases hg:o.guard with
 |none=>rfl
 |some gw=>
  obtain⟨g,wt⟩:=gw
  have:qa ops ts g=qa ops bo g:=by
   unfold qa
   cases hd:(ops[g]?).bind (·.dst) with
   |none=>rfl
   |some d=>
    simp only[Option.bind_some]
    rw[h d (List.mem_append_right _ (by simp[hg,hd]))]
  simp only[this]
theorem Frame.ext {lo:Nat}{U aV:Mu}{h h1 h2:ai}{w w':World}(f:Frame lo U h w aV h1 w')(hg:∀o,h2.get o=h1.get o)(hn:h1.next=h2.next):Frame lo U h w aV h2 w' where
  le:=f.le
  size:=f.size
  next:=hn▸f.next
  kept:=f.kept
  own b hb:=by
    rintro⟨o,x,a,C,k1,k2,k3⟩
    exact f.own b hb ⟨o,x,a,C,k1,by rw[← hg];exact k2,k3⟩
  low o ho:=by rw[hg,f.low o ho]
  jg:=f.jg
  born o ho hx:=by rw[hg,f.born o ho hx]
  calm:=f.calm
theorem Rel.ext {U:Mu}{lo:Nat}{h h':ai}{w:World}(r:Rel U lo h w)(hg:∀o,h'.get o=h.get o)(hn:h.next=h'.next):Rel U lo h' w:=
 r.sub (Nat.le_of_eq hn) (fun o x hx=>by rw[← hg];exact hx) (Nat.le_refl _) (hn▸r.bX)
theorem zr0 {U:Mu}{lo:Nat}{h:ai}{w:World}(r:Rel U lo h w){id:Nat}(hid:id<h.next)(hl:lo≤id)(hg:h.get id=none)(hm:U id=none)(ob:Obj)(C:Nat)(x:bn)
  (hx:iu (U.put id (w.heap.size,0,C)) (w.alloc ob) w.heap.size 0 C x) (hf:∀off,(w.alloc ob).frozen? ⟨w.heap.size,off,none⟩=false) :
  U.le (U.put id (w.heap.size,0,C))∧Rel (U.put id (w.heap.size,0,C)) lo (h.put id (some x)) (w.alloc ob)∧
  ∀lO h0 w0,Frame lo lO h0 w0 U h w→h0.next≤id→Frame lo lO h0 w0 (U.put id (w.heap.size,0,C)) (h.put id (some x)) (w.alloc ob):=by
 have hle:U.le (U.put id (w.heap.size,0,C)):=by
  intro o y hy
  have:o≠id:=by intro ho;subst ho;rw[hm] at hy;cases hy
  rw[Mu.lX _ this];exact hy
 have hblk:∀o y b a C',h.get o=some y→U o=some (b,a,C')→b<w.heap.size:=fun o y b a C' hy hm=>by
  obtain⟨b',a',sH,h1,h2⟩:=r.br o y hy
  rw[hm] at h1;injection h1 with h1;injection h1 with h1 _;subst h1
  exact h2.vy
 refine⟨hle,⟨?_,?_,?_,?_,?_,?_⟩,fun lO h0 w0 f hb=>?_⟩
 ·intro o y hy
  rw[ai.eT _ _ _ _ hid] at hy
  by_cases ho:o=id
  ·subst ho
   simp at hy;subst hy
   exact⟨_,_,_,Mu.cX _ _ _,hx⟩
  simp[ho] at hy
  obtain⟨b,a,C',h1,h2⟩:=r.br o y hy
  exact⟨b,a,C',by rw[Mu.lX _ ho];exact h1,(h2.mono hle).kept (heap_alloc_old _ _ h2.vy)⟩
 ·intro o o' y y' b a C' a' sH hl hy sI hm fN
  rw[ai.eT _ _ _ _ hid] at hy sI
  by_cases ho:o=id
  ·by_cases o6:o'=id
   ·rw[ho,o6]
   simp[o6] at sI
   rw[Mu.lX _ o6] at fN
   have:=hblk o' y' _ _ _ sI fN
   subst ho;rw[Mu.cX] at hm;injection hm with hm;injection hm with hm _;omega
  simp[ho] at hy
  rw[Mu.lX _ ho] at hm
  have h1:=hblk o y _ _ _ hy hm
  by_cases o6:o'=id
  ·subst o6;rw[Mu.cX] at fN;injection fN with fN;injection fN with fN _;omega
  simp[o6] at sI
  rw[Mu.lX _ o6] at fN
  exact r.inj o o' y y' b a C' a' sH hl hy sI hm fN
 ·intro o y hy
  by_cases ho:o=id
  ·subst ho;simpa using hid
  rw[Mu.lX _ ho] at hy
  have:=r.rm o y hy
  simpa using this
 ·intro o y b a C' hl hy hm off
  rw[ai.eT _ _ _ _ hid] at hy
  by_cases ho:o=id
  ·subst ho
   rw[Mu.cX] at hm;injection hm with hm;injection hm with hm _;subst hm
   exact hf off
  simp[ho] at hy
  rw[Mu.lX _ ho] at hm
  rw[Bu (heap_alloc_old _ _ (hblk o y _ _ _ hy hm))]
  exact r.fZ o y b a C' hl hy hm off
 ·exact r.bX
 ·refine r.mM.step (by simp) (fun b hb _=>heap_alloc_old _ _ hb) fun o y b a C' hl hy hm hb=>?_
  rw[ai.eT _ _ _ _ hid] at hy
  by_cases ho:o=id
  ·subst ho;rw[Mu.cX] at hm;injection hm with hm;injection hm with hm _;omega
  simp[ho] at hy
  rw[Mu.lX _ ho] at hm
  exact⟨o,y,a,C',hl,hy,hm⟩
 refine⟨Mu.le_trans f.le hle,Nat.le_trans f.size (by simp),f.next,fun b hb hn=>?_,fun b hb=>?_,fun o ho=>?_,fun o ho=>?_,fun o ho hn=>?_,⟨f.calm.1,f.calm.2,f.calm.3,f.calm.4⟩⟩
 ·rw[heap_alloc_old _ _ (Nat.lt_of_lt_of_le hb f.size)];exact f.kept b hb hn
 ·rintro⟨o,y,a,C',hl,hy,hm⟩
  rw[ai.eT _ _ _ _ hid] at hy
  by_cases ho:o=id
  ·subst ho;rw[Mu.cX] at hm;injection hm with hm;injection hm with hm _
   have:=f.size;omega
  simp[ho] at hy
  rw[Mu.lX _ ho] at hm
  exact f.own b hb ⟨o,y,a,C',hl,hy,hm⟩
 ·rw[ai.eT _ _ _ _ hid,if_neg (by omega)];exact f.low o ho
 ·rw[Mu.lX _ (by omega)];exact f.jg o ho
 rw[ai.eT _ _ _ _ hid,if_neg (by omega)];exact f.born o ho hn
theorem z8j {U aV:Mu}{lo:Nat}{h hm h' hj:ai}{w w':World}(r:Rel U lo h w)(hn:hm.next=h.next)(hs:∀o x,hm.get o=some x→h.get o=some x)
  (bS:∀o,o<lo→hm.get o=h.get o)
  (r':Rel aV lo h' w') (f:Frame lo U hm w aV h' w') (Pe:hj.next=h'.next)
  (fh:∀o,hj.get o=h'.get o∨(lo≤o∧hm.get o=none∧∃x,h.get o=some x∧hj.get o=some x)) :
  Rel aV lo hj w'∧Frame lo U h w aV hj w':=by
 have aside:∀o x b a C,lo≤o→hm.get o=none→h.get o=some x→U o=some (b,a,C)→¬Bt U lo hm b:=by
  rintro o x b a C cY h0 hx Mr ⟨o',x',a',C',k1,k2,k3⟩
  have:=r.inj o o' x x' b a C a' C' cY hx (hs _ _ k2) Mr k3
  subst this
  rw[h0] at k2;cases k2
 have Hh:∀ {o x},hj.get o=some x→h'.get o=some x∨(lo≤o∧hm.get o=none∧h.get o=some x):=fun {o x} hx=>by
  rcases fh o with h1|⟨h1,h2,y,h3,h4⟩
  ·exact .inl (by rw[← h1];exact hx)
  rw[h4] at hx;injection hx with hx;subst hx;exact .inr ⟨h1,h2,h3⟩
 have mA:∀ {o x},lo≤o→hm.get o=none→h.get o=some x→∃b a C,U o=some (b,a,C)∧aV o=some (b,a,C)∧b<w.heap.size∧w'.heap[b]?=w.heap[b]?∧iu U w b a C x:=fun {o x} h1 h2 h3=>by
  obtain⟨b,a,C,k1,k2⟩:=r.br o x h3
  exact⟨b,a,C,k1,f.le _ _ k1,k2.vy,f.kept b k2.vy (aside o x b a C h1 h2 h3 k1),k2⟩
 have Dv:∀ {o o' x x' b a C a' C'},h'.get o=some x→lo≤o'→hm.get o'=none→h.get o'=some x'→aV o=some (b,a,C)→aV o'=some (b,a',C')→o=o':=fun {o o' x x' b a C a' C'} k1 k2 k3 k4 k5 k6=>by
  obtain⟨b2,a2,C2,g1,g2,g3,g4,_⟩:=mA k2 k3 k4
  rw[k6] at g2
  have hbe:b=b2:=by injection g2 with g2;injection g2
  subst hbe
  by_cases hl:lo≤o
  ·exact absurd (f.own b g3 ⟨o,x,a,C,hl,k1,k5⟩) (aside o' x' b a2 C2 k2 k3 k4 g1)
  have hl:o<lo:=by omega
  have hx:h.get o=some x:=by rw[← bS o hl,← f.low o hl];exact k1
  have a8:=ai.iE hx
  have ov:U o=some (b,a,C):=by rw[← f.jg o (by omega)];exact k5
  exact(r.inj o' o x' x b a2 C2 a C k2 k4 hx g1 ov).symm
 refine Rel.Oy r (fun o x hx=>?_) (fun o o' x x' b a C a' C' hl hx xx b7 gW=>?_) (fun o x hx=>Pe▸r'.rm o x hx) (fun o x b a C hl hx b7 off=>?_) (Pe▸r'.bX)
  ⟨f.le,f.size,?_,fun b hb Dw=>f.kept b hb (fun⟨o,x,a,C,k1,k2,k3⟩=>Dw ⟨o,x,a,C,k1,hs _ _ k2,k3⟩),fun b hb=>?_,fun o ho=>?_,fun o ho=>f.jg o (by omega),fun o ho hx=>?_,f.calm⟩
 ·rcases Hh hx with h1|⟨h1,h2,h3⟩
  ·exact r'.br o x h1
  obtain⟨b,a,C,g1,g2,g3,g4,g5⟩:=mA h1 h2 h3
  exact⟨b,a,C,g2,(g5.mono f.le).kept g4⟩
 ·rcases Hh hx with h1|⟨h1,h2,h3⟩
  ·rcases Hh xx with k1|⟨k1,k2,k3⟩
   ·exact r'.inj o o' x x' b a C a' C' hl h1 k1 b7 gW
   exact Dv h1 k1 k2 k3 b7 gW
  rcases Hh xx with k1|⟨k1,k2,k3⟩
  ·exact(Dv k1 h1 h2 h3 gW b7).symm
  obtain⟨b1,a1,C1,g1,g2,_⟩:=mA h1 h2 h3
  obtain⟨b2,a2,C2,l1,l2,_⟩:=mA k1 k2 k3
  rw[b7] at g2;rw[gW] at l2
  injection g2 with g2;injection g2 with g2 _
  injection l2 with l2;injection l2 with l2 _
  subst g2;subst l2
  exact r.inj o o' x x' b a1 C1 a2 C2 hl h3 k3 g1 l1
 ·rcases Hh hx with h1|⟨h1,h2,h3⟩
  ·exact r'.fZ o x b a C hl h1 b7 off
  obtain⟨b1,a1,C1,g1,g2,g3,g4,g5⟩:=mA h1 h2 h3
  rw[b7] at g2;injection g2 with g2;injection g2 with g2 _;subst g2
  rw[Bu g4]
  exact r.fZ o x b a1 C1 hl h3 g1 off
 ·rw[Pe,← hn];exact f.next
 ·rintro⟨o,x,a,C,k1,k2,k3⟩
  rcases Hh k2 with h1|⟨h1,h2,h3⟩
  ·obtain⟨o2,x2,a2,C2,g1,g2,g3⟩:=f.own b hb ⟨o,x,a,C,k1,h1,k3⟩
   exact⟨o2,x2,a2,C2,g1,hs _ _ g2,g3⟩
  obtain⟨b1,a1,C1,g1,g2,_⟩:=mA h1 h2 h3
  rw[k3] at g2;injection g2 with g2;injection g2 with g2 _;subst g2
  exact⟨o,x,a1,C1,h1,h3,g1⟩
 ·rcases fh o with h1|⟨h1,_⟩
  ·rw[h1,f.low o ho,bS o ho]
  omega
 rcases fh o with h1|⟨h1,h2,y,h3,h4⟩
 ·rw[h1]
  refine f.born o (by omega) ?_
  cases hq:hm.get o with
  |none=>rfl
  |some z=>rw[hs _ _ hq] at hx;cases hx
 rw[hx] at h3;cases h3
structure BQ (ops:Array Oper) (b:Nat→Nat→Bool) (W As:List Nat) (sl:Nat→Nat) (nA:Nat):Prop where
  lt:∀i j,b i j=true→i<j
  Pf:∀j o,ops[j]?=some o→∀e∈o.after,Region.binds .any e=true→e.on<j
  clo:∀i j o,ops[j]?=some o→b i j=true→∃e∈o.after,Region.binds .any e=true∧(e.on=i∨b i e.on=true)
  chain:W.Pairwise (fun w w'=>b w w'=true)
  wlt:∀w∈W,w<ops.size
  alt:∀i∈As,i<ops.size
  aw:∀i∈As,i∉W
  asl:∀i∈As,sl i<nA
  nG:∀i∈As,∀j∈As,sl i=sl j→i=j
  names:∀i j oi oj,ops[i]?=some oi→ops[j]?=some oj→i<j→oi.apart ops oj=true∨b i j=true
section
variable (P:Program) (lo:Nat) (ops:Array Oper) (b:Nat→Nat→Bool) (W As:List Nat) (sl:Nat→Nat) (base:Nat) (cF:aL) (Q:ow)
def tU (V:Nat→Value)(FO:Nat→Option bn)(M:Nat→Bool)(H:ai)(m:Nat)(o:Oper):Prop:=
  let Ms:=gr ops V (fun j=>b j m) cF ops.size
  (Region.wanted o (qa ops Ms)=true∧
    ((xH o.op=true∧m∉As∧FO m=none∧∃h1,cV P lo Ms (bY base sl FO (fun i=>b i m&&!M i) As H) o.op=some (V m,h1))∨
     (∃x,m∈As∧FO m=some x∧lq P Ms (base+sl m) o.op=some (V m,x))))∨
  (Region.wanted o (qa ops Ms)=false∧V m=Go.undef∧FO m=none)
def PC (bF:List Nat)(last:Option Nat)(V:Nat→Value)(FO:Nat→Option bn)(M:Nat→Bool)(H:ai):Prop:=
 ∀m o,ops[m]?=some o→m∉W→(∀w∈bF,b w m=false)→(∀l,last=some l→b m l=false)→tU P lo ops b As sl base cF V FO M H m o
def Ext (bF:List Nat)(V V':Nat→Value)(FO fA:Nat→Option bn):Prop:=
 ∀i,i<ops.size→i∉bF→(∀w∈bF,b w i=false)→V' i=V i∧fA i=FO i
def DR:List Nat→Option Nat→(Nat→Value)→(Nat→Option bn)→(Nat→Bool)→ai→Prop
 |[],last,V,FO,M,H=>PC P lo ops b W As sl base cF [] last V FO M H∧Q .normal (gr ops V (fun _=>true) cF ops.size) (bY base sl FO (fun i=>!M i) As H)
 | wr :: r, last, V, FO, M, H => PC P lo ops b W As sl base cF (wr :: r) last V FO M H ∧ ∀ o, ops[wr]? = some o →
   (Region.wanted o (qa ops (gr ops V (fun j=>b j wr) cF ops.size))=true→∀ts,AJ ops o ts (gr ops V (fun j=>b j wr) cF ops.size)→
    sV P lo o ts (bY base sl FO (fun i=>b i wr&&!M i) As H) (fun bo h'=>∃V' fA,Ext ops b (wr::r) V V' FO fA∧bo=bN ts o.dst (V' wr)∧DR r (some wr) V' fA (fun i=>M i||b i wr) h'))∧
   (Region.wanted o (qa ops (gr ops V (fun j=>b j wr) cF ops.size))=false→∃V' fA,Ext ops b (wr::r) V V' FO fA∧V' wr=Go.undef∧DR r (some wr) V' fA M H)
def Lf (listed:Array Bool):Nat→Bool:=fun j=>listed.getD j false
structure yG (nA:Nat) (lO:Mu) (h0:ai) (w0:World) (ds:List Deferred) (bF:List Nat) (last:Option Nat) (V:Nat→Value) (FO:Nat→Option bn) (M:Nat→Bool) (H:ai) (listed:Array Bool) (U:Mu) (a:Act) (w:World):Prop where
  sz:listed.size=ops.size
  closed:∀i j,b i j=true→Lf listed j=true→Lf listed i=true
  wr:∃done,done++bF=W∧(∀w∈done,Lf listed w=true)∧(∀w∈bF,Lf listed w=false)
  UK:∀l,last=some l→Lf listed l=true
  E6:∀i,M i=true→Lf listed i=true
  ht:eA U (gr ops V (Lf listed) cF ops.size) a.tmps
  hr:Rel U lo (bY base sl FO (fun i=>Lf listed i&&!M i) As H) w
  fr:Frame lo lO h0 w0 U (bY base sl FO (fun i=>Lf listed i&&!M i) As H) w
  un:∀i∈As,Lf listed i=false→U (base+sl i)=none
  ds:a.defers=ds
  hn:base+nA≤H.next
  hH:∀i∈As,M i=false→H.get (base+sl i)=none
  cY:lo≤base
  hb:h0.next≤base
end
theorem xgq {listed:Array Bool}{i:Nat}(hi:i<listed.size):Lf (listed.setIfInBounds i true)=fun j=>Lf listed j||Nat.beq j i:=by
 funext j
 unfold Lf
 by_cases h:i=j
 ·subst h;simp[hi]
 rw[getD_set_ne false h]
 have:Nat.beq j i=false:=by rw[Bool.eq_false_iff];intro hh;exact h (v7 hh).symm
 simp[this]
def vC (listed:Array Bool):Nat→Nat
 |0=>0
 |n+1=>(bif listed.getD n true then 0 else 1)+vC listed n
theorem UL {listed:Array Bool}{i:Nat}:∀ {n},i<n→i<listed.size→listed.getD i true=false→vC listed n=vC (listed.setIfInBounds i true) n+1
 |0,h,_,_=>by omega
 |n+1,h,hs,hi=>by
  simp only[vC]
  by_cases dC:i=n
  ·subst dC
   have e:∀m,m≤i→vC (listed.setIfInBounds i true) m=vC listed m:=by
    intro m hm
    induction m with
    |zero=>rfl
    |succ m ih=>simp only[vC];rw[ih (by omega),getD_set_ne true (by omega)]
   rw[e i (Nat.le_refl _),hi]
   have:(listed.setIfInBounds i true).getD i true=true:=by simp[hs]
   rw[this]
   simp only[aQ,bx];omega
  rw[UL (n:=n) (by omega) hs hi,getD_set_ne true dC];omega
theorem UM {listed:Array Bool}:∀ {n},vC listed n=0→∀i<n,listed.getD i true=true
 |0,_,i,h=>by omega
 |n+1,h,i,hi=>by
  simp only[vC] at h
  cases hl:listed.getD n true with
  |false=>simp only[hl,bx] at h;omega
  |true=>
   by_cases dC:i=n
   ·subst dC;exact hl
   exact UM (n:=n) (by simp only[hl,aQ] at h;omega) i (by omega)
theorem Dx {base:Nat}{sl:Nat→Nat}{FO fA:Nat→Option bn}{S S':Nat→Bool}:∀ {as:List Nat} {h:ai},(∀k∈as,(bif S k then FO k else none)=(bif S' k then fA k else none))→bY base sl FO S as h=bY base sl fA S' as h
 |[],_,_=>rfl
 |i::r,h,hc=>by
  have ih:=Dx (base:=base) (sl:=sl) (as:=r) (h:=h) (fun k hk=>hc k (List.mem_cons_of_mem _ hk))
  have h0:=hc i (by simp)
  have e:∀(S:Nat→Bool) (FO:Nat→Option bn),bY base sl FO S (i::r) h=(match (bif S i then FO i else none) with|some x=>(bY base sl FO S r h).put (base+sl i) (some x)|none=>bY base sl FO S r h):=fun S FO=>by
   simp only[bY]
   cases S i<;>rfl
  rw[e,e,h0,ih]
section
variable {P:Program} {lo:Nat} {ops:Array Oper} {b:Nat→Nat→Bool} {W As:List Nat} {sl:Nat→Nat} {nA base:Nat} {cF:aL} {Q:ow}
theorem DR.pc {bF:List Nat}{last:Option Nat}{V:Nat→Value}{FO:Nat→Option bn}{M:Nat→Bool}{H:ai}(h:DR P lo ops b W As sl base cF Q bF last V FO M H):PC P lo ops b W As sl base cF bF last V FO M H:=by
 cases bF with
 |nil=>exact h.1
 |cons _ _=>exact h.1
theorem UN (st:BQ ops b W As sl nA){L:Nat→Bool}{V:Nat→Value}{i:Nat}{o:Oper}(ho:ops[i]?=some o)(hi:L i=false)(hp:∀j,b j i=true→L j=true)(hc:∀i j,b i j=true→L j=true→L i=true) :
  AJ ops o (gr ops V L cF ops.size) (gr ops V (fun j=>b j i) cF ops.size):=by
 intro t ht
 refine Pd fun j hj hd=>?_
 suffices h:L j=b j i by exact⟨h,fun _=>rfl⟩
 obtain⟨oj,Dy⟩:∃oj,ops[j]?=some oj:=⟨ops[j],by simp[hj]⟩
 have AK:oj.dst=some t:=by simpa[wy,Dy] using hd
 rcases Nat.lt_trichotomy j i with h|h|h
 ·have hb:b j i=true:=by
   rcases st.names j i oj o Dy ho h with h1|h1
   ·exact absurd ht ((Oper.apart_spec h1).1 t AK)
   exact h1
  rw[hb,hp j hb]
 ·subst h
  rw[hi]
  cases hb:b j j with
  |false=>rfl
  |true=>have:=st.lt _ _ hb;omega
 have hb:b i j=true:=by
  rcases st.names i j o oj ho Dy h with h1|h1
  ·exact absurd ht ((Oper.apart_spec h1).2.2 t AK)
  exact h1
 have h1:L j=false:=by
  cases hl:L j with
  |false=>rfl
  |true=>rw[hc _ _ hb hl] at hi;cases hi
 rw[h1]
 cases cr:b j i with
 |false=>rfl
 |true=>have:=st.lt _ _ cr;omega
theorem Pg (st:BQ ops b W As sl nA){L:Nat→Bool}{V:Nat→Value}{i:Nat}{o:Oper}(ho:ops[i]?=some o)(hi:L i=false)(hc:∀i j,b i j=true→L j=true→L i=true) :
  gr ops V (fun j=>L j||Nat.beq j i) cF ops.size=bN (gr ops V L cF ops.size) o.dst (V i):=by
 have a8:i<ops.size:=(Array.getElem?_eq_some_iff.1 ho).1
 have hd:wy ops i=o.dst:=by simp[wy,ho]
 rw[← hd]
 refine UJ a8 hi fun j h1 h2 hl t ht Mt=>?_
 obtain⟨oj,Dy⟩:∃oj,ops[j]?=some oj:=⟨ops[j],by simp[h2]⟩
 rcases st.names i j o oj ho Dy h1 with h3|h3
 ·exact(Oper.apart_spec h3).2.1 t (by rw[← hd];exact ht) (by simpa[wy,Dy] using Mt)
 rw[hc _ _ h3 hl] at hi;cases hi
theorem rF {i j:Nat}(h:j≠i):Nat.beq j i=false:=by
 rw[Bool.eq_false_iff];intro hh;exact h (v7 hh)
theorem yG.advance (st:BQ ops b W As sl nA){lO:Mu}{h0:ai}{w0:World}{ds:List Deferred}{bF yH:List Nat}{last yI:Option Nat}{V V':Nat→Value}{FO fA:Nat→Option bn}{M M':Nat→Bool}{H H':ai}{listed:Array Bool}{U aV:Mu}{a a':Act}{w w':World}{i:Nat}{o:Oper}
  (d:yG lo ops b W As sl base cF nA lO h0 w0 ds bF last V FO M H listed U a w) (ho:ops[i]?=some o) (hi:Lf listed i=false) (hp:∀j,b j i=true→Lf listed j=true)
  (sX:(yH=bF∧i∉W)∨bF=i::yH) (IN:yI=last∨yI=some i) (hM:∀j,M' j=true→M j=true∨b j i=true) (hV:∀j,Lf listed j=true→V' j=V j)
  (ht:eA aV (bN (gr ops V (Lf listed) cF ops.size) o.dst (V' i)) a'.tmps) (BE:a'.defers=ds)
  (hr:Rel aV lo (bY base sl fA (fun j=>(Lf listed j||Nat.beq j i)&&!M' j) As H') w') (fr:Frame lo lO h0 w0 aV (bY base sl fA (fun j=>(Lf listed j||Nat.beq j i)&&!M' j) As H') w')
  (un:∀j∈As,Lf listed j=false→j≠i→aV (base+sl j)=none) (hn:base+nA≤H'.next) (hH:∀j∈As,M' j=false→H'.get (base+sl j)=none) :
  yG lo ops b W As sl base cF nA lO h0 w0 ds yH yI V' fA M' H' (listed.setIfInBounds i true) aV a' w':=by
 have a8:i<ops.size:=(Array.getElem?_eq_some_iff.1 ho).1
 have vD:=xgq (listed:=listed) (i:=i) (by rw[d.sz];exact a8)
 have yy:Nat.beq i i=true:=Nat.beq_refl i
 obtain⟨done,mS,mB,sY⟩:=d.wr
 refine⟨by simpa using d.sz,fun p q BR hq=>?_,?_,fun l hl=>?_,fun j hj=>?_,?_,by rw[vD];exact hr,by rw[vD];exact fr,fun j hj hl=>?_,BE,hn,hH,d.cY,d.hb⟩
 ·rw[vD] at hq ⊢
  simp only[Bool.or_eq_true] at hq ⊢
  left
  rcases hq with hq|hq
  ·exact d.closed p q BR hq
  rw[v7 hq] at BR;exact hp p BR
 ·rcases sX with⟨rfl,yJ⟩|sX
  ·refine⟨done,mS,fun w hw=>by rw[vD];simp[mB w hw],fun w hw=>?_⟩
   have:w≠i:=by rintro rfl;exact yJ (mS▸List.mem_append_right _ hw)
   rw[vD];simp[sY w hw,rF this]
  refine⟨done++[i],by rw[← mS,sX];simp,fun w hw=>?_,fun w hw=>?_⟩
  ·rw[vD]
   rcases List.mem_append.1 hw with h|h
   ·simp[mB w h]
   have:w=i:=by simpa using h
   subst this;simp
  have kB:=st.chain
  rw[← mS,sX,List.pairwise_append] at kB
  have hb:=(List.pairwise_cons.1 kB.2.1).1 w hw
  have:=st.lt _ _ hb
  rw[vD];simp[sY w (by rw[sX];exact List.mem_cons_of_mem _ hw),rF (show w≠i by omega)]
 ·rw[vD]
  rcases IN with h|h
  ·simp[d.UK l (by rw[← h];exact hl)]
  rw[h] at hl;injection hl with hl;subst hl;simp
 ·rw[vD]
  rcases hM j hj with h|h
  ·simp[d.E6 j h]
  simp[hp j h]
 ·rw[vD,Pg st ho hi d.closed]
  rw[BP (V':=V) (S':=Lf listed) (fun _ _=>rfl) (fun j _ hl=>hV j hl)]
  exact ht
 rw[vD] at hl
 simp only[Bool.or_eq_false_iff] at hl
 exact un j hj hl.1 (by rintro rfl;rw[yy] at hl;cases hl.2)
theorem xmf (st:BQ ops b W As sl nA){F:Fence}(hF:jJ F){n:Nat}{lO:Mu}{h0:ai}{w0:World}{ds:List Deferred} :
  ∀(fuel:Nat) (listed:Array Bool) (bF:List Nat) (last:Option Nat) (V:Nat→Value) (FO:Nat→Option bn) (M:Nat→Bool) (H:ai) (U:Mu) (a:Act) (w:World),
   yG lo ops b W As sl base cF nA lO h0 w0 ds bF last V FO M H listed U a w→DR P lo ops b W As sl base cF Q bF last V FO M H→vC listed ops.size=fuel→
   wpAnyIn F n P .any ops (ix lo lO h0 w0 ds Q) fuel listed a w:=by
 intro fuel
 have fin:∀(listed:Array Bool) (bF:List Nat) (last:Option Nat) (V:Nat→Value) (FO:Nat→Option bn) (M:Nat→Bool) (H:ai) (U:Mu) (a:Act) (w:World),
   yG lo ops b W As sl base cF nA lO h0 w0 ds bF last V FO M H listed U a w→DR P lo ops b W As sl base cF Q bF last V FO M H→Region.ready .any ops listed=[]→ix lo lO h0 w0 ds Q .normal a w:=by
  intro listed bF last V FO M H U a w d hD qU
  have bk:∀i,i<ops.size→Lf listed i=true:=by
   intro i
   induction i using Nat.strongRecOn with
   |_ i ih=>
    intro hi
    cases hl:Lf listed i with
    |true=>rfl
    |false=>
     have:i∈Region.ready .any ops listed:=by
      refine mem_ready.2 ⟨?_,ops[i],by simp[hi],fun e he hb=>?_⟩
      ·unfold Lf at hl
       have:i<listed.size:=by rw[d.sz];exact hi
       simp[this] at hl ⊢;exact hl
      have:=st.Pf i ops[i] (by simp[hi]) e he hb
      exact ih e.on this (by omega)
     rw[qU] at this;cases this
  cases bF with
  |cons w1 r=>
   obtain⟨done,mS,mB,sY⟩:=d.wr
   have h1:=sY w1 (by simp)
   rw[bk w1 (st.wlt w1 (by rw[← mS];simp))] at h1;cases h1
  |nil=>
   have e1:gr ops V (fun _=>true) cF ops.size=gr ops V (Lf listed) cF ops.size:=BP (fun i hi=>(bk i hi).symm) (fun _ _ _=>rfl)
   have e2:bY base sl FO (fun i=>!M i) As H=bY base sl FO (fun i=>Lf listed i&&!M i) As H:=Dx fun k hk=>by rw[bk k (st.alt k hk)];simp
   refine⟨_,_,U,d.ht,d.hr,d.fr,d.ds,?_⟩
   rw[← e1,← e2];exact hD.2
 induction fuel with
 |zero=>
  intro listed bF last V FO M H U a w d hD hu
  have qU:Region.ready .any ops listed=[]:=by
   rw[List.eq_nil_iff_forall_not_mem]
   intro i hi
   obtain⟨h1,o,ho,_⟩:=mem_ready.1 hi
   rw[UM hu i (Array.getElem?_eq_some_iff.1 ho).1] at h1;cases h1
  exact⟨qU,fin listed bF last V FO M H U a w d hD qU⟩
 |succ fuel ih=>
  intro listed bF last V FO M H U a w d hD hu
  refine⟨fin listed bF last V FO M H U a w d hD,fun i hi=>?_⟩
  obtain⟨BS,o,ho,bk⟩:=mem_ready.1 hi
  have a8:i<ops.size:=(Array.getElem?_eq_some_iff.1 ho).1
  have IP:i<listed.size:=by rw[d.sz];exact a8
  have cE:Lf listed i=false:=by unfold Lf;simp[IP] at BS ⊢;exact BS
  have hp:∀j,b j i=true→Lf listed j=true:=fun j hj=>by
   obtain⟨e,he,hb,h1⟩:=st.clo j i o ho hj
   rcases h1 with rfl|h1
   ·exact bk e he hb
   exact d.closed j e.on h1 (bk e he hb)
  have uI:vC (listed.setIfInBounds i true) ops.size=fuel:=by have:=UL a8 IP BS;omega
  have fy:=UN (cF:=cF) st (V:=V) ho cE hp d.closed
  have hy:yielded ops a.tmps=qa ops (gr ops V (Lf listed) cF ops.size):=funext (UA d.ht)
  have qb:∀j∈As,base+sl j<H.next:=fun j hj=>by have:=st.asl j hj;have:=d.hn;omega
  obtain⟨done,mS,mB,sY⟩:=d.wr
  unfold wpOpIn
  simp only[ho,hy]
  by_cases yJ:i∈W
  · -- a writer
   have Dz:i∈bF:=by
    rw[← mS] at yJ
    rcases List.mem_append.1 yJ with h|h
    ·rw[mB i h] at cE;cases cE
    exact h
   have IQ:∃r,bF=i::r:=by
    cases bF with
    |nil=>cases Dz
    |cons w1 r=>
     rcases List.mem_cons.1 Dz with rfl|h
     ·exact⟨r,rfl⟩
     have kB:=st.chain
     rw[← mS,List.pairwise_append] at kB
     have:=hp w1 ((List.pairwise_cons.1 kB.2.1).1 i h)
     rw[sY w1 (by simp)] at this;cases this
   obtain⟨r,rfl⟩:=IQ
   have BT:i∉As:=fun h=>st.aw i h yJ
   have Mv:∀j,Lf listed j=true→j<ops.size:=fun j hj=>by
    rcases Nat.lt_or_ge j ops.size with h|h
    ·exact h
    unfold Lf at hj
    have:¬j<listed.size:=by rw[d.sz];omega
    simp[this] at hj
   have known:∀j,Lf listed j=true→j∉i::r∧∀w∈i::r,b w j=false:=fun j hj=>by
    refine⟨fun h=>(by rw[sY j h] at hj;cases hj),fun w hw=>?_⟩
    cases hb:b w j with
    |false=>rfl
    |true=>have:=d.closed w j hb hj;rw[sY w hw] at this;cases this
   obtain⟨_,IS⟩:=hD
   obtain⟨mT,gq⟩:=IS o ho
   by_cases hw:Region.wanted o (qa ops (gr ops V (Lf listed) cF ops.size))=true
   ·simp only[hw,if_true]
    rw[fy.wanted] at hw
    have hA:=mT hw _ fy
    have rG:∀o' x,(bY base sl FO (fun k=>b k i&&!M k) As H).get o'=some x→(bY base sl FO (fun k=>Lf listed k&&!M k) As H).get o'=some x:=by
     intro o' x hx
     rcases UI qb st.nG hx with⟨k,hk,hs,rfl,hf⟩|⟨hx,_⟩
     ·simp only[bW] at hs
      exact Du qb st.nG hk (by simp only[hp k hs.1,hs.2,Bool.and_self]) hf
     rw[AI qb];· exact hx
     ·rintro k hk hs _ rfl
      simp only[bW,Bool.not_eq_true'] at hs
      rw[d.hH k hk hs.2] at hx;cases hx
    have hrm:Rel U lo (bY base sl FO (fun k=>b k i&&!M k) As H) w:=d.hr.sub (by rw[rD,rD];exact Nat.le_refl _) rG (Nat.le_refl _) (by have:=d.hr.bX;rw[rD] at this ⊢;exact this)
    refine Oper.wpIn_mono (fun a' w' hl=>?_) (hA F hF n U a w _ d.ht hrm)
    obtain⟨bo,h',aV,Ph,ru,E7,BE,V',fA,yK,rfl,dc⟩:=hl
    have bS:∀(S:Nat→Bool) o',o'<lo→(bY base sl FO S As H).get o'=H.get o':=fun S o' o6=>AI qb (fun k hk _ _=>by have:=d.cY;omega)
    have dp:H.next≤h'.next:=by have:=E7.next;rwa [rD] at this
    have IT:∀j∈As,base+sl j<h'.next:=fun j hj=>by have:=qb j hj;omega
    have hj:=z8j (hj:=bY base sl fA (fun j=>(Lf listed j||Nat.beq j i)&&!(M j||b j i)) As h') d.hr (by rw[rD,rD]) rG (fun o' o6=>by rw[bS _ o' o6,bS _ o' o6]) ru E7 (by rw[rD]) (fun o'=>by
     by_cases he:∃j∈As,((Lf listed j||Nat.beq j i)&&!(M j||b j i))=true∧fA j≠none∧o'=base+sl j
     ·obtain⟨j,IU,hs,hf,rfl⟩:=he
      have kx:j≠i:=by rintro rfl;exact BT IU
      cases wx:fA j with
      |none=>exact absurd wx hf
      |some x=>
       have Pj:=Du (h:=h') (S:=fun j=>(Lf listed j||Nat.beq j i)&&!(M j||b j i)) IT st.nG IU hs wx
       simp only[rF kx,Bool.or_false,bW,Bool.not_eq_true',Bool.or_eq_false_iff] at hs
       have hk:=known j hs.1
       have Mw:FO j=some x:=by rw[← (yK j (Mv j hs.1) hk.1 hk.2).2,wx]
       refine .inr ⟨by have:=d.cY;omega,?_,x,Du qb st.nG IU (by simp only[hs.1,hs.2.1];rfl) Mw,Pj⟩
       rw[AI qb];· exact d.hH j IU hs.2.1
       ·intro k hk uJ _ heq
        have:=st.nG j IU k hk (by omega)
        subst this
        simp[hs.2.2] at uJ
     exact .inl (AI IT fun k hk hs hf heq=>he ⟨k,hk,hs,hf,heq⟩))
    refine ih _ r (some i) V' fA (fun j=>M j||b j i) h' aV a' w' (d.advance st ho cE hp (.inr rfl) (.inr rfl) (fun j hj=>by simpa using hj) (fun j hj=>(yK j (Mv j hj) (known j hj).1 (known j hj).2).1) Ph (by rw[BE,d.ds]) hj.1 (d.fr.trans hj.2) ?_ (by have:=d.hn;omega) ?_) dc uI
    ·intro j hj hl kx
     rw[E7.jg _ (by rw[rD];exact qb j hj)]
     exact d.un j hj hl
    intro j hj hm
    simp only[Bool.or_eq_false_iff] at hm
    refine E7.born _ (by rw[rD];exact qb j hj) ?_
    rw[AI qb];· exact d.hH j hj hm.1
    ·intro k hk uJ _ heq
     have:=st.nG j hj k hk (by omega)
     subst this
     simp[hm.2] at uJ
   simp only[hw,if_false,Bool.false_eq_true]
   rw[fy.wanted,Bool.not_eq_true] at hw
   obtain⟨V',fA,yK,hv,dc⟩:=gq hw
   refine⟨E3 F hF,?_⟩
   have e:bY base sl FO (fun k=>Lf listed k&&!M k) As H=bY base sl fA (fun j=>(Lf listed j||Nat.beq j i)&&!M j) As H:=Dx fun k hk=>by
    have qc:k≠i:=by rintro rfl;exact BT hk
    simp only[rF qc,Bool.or_false]
    cases hl:Lf listed k with
    |false=>rfl
    |true=>rw[(yK k (Mv k hl) (known k hl).1 (known k hl).2).2]
   refine ih _ r (some i) V' fA M H U _ w (d.advance st ho cE hp (.inr rfl) (.inr rfl) (fun j hj=>.inl hj) (fun j hj=>(yK j (Mv j hj) (known j hj).1 (known j hj).2).1) ?_ (by rw[put_defers];exact d.ds) (e▸d.hr) (e▸d.fr) (fun j hj hl _=>d.un j hj hl) d.hn d.hH) dc uI
   rw[hv];exact E2 d.ht .undef o.dst
  · -- no writer
   have mU:∀w∈bF,b w i=false:=fun w1 lr=>by
    cases hb:b w1 i with
    |false=>rfl
    |true=>have:=hp w1 hb;rw[sY w1 lr] at this;cases this
   have im:∀l,last=some l→b i l=false:=fun l hl=>by
    cases hb:b i l with
    |false=>rfl
    |true=>rw[d.closed i l hb (d.UK l hl)] at cE;cases cE
   have E8:=hD.pc i o ho yJ mU im
   have same:FO i=none→bY base sl FO (fun k=>Lf listed k&&!M k) As H=bY base sl FO (fun j=>(Lf listed j||Nat.beq j i)&&!M j) As H:=fun hf=>Dx fun k hk=>by
    by_cases qc:k=i
    ·subst qc
     rw[hf]
     cases (Lf listed k&&!M k)<;>cases ((Lf listed k||Nat.beq k k)&&!M k)<;>rfl
    simp only[rF qc,Bool.or_false]
   have Pk:M i=false:=by
    cases hm:M i with
    |false=>rfl
    |true=>rw[d.E6 i hm] at cE;cases cE
   rcases E8 with⟨hw,hk⟩|⟨hw,hv,hf⟩
   ·rw[← fy.wanted] at hw
    simp only[hw,if_true]
    rcases hk with⟨hR,_,hf,h1,ha⟩|⟨x,BT,hf,ha⟩
    ·obtain⟨_,du⟩:=Dt hR ha
     have o7:cV P lo (gr ops V (Lf listed) cF ops.size) (bY base sl FO (fun k=>Lf listed k&&!M k) As H) o.op=some (V i,bY base sl FO (fun k=>Lf listed k&&!M k) As H):=by
      rw[E4 fy.eval]
      refine du _ fun o' x hx=>?_
      rcases UI qb st.nG hx with⟨k,hk,hs,rfl,hf⟩|⟨hx,_⟩
      ·simp only[bW] at hs
       exact Du qb st.nG hk (by simp only[hp k hs.1,hs.2,Bool.and_self]) hf
      rw[AI qb];· exact hx
      ·rintro k hk hs _ rfl
       simp only[bW,Bool.not_eq_true'] at hs
       rw[d.hH k hk hs.2] at hx;cases hx
     have cS:=sV.op (o:=o) (next:=fun bo h'=>bo=bN (gr ops V (Lf listed) cF ops.size) o.dst (V i)∧h'=bY base sl FO (fun k=>Lf listed k&&!M k) As H) o7 ⟨rfl,rfl⟩
     refine Oper.wpIn_mono (fun a' w' hl=>?_) (cS F hF n U a w _ d.ht d.hr)
     obtain⟨bo,h',aV,Ph,ru,E7,BE,rfl,rfl⟩:=hl
     refine ih _ bF last V FO M H aV a' w' (d.advance st ho cE hp (.inl ⟨rfl,yJ⟩) (.inl rfl) (fun j hj=>.inl hj) (fun _ _=>rfl) Ph (by rw[BE,d.ds]) (same hf▸ru) (same hf▸d.fr.trans E7) (fun j hj hl _=>?_) d.hn d.hH) hD uI
     rw[E7.jg _ (by rw[rD];exact qb j hj)]
     exact d.un j hj hl
    have OR:lq P (gr ops V (Lf listed) cF ops.size) (base+sl i) o.op=some (V i,x):=by rw[UH fy.eval];exact ha
    obtain⟨s,mT,ob,v',C,gq,uz,wj⟩:=xbi (w:=w) d.ht OR
    have O6:∀c,o.op≠.defer c:=fun c hc=>by rw[hc] at ha;simp[lq] at ha
    have pa:base+sl i<(bY base sl FO (fun k=>Lf listed k&&!M k) As H).next:=by rw[rD];exact qb i BT
    have IV:(bY base sl FO (fun k=>Lf listed k&&!M k) As H).get (base+sl i)=none:=by
     rw[AI qb];· exact d.hH i BT Pk
     ·intro k hk uJ _ heq
      have:=st.nG i BT k hk (by omega)
      subst this
      simp[cE] at uJ
    have Mr:=d.un i BT cE
    have hle:U.le (U.put (base+sl i) (w.heap.size,0,C)):=by
     intro o y hy
     have:o≠base+sl i:=by intro ho;subst ho;rw[Mr] at hy;cases hy
     rw[Mu.lX _ this];exact hy
    obtain⟨hrv,sg⟩:=wj _ hle (Mu.cX _ _ _)
    obtain⟨_,g1,g2⟩:=zr0 d.hr pa (by have:=d.cY;omega) IV Mr ob C x sg uz
    refine⟨E3 F hF,?_⟩
    rw[Oper.semAt_eq _ _ _ O6,mT]
    have gB:(do pure (Next.value (← s)):Sem Next).run P w=.ok (Next.value v') (w.alloc ob):=by rw[Sem.run_bind,gq];rfl
    rw[gB]
    simp only[Oper.uponIn]
    have gN:∀o',(bY base sl FO (fun j=>(Lf listed j||Nat.beq j i)&&!M j) As H).get o'=((bY base sl FO (fun k=>Lf listed k&&!M k) As H).put (base+sl i) (some x)).get o':=by
     intro o'
     rw[ai.eT _ _ _ _ pa]
     by_cases o6:o'=base+sl i
     ·subst o6
      rw[if_pos rfl]
      exact Du qb st.nG BT (by simp[Pk]) hf
     rw[if_neg o6]
     by_cases he:∃k∈As,(Lf listed k&&!M k)=true∧FO k≠none∧o'=base+sl k
     ·obtain⟨k,hk,uJ,IW,rfl⟩:=he
      cases Pl:FO k with
      |none=>exact absurd Pl IW
      |some y=>
       rw[Du (S:=fun k=>Lf listed k&&!M k) qb st.nG hk uJ Pl]
       refine Du qb st.nG hk ?_ Pl
       simp only[bW] at uJ ⊢
       simp[uJ.1,uJ.2]
     rw[AI qb,AI qb]
     ·intro k hk uJ IW heq;exact he ⟨k,hk,uJ,IW,heq⟩
     intro k hk uJ IW heq
     have qc:k≠i:=by rintro rfl;exact o6 heq
     simp only[rF qc,Bool.or_false] at uJ
     exact he ⟨k,hk,uJ,IW,heq⟩
    have gQ:((bY base sl FO (fun k=>Lf listed k&&!M k) As H).put (base+sl i) (some x)).next=(bY base sl FO (fun j=>(Lf listed j||Nat.beq j i)&&!M j) As H).next:=by rw[ai.LY,rD,rD]
    refine ih _ bF last V FO M H _ _ _ (d.advance st ho cE hp (.inl ⟨rfl,yJ⟩) (.inl rfl) (fun j hj=>.inl hj) (fun _ _=>rfl) (E2 (d.ht.mono hle) hrv o.dst) (by rw[put_defers];exact d.ds)
     (g1.ext gN gQ) ((g2 lO h0 w0 d.fr (by have:=d.hb;omega)).ext gN gQ) (fun j hj hl kx=>?_) d.hn d.hH) hD uI
    rw[Mu.lX _ (fun h=>kx (st.nG j hj i BT (by omega)))]
    exact d.un j hj hl
   rw[← fy.wanted] at hw
   simp only[hw,if_false,Bool.false_eq_true]
   refine⟨E3 F hF,?_⟩
   refine ih _ bF last V FO M H U _ w (d.advance st ho cE hp (.inl ⟨rfl,yJ⟩) (.inl rfl) (fun j hj=>.inl hj) (fun _ _=>rfl) ?_ (by rw[put_defers];exact d.ds) (same hf▸d.hr) (same hf▸d.fr) (fun j hj hl _=>d.un j hj hl) d.hn d.hH) hD uI
   rw[hv];exact E2 d.ht .undef o.dst
theorem AW.drawn {id:Nat}{ts:aL}{h:ai}(hm:P.follows .mixedOrders=true)(st:BQ ops b W As sl nA){V:Nat→Value}{FO:Nat→Option bn}
  (hD:DR P lo ops b W As sl h.next ts Q W none V FO (fun _=>false) (ai.qY nA h)):AW P lo (.region id ops true) Q ts h:=by
 intro F hF n U a w ht r _
 refine wpIn_mono (wpIn_region_any hm ?_) fun _ _ _ hl=>ix.Hf hl
 have hL:Lf (Array.replicate ops.size false)=fun _=>false:=by
  funext j
  unfold Lf
  by_cases hj:j<ops.size<;>simp[hj]
 have fx:(fun (i:Nat)=>(false&&!false:Bool))=fun _=>false:=rfl
 have e0:∀(as:List Nat) (H:ai),bY h.next sl FO (fun _=>false) as H=H:=by
  intro as H
  induction as with
  |nil=>rfl
  |cons k r ih=>simp only[bY,bx];exact ih
 have hu:vC (Array.replicate ops.size false) ops.size=ops.size:=by
  have:∀m,m≤ops.size→vC (Array.replicate ops.size false) m=m:=by
   intro m hm
   induction m with
   |zero=>rfl
   |succ m ih=>
    simp only[vC]
    rw[ih (by omega)]
    have:(Array.replicate ops.size false).getD m true=false:=by
     have:m<ops.size:=by omega
     simp[this]
    rw[this];simp only[bx];omega
  exact this _ (Nat.le_refl _)
 have ph:∀n,gr ops V (fun _=>false) ts n=ts:=by
  intro n
  induction n with
  |zero=>rfl
  |succ n ih=>simp only[gr,bx];exact ih
 have Pm:=(r.drew).qY nA
 have tS:=(Frame.drew lo U h w).trans (Frame.qY nA)
 refine xmf (base:=h.next) (cF:=ts) (Q:=Q) st hF ops.size _ W none V FO (fun _=>false) (ai.qY nA h) U a w.drew
  ⟨by simp,fun i j hb hl=>?_,⟨[],rfl,fun _ hw=>(by cases hw),fun w _=>by rw[hL]⟩,fun l hl=>(by cases hl),fun i hi=>(by cases hi),?_,?_,?_,fun i hi _=>?_,rfl,?_,fun i hi _=>?_,?_,Nat.le_refl _⟩ hD hu
 ·rw[hL] at hl;cases hl
 ·rw[hL,ph];exact ht
 ·rw[hL];simp only[Bool.false_and];rw[e0];exact Pm
 ·rw[hL];simp only[Bool.false_and];rw[e0];exact tS
 ·exact r.T4 (by omega)
 ·rw[ai.E5];exact Nat.le_refl _
 ·rw[ai.yF]
  cases hg:h.get (h.next+sl i) with
  |none=>rfl
  |some x=>have:=ai.iE hg;omega
 have:=r.bX;exact this
end
def bm (ms:List Nat)(i j:Nat):Bool:=(ms.getD j 0).testBit i
def E9 (ms:List Nat):List Edge→Nat
 |[]=>0
 |e::es=>bif Region.binds .any e then (1 <<< e.on) ||| ms.getD e.on 0 ||| E9 ms es else E9 ms es
theorem Pn {ms:List Nat}{i:Nat}:∀ {es:List Edge},(E9 ms es).testBit i=true→∃e∈es,Region.binds .any e=true∧(e.on=i∨(ms.getD e.on 0).testBit i=true)
 |[],h=>by simp[E9] at h
 |e::es,h=>by
  simp only[E9] at h
  cases hb:Region.binds .any e with
  |false=>
   rw[hb] at h
   obtain⟨e',h1,h2⟩:=Pn (es:=es) h
   exact⟨e',List.mem_cons_of_mem _ h1,h2⟩
  |true=>
   rw[hb] at h
   simp only[aQ,Nat.testBit_or,Bool.or_eq_true] at h
   rcases h with (h|h)|h
   ·refine⟨e,by simp,hb,.inl ?_⟩
    rw[Nat.one_shiftLeft,Nat.testBit_two_pow] at h
    exact of_decide_eq_true h
   ·exact⟨e,by simp,hb,.inr h⟩
   obtain⟨e',h1,h2⟩:=Pn (es:=es) h
   exact⟨e',List.mem_cons_of_mem _ h1,h2⟩
def Mx (ms:List Nat):List Nat→Bool
 |[]=>true
 |w::r=>r.all (bm ms w)&&Mx ms r
def IX (ops:Array Oper)(ms W As:List Nat):Bool:=
 Nat.beq ms.length ops.size&&Mx ms W&&W.all (Nat.blt · ops.size)&&As.all (fun i=>Nat.blt i ops.size&&!W.contains i)&&
 (List.range ops.size).all fun j=>match ops[j]? with
  |none=>false
  | some o => Nat.blt (ms.getD j 0) (2 ^ j) && o.after.toList.all (fun e => !Region.binds .any e || Nat.blt e.on j) && Nat.beq (ms.getD j 0) (E9 ms o.after.toList) &&
   (List.range j).all fun i=>bm ms i j||match ops[i]? with
    |none=>true
    |some oi=>oi.apart ops o
theorem UO {ms:List Nat}:∀ {W:List Nat},Mx ms W=true→W.Pairwise (fun w w'=>bm ms w w'=true)
 |[],_=>.nil
 |w::r,h=>by
  simp only[Mx,bW,List.all_eq_true] at h
  exact .cons h.1 (UO h.2)
def pj (As:List Nat)(n:Nat):Nat:=match As with|[]=>0|_=>n
theorem zzi {ops:Array Oper}{ms W As:List Nat}(h:IX ops ms W As=true):BQ ops (bm ms) W As id (pj As ops.size):=by
 simp only[IX,bW,List.all_eq_true,Nat.blt_eq,List.mem_range] at h
 obtain⟨⟨⟨⟨h1,h2⟩,h3⟩,h4⟩,h5⟩:=h
 have h1:=v7 h1
 have at_:∀j o,ops[j]?=some o→ms.getD j 0<2 ^ j∧(∀e∈o.after.toList,(!Region.binds .any e||Nat.blt e.on j)=true)∧ms.getD j 0=E9 ms o.after.toList∧
   ∀i,i<j→(bm ms i j||match ops[i]? with|none=>true|some oi=>oi.apart ops o)=true:=by
  intro j o ho
  have:=h5 j (Array.getElem?_eq_some_iff.1 ho).1
  rw[ho] at this
  simp only[bW,List.all_eq_true,Nat.blt_eq,List.mem_range] at this
  exact⟨this.1.1.1,this.1.1.2,v7 this.1.2,this.2⟩
 refine⟨fun i j hb=>?_,fun j o ho e he hb=>?_,fun i j o ho hb=>?_,UO h2,h3,fun i hi=>(h4 i hi).1,fun i hi hw=>?_,fun i hi=>(by cases As with|nil=>cases hi|cons _ _=>exact(h4 i hi).1),fun _ _ _ _ h=>h,fun i j oi oj hoi Dy gP=>?_⟩
 ·rcases Nat.lt_or_ge j ops.size with hj|hj
  ·have a8:=(at_ j ops[j] (by simp[hj])).1
   rcases Nat.lt_or_ge i j with h|h
   ·exact h
   unfold bm at hb
   rw[Nat.testBit_lt_two_pow (Nat.lt_of_lt_of_le a8 (Nat.pow_le_pow_right (by omega) h))] at hb
   cases hb
  unfold bm at hb
  rw[List.getD_eq_getElem?_getD,List.getElem?_eq_none (by omega)] at hb
  simp at hb
 ·have:=(at_ j o ho).2.1 e (by simpa using he)
  simp only[hb,Bool.not_true,Bool.false_or,Nat.blt_eq] at this
  exact this
 ·have:=(at_ j o ho).2.2.1
  unfold bm at hb
  rw[this] at hb
  obtain⟨e,he,h6,h7⟩:=Pn hb
  exact⟨e,by simpa using he,h6,h7⟩
 ·have:=(h4 i hi).2
  simp[List.contains_iff_mem,hw] at this
 have:=(at_ j oj Dy).2.2.2 i gP
 rw[hoi] at this
 simp only[Bool.or_eq_true] at this
 exact this.symm
def IY:Op→Bool
 |.move _|.assign _|.pick .. | .build .. | .nilCheck _|.binOp .. | .unOp .. | .convert .. | .makeFunc .. | .slice .. | .fieldAddr .. | .field .. | .indexAddr .. | .index .. | .extract ..=>true
 |.call ⟨.builtin .cap,_,_⟩|.call ⟨.builtin .max,_,_⟩|.call ⟨.builtin .min,_,_⟩=>true
 |_=>false
theorem z6b {P:Program}{lo:Nat}{ts:aL}{h h2 h1:ai}{op:Op}{v:Value}(hp:IY op=true)(ha:cV P lo ts h op=some (v,h1)):cV P lo ts h2 op=some (v,h2):=by
 have dt:∀ {o:Option Value},o.map (·,h)=some (v,h1)→o.map (·,h2)=some (v,h2):=fun {o} hm=>by
  obtain⟨u,h3,h4⟩:=er hm
  simp only[bO] at h4
  obtain⟨rfl,rfl⟩:=h4
  rw[h3];rfl
 cases op<;>simp only[IY,Bool.false_eq_true] at hp<;>simp only[cV] at ha ⊢
 case move x=>exact dt ha
 case assign x=>exact dt ha
 case pick c a b=>
  split at ha
  ·exact dt ha
  ·exact dt ha
  simp at ha
 case build t ps=>
  split at ha
  ·exact dt ha
  simp at ha
 case nilCheck x=>
  split at ha
  ·exact dt ha
  simp at ha
 case binOp o t x y u=>
  split at ha
  ·exact dt ha
  simp at ha
 case unOp o t x=>
  split at ha
  ·exact dt ha
  simp at ha
 case convert s d x=>
  split at ha
  ·exact dt ha
  simp at ha
 case makeFunc fn a b=>
  cases fn<;>simp only at ha ⊢ <;> try (simp at ha)
  split at ha
  ·simp only[aB,bO] at ha;obtain⟨rfl,rfl⟩:=ha
   rfl
  simp at ha
 case slice t x l u m=>
  split at ha
  ·exact dt ha
  simp at ha
 case fieldAddr s x f=>
  split at ha
  ·exact dt ha
  simp at ha
 case field s x f=>
  split at ha
  ·exact dt ha
  simp at ha
 case indexAddr t x y=>
  split at ha
  ·exact dt ha
  simp at ha
 case index t x y=>
  split at ha
  ·exact dt ha
  simp at ha
 case extract x i=>
  split at ha
  ·exact dt ha
  simp at ha
 case call c=>
  obtain⟨callee,args,aT⟩:=c
  cases callee with
  |builtin b=>
   simp only[cV] at ha ⊢
   split at ha
   ·rename_i l hl
    cases b<;>simp only[Bool.false_eq_true] at hp
    ·rcases aT with⟨aT⟩
     rcases aT with _|⟨t,_|⟨u,r⟩⟩<;>rcases l with _|⟨x,_|⟨y,s⟩⟩<;>simp only[sf] at ha ⊢ <;> try (simp at ha;done)
     exact dt ha
    ·rcases l with _|⟨x,s⟩<;>simp only[sf] at ha ⊢ <;> try (simp at ha;done)
     exact dt ha
    rcases l with _|⟨x,s⟩<;>simp only[sf] at ha ⊢ <;> try (simp at ha;done)
    exact dt ha
   simp at ha
  |value f=>simp at hp
  |invoke r m=>simp at hp
inductive jo where
  |op (m:Nat)
  |ck (m:Nat)
def j6 (base:Nat)(mask:Nat→Bool):List (Nat×bn)→ai→ai
 |[],h=>h
 |(i,x)::r,h=>bif mask i then (j6 base mask r h).put (base+i) (some x) else j6 base mask r h
def xkv (P:Program)(lo:Nat)(ops:Array Oper)(o:Oper)(ts:aL)(h:ai)(next:aL→ai→Prop):Prop:=
 ∀mC,AJ ops o mC ts→sV P lo o mC h (fun bo h'=>∃v,bo=bN mC o.dst v∧next (bN ts o.dst v) h')
def AL (P:Program)(lo:Nat)(ops:Array Oper)(base:Nat)(ms W As:List Nat)(K:aL→ai→Prop):List jo→aL→List (Nat×bn)→ai→Prop
 |[],ts,fl,h=>K ts (j6 base (fun _=>true) fl h)
 | .op m :: r, ts, fl, h => ∃ o, ops[m]? = some o ∧
  bif Region.wanted o (qa ops ts) then
   bif W.contains m then xkv P lo ops o ts (j6 base (fun i=>bm ms i m) fl h) (fun bo h'=>AL P lo ops base ms W As K r bo (fl.filter fun p=>!bm ms p.1 m) h')
   else bif As.contains m then ∃v x,lq P ts (base+m) o.op=some (v,x)∧AL P lo ops base ms W As K r (bN ts o.dst v) ((m,x)::fl) h
   else ∃v h1,cV P lo ts (j6 base (fun i=>bm ms i m) fl h) o.op=some (v,h1)∧AL P lo ops base ms W As K r (bN ts o.dst v) fl h
  else AL P lo ops base ms W As K r (bN ts o.dst Go.undef) fl h
 | .ck m :: r, ts, fl, h => ∃ o d, ops[m]? = some o ∧ o.dst = some d ∧
  (Region.wanted o (qa ops ts)=true→∃v h1,ts[d]?=some v∧cV P lo ts (j6 base (fun i=>bm ms i m) fl h) o.op=some (v,h1))∧AL P lo ops base ms W As K r ts fl h
def IZ (ops:Array Oper)(ms:List Nat)(m:Nat)(o:Oper):Bool:=
 (List.range ops.size).all fun j=>match (ops[j]?).bind (·.dst) with
  |none=>true
  |some d=>bif Nat.beq j m then !(o.looksAt ops).contains d else bm ms j m||!((o.looksAt ops).contains d||o.dst==some d)
def AM (ops:Array Oper)(ms W As:List Nat):List Nat→List Nat→List Nat→List jo→Bool
 |d,bF,todo,[]=>bF.isEmpty&&todo.isEmpty&&(List.range ops.size).all (d.contains ·)
 |d,bF,todo,.op m::r=>match ops[m]? with
  |none=>false
  | some o => !d.contains m && (List.range m).all (fun j => !bm ms j m || d.contains j) &&
   bif W.contains m then
    todo.isEmpty&&(match bF with
     |[]=>false
     | w :: Wr => Nat.beq w m && (List.range ops.size).all (fun k => d.contains k || W.contains k || bF.any (fun w => bm ms w k)) &&
      AM ops ms W As (m::d) Wr (d.filter fun k=>!W.contains k&&!As.contains k&&!bm ms k m&&match ops[k]? with|none=>true|some ok=>!IY ok.op) r)
   else (bif As.contains m then As.all (fun k=>Nat.ble k m||!d.contains k) else xH o.op)&&AM ops ms W As (m::d) bF todo r
 |d,bF,todo,.ck m::r=>match ops[m]? with
  |none=>false
  |some o=>todo.contains m&&IZ ops ms m o&&AM ops ms W As d bF (todo.filter fun k=>!Nat.beq k m) r
def DA:List Nat→Bool
 |[]=>true
 |a::r=>r.all (Nat.blt · a)&&DA r
def fm (d M:Nat→Bool)(FO:Nat→Option bn):List Nat→List (Nat×bn)
 |[]=>[]
 |a::r=>match (bif d a&&!M a then FO a else none) with
  |some x=>(a,x)::fm d M FO r
  |none=>fm d M FO r
theorem I0 {d d' M M':Nat→Bool}{FO fA:Nat→Option bn}:∀ {As:List Nat},(∀i∈As,(bif d i&&!M i then FO i else none)=(bif d' i&&!M' i then fA i else none))→fm d M FO As=fm d' M' fA As
 |[],_=>rfl
 |a::r,h=>by
  have ih:=I0 (As:=r) (fun i hi=>h i (List.mem_cons_of_mem _ hi))
  simp only[fm]
  rw[h a (by simp),ih]
def np {α:Type}(f:Nat→α)(m:Nat)(v:α):Nat→α:=fun i=>if i=m then v else f i
theorem DB {α:Type}(f:Nat→α)(m:Nat)(v:α):np f m v m=v:=by simp[np]
theorem Hi {α:Type}{f:Nat→α}{m:Nat}{v:α}{i:Nat}(h:i≠m):np f m v i=f i:=by simp[np,h]
theorem zy5 {a:Nat}{r:List Nat}(h:DA (a::r)=true):(∀k∈r,k<a)∧DA r=true:=by
 simp only[DA,bW,List.all_eq_true,Nat.blt_eq] at h
 exact h
theorem My {d M:Nat→Bool}{FO:Nat→Option bn}{a:Nat}{r:List Nat}(h:d a=false):fm d M FO (a::r)=fm d M FO r:=by
 simp only[fm,h,Bool.false_and,bx]
theorem UP {d M:Nat→Bool}{FO:Nat→Option bn}{m:Nat}{x:bn}:∀ {As:List Nat},DA As=true→m∈As→(∀k∈As,k≤m∨d k=false)→d m=false→M m=false→
  fm (fun i=>Nat.beq i m||d i) M (np FO m (some x)) As=(m,x)::fm d M FO As
 |[],_,h,_,_,_=>by cases h
 |a::r,ox,hm,hk,hd,hM=>by
  obtain⟨h1,h2⟩:=zy5 ox
  by_cases ha:a=m
  ·subst ha
   have e1:fm (fun i=>Nat.beq i a||d i) M (np FO a (some x)) (a::r)=(a,x)::fm (fun i=>Nat.beq i a||d i) M (np FO a (some x)) r:=by
    simp only[fm,Nat.beq_refl,Bool.true_or,hM,Bool.not_false,Bool.and_self,aQ,DB]
   rw[e1,My hd]
   congr 1
   refine I0 fun i hi=>?_
   have:i≠a:=by have:=h1 i hi;omega
   rw[rF this,Hi this];rfl
  have fN:m∈r:=(List.mem_cons.1 hm).resolve_left (Ne.symm ha)
  have UQ:d a=false:=by
   rcases hk a (by simp) with h|h
   ·have:=h1 m fN;omega
   exact h
  rw[My (by rw[rF ha,UQ];rfl),My UQ]
  exact UP h2 fN (fun k my=>hk k (List.mem_cons_of_mem _ my)) hd hM
theorem Mz {base:Nat}{mask d M:Nat→Bool}{FO:Nat→Option bn}{h:ai}:∀ {As:List Nat},j6 base mask (fm d M FO As) h=bY base id FO (fun i=>mask i&&(d i&&!M i)) As h
 |[]=>rfl
 |a::r=>by
  have ih:=Mz (base:=base) (mask:=mask) (d:=d) (M:=M) (FO:=FO) (h:=h) (As:=r)
  simp only[bY,fm]
  cases hd:(d a&&!M a) with
  |false=>simp only[bx,Bool.and_false];exact ih
  |true=>
   simp only[aQ,Bool.and_true]
   cases hf:FO a with
   |none=>cases mask a<;>exact ih
   |some x=>simp only[j6,id];rw[ih]
theorem UR {c d M:Nat→Bool}{FO:Nat→Option bn}:∀ {As:List Nat},(fm d M FO As).filter (fun p=>!c p.1)=fm d (fun i=>M i||c i) FO As
 |[]=>rfl
 |a::r=>by
  have ih:=UR (c:=c) (d:=d) (M:=M) (FO:=FO) (As:=r)
  simp only[fm]
  have key:(bif d a&&!(M a||c a) then FO a else none)=bif c a then none else (bif d a&&!M a then FO a else none):=by
   cases d a<;>cases M a<;>cases c a<;>rfl
  rw[key]
  generalize (bif d a&&!M a then FO a else none)=z
  cases hc:c a with
  |true=>
   cases z with
   |none=>exact ih
   |some x=>
    have:List.filter (fun p:Nat×bn=>!c p.1) ((a,x)::fm d M FO r)=List.filter (fun p=>!c p.1) (fm d M FO r):=by
     rw[List.filter_cons];simp only[hc,Bool.not_true,Bool.false_eq_true,if_false]
    exact this.trans ih
  |false=>
   cases z with
   |none=>exact ih
   |some x=>
    have:List.filter (fun p:Nat×bn=>!c p.1) ((a,x)::fm d M FO r)=(a,x)::List.filter (fun p=>!c p.1) (fm d M FO r):=by
     rw[List.filter_cons];simp only[hc,Bool.not_false,if_true]
    exact this.trans (by rw[ih];rfl)
section
variable {P:Program} {lo:Nat} {ops:Array Oper} {ms W As:List Nat} {base:Nat} {cF:aL} {Q:ow}
theorem tU.congr {V V':Nat→Value}{FO fA:Nat→Option bn}{M:Nat→Bool}{H:ai}{m:Nat}{o:Oper}
  (hV:∀j,bm ms j m=true→V' j=V j) (hm:V' m=V m) (hF:∀j,bm ms j m=true→fA j=FO j) (hFm:fA m=FO m) (h:tU P lo ops (bm ms) As id base cF V FO M H m o) :
  tU P lo ops (bm ms) As id base cF V' fA M H m o:=by
 have e1:gr ops V' (fun j=>bm ms j m) cF ops.size=gr ops V (fun j=>bm ms j m) cF ops.size:=BP (fun _ _=>rfl) (fun j _ hj=>hV j hj)
 have e2:bY base id fA (fun i=>bm ms i m&&!M i) As H=bY base id FO (fun i=>bm ms i m&&!M i) As H:=Dx fun k _=>by
  cases hb:bm ms k m with
  |false=>rfl
  |true=>rw[hF k hb]
 unfold tU at h ⊢
 simp only[e1,e2,hm,hFm]
 exact h
theorem tU.pure {V:Nat→Value}{FO:Nat→Option bn}{M M':Nat→Bool}{H H':ai}{m:Nat}{o:Oper}(hp:IY o.op=true∨m∈As)(h:tU P lo ops (bm ms) As id base cF V FO M H m o) :
  tU P lo ops (bm ms) As id base cF V FO M' H' m o:=by
 unfold tU at h ⊢
 rcases h with⟨hw,⟨h1,h0,h2,h3,ha⟩|hA⟩|h
 ·rcases hp with hp|hp
  ·exact .inl ⟨hw,.inl ⟨h1,h0,h2,_,z6b hp ha⟩⟩
  exact absurd hp h0
 ·exact .inl ⟨hw,.inr hA⟩
 exact .inr h
structure SI (P:Program) (lo:Nat) (ops:Array Oper) (ms W As:List Nat) (base:Nat) (cF:aL) (d bF todo:List Nat) (last:Option Nat) (V:Nat→Value) (FO:Nat→Option bn) (M:Nat→Bool) (H:ai) (ts:aL) (fl:List (Nat×bn)):Prop where
  ph:ts=gr ops V (fun i=>d.contains i) cF ops.size
  mV:fl=fm (fun i=>d.contains i) M FO As
  closed:∀i j,bm ms i j=true→d.contains j=true→d.contains i=true
  wr:∀w∈W,(d.contains w=true↔w∉bF)
  Fa:∀w∈bF,w∈W
  MA:bF.Pairwise (fun w w'=>bm ms w w'=true)
  fo:∀i,d.contains i=false→FO i=none
  E6:∀i,M i=true→d.contains i=true
  jg:∀m o,ops[m]?=some o→d.contains m=true→m∉W→∃M0 H0,tU P lo ops (bm ms) As id base cF V FO M0 H0 m o
  now:∀m o,ops[m]?=some o→d.contains m=true→m∉W→m∉todo→(∀l,last=some l→bm ms m l=false)→tU P lo ops (bm ms) As id base cF V FO M H m o
theorem contains_cons (m:Nat)(d:List Nat)(i:Nat):(m::d).contains i=(Nat.beq i m||d.contains i):=by
 rw[List.contains_cons]
 have:(i==m)=Nat.beq i m:=by
  rw[Bool.eq_iff_iff,beq_iff_eq]
  exact⟨fun h=>by rw[h];exact Nat.beq_refl m,v7⟩
 rw[this]
theorem MB {d:List Nat}{i:Nat}:d.contains i=false↔i∉d:=by
 rw[← Bool.not_eq_true,List.contains_iff_mem]
theorem SI.rd (st:BQ ops (bm ms) W As id (pj As ops.size)){d bF todo:List Nat}{last:Option Nat}{V:Nat→Value}{FO fA:Nat→Option bn}{M:Nat→Bool}{H:ai}{ts:aL}{fl DC:List (Nat×bn)}{m:Nat}{o:Oper}{v:Value}
  (s:SI P lo ops ms W As base cF d bF todo last V FO M H ts fl) (ho:ops[m]?=some o) (hd:d.contains m=false) (hp:∀j,bm ms j m=true→d.contains j=true) (hW:m∉W)
  (Mw:∀j,j≠m→fA j=FO j) (mV:DC=fm (fun i=>(m::d).contains i) M fA As) (h:tU P lo ops (bm ms) As id base cF (np V m v) fA M H m o) :
  SI P lo ops ms W As base cF (m::d) bF todo last (np V m v) fA M H (bN ts o.dst v) DC:=by
 have db:∀j,d.contains j=true→j≠m:=fun j hj h=>by subst h;rw[hd] at hj;cases hj
 have DD:∀j,d.contains j=true→np V m v j=V j:=fun j hj=>Hi (db j hj)
 have US:∀j,d.contains j=true→fA j=FO j:=fun j hj=>Mw j (db j hj)
 have pn:∀M0 H0 k ok,d.contains k=true→tU P lo ops (bm ms) As id base cF V FO M0 H0 k ok→tU P lo ops (bm ms) As id base cF (np V m v) fA M0 H0 k ok:=fun M0 H0 k ok hk E8=>
  E8.congr (fun j hj=>DD j (s.closed j k hj hk)) (DD k hk) (fun j hj=>US j (s.closed j k hj hk)) (US k hk)
 have fx:∀i j,bm ms i j=true→(m::d).contains j=true→(m::d).contains i=true:=fun i j hb hj=>by
  rw[contains_cons,Bool.or_eq_true] at hj ⊢
  rcases hj with hj|hj
  ·rw[v7 hj] at hb;exact .inr (hp i hb)
  exact .inr (s.closed i j hb hj)
 refine⟨?_,mV,fx,fun w hw=>?_,s.Fa,s.MA,fun i hi=>?_,fun i hi=>?_,fun k ok iZ hk qZ=>?_,fun k ok iZ hk qZ ht hl=>?_⟩
 ·have e:(fun i=>(m::d).contains i)=fun i=>d.contains i||Nat.beq i m:=by funext i;rw[contains_cons,Bool.or_comm]
  rw[e,Pg st ho hd s.closed,DB]
  rw[BP (V':=V) (S':=fun i=>d.contains i) (fun _ _=>rfl) (fun j _ hj=>DD j hj),← s.ph]
 ·have:w≠m:=by rintro rfl;exact hW hw
  rw[contains_cons,rF this,Bool.false_or];exact s.wr w hw
 ·rw[contains_cons,Bool.or_eq_false_iff] at hi
  have db:i≠m:=fun h=>by subst h;rw[Nat.beq_refl] at hi;exact absurd hi.1 (by simp)
  rw[Mw i db];exact s.fo i hi.2
 ·rw[contains_cons,s.E6 i hi,Bool.or_true]
 ·rw[contains_cons,Bool.or_eq_true] at hk
  by_cases tV:k=m
  ·subst tV;rw[ho] at iZ;injection iZ with iZ;subst iZ;exact⟨M,H,h⟩
  have hk:d.contains k=true:=hk.resolve_left (by rw[rF tV];simp)
  obtain⟨M0,H0,h0⟩:=s.jg k ok iZ hk qZ
  exact⟨M0,H0,pn M0 H0 k ok hk h0⟩
 rw[contains_cons,Bool.or_eq_true] at hk
 by_cases tV:k=m
 ·subst tV;rw[ho] at iZ;injection iZ with iZ;subst iZ;exact h
 have hk:d.contains k=true:=hk.resolve_left (by rw[rF tV];simp)
 exact pn M H k ok hk (s.now k ok iZ hk qZ ht hl)
theorem zy2 (st:BQ ops (bm ms) W As id (pj As ops.size)){V:Nat→Value}{L:Nat→Bool}{m:Nat}{o:Oper}{t:Nat}{v:Value}(ho:ops[m]?=some o)(hs:IZ ops ms m o=true)(hd:o.dst=some t)(hL:L m=true)
  (hv:(gr ops V L cF ops.size)[t]?=some v):v=V m:=by
 have a8:m<ops.size:=(Array.getElem?_eq_some_iff.1 ho).1
 have key:∀n,m<n→n≤ops.size→(gr ops V L cF n)[t]?=some v→v=V m:=by
  intro n
  induction n with
  |zero=>intro h;omega
  |succ n ih=>
   intro hmn hn hv
   simp only[gr] at hv
   by_cases Po:m=n
   ·subst Po
    rw[hL] at hv
    have:wy ops m=some t:=by simp[wy,ho,hd]
    rw[this] at hv
    simp only[aQ,bN,List.getElem?_set,if_true] at hv
    split at hv
    ·injection hv with hv;exact hv.symm
    cases hv
   refine ih (by omega) (by omega) ?_
   cases hl:L n with
   |false=>rw[hl] at hv;exact hv
   |true=>
    rw[hl] at hv
    simp only[aQ] at hv
    rw[IM] at hv
    ·exact hv
    intro Fb
    simp only[IZ,List.all_eq_true,List.mem_range] at hs
    have:=hs n (by omega)
    have Pp:(ops[n]?).bind (·.dst)=some t:=Fb
    rw[Pp] at this
    simp only[rF (show n≠m by omega),bx,hd,beq_self_eq_true,Bool.or_true,Bool.not_true,Bool.or_false] at this
    have:=st.lt _ _ this
    omega
 exact key ops.size a8 (Nat.le_refl _) hv
theorem zsd {V:Nat→Value}{L:Nat→Bool}{m:Nat}{o:Oper}(ho:ops[m]?=some o)(hs:IZ ops ms m o=true)(hL:L m=true)(hc:∀i j,bm ms i j=true→L j=true→L i=true) :
  AJ ops o (gr ops V L cF ops.size) (gr ops V (fun j=>bm ms j m) cF ops.size):=by
 intro t ht
 refine Pd fun j hj hd=>?_
 suffices h:L j=bm ms j m by exact⟨h,fun _=>rfl⟩
 simp only[IZ,List.all_eq_true,List.mem_range] at hs
 have:=hs j hj
 have xG:(ops[j]?).bind (·.dst)=some t:=hd
 rw[xG] at this
 have UT:(o.looksAt ops).contains t=true:=by rw[List.contains_iff_mem];exact ht
 by_cases MC:j=m
 ·subst MC
  simp only[Nat.beq_refl,aQ,UT,Bool.not_true] at this
  cases this
 simp only[rF MC,bx,UT,Bool.true_or,Bool.not_true,Bool.or_false] at this
 rw[this];exact hc j m this hL
theorem Hj (st:BQ ops (bm ms) W As id (pj As ops.size))(ox:DA As=true):∀(items:List jo) (d bF todo:List Nat) (last:Option Nat) (V:Nat→Value) (FO:Nat→Option bn) (M:Nat→Bool) (H:ai) (ts:aL) (fl:List (Nat×bn)),
  AM ops ms W As d bF todo items=true→SI P lo ops ms W As base cF d bF todo last V FO M H ts fl→AL P lo ops base ms W As (Q .normal) items ts fl H→
  ∃V' fA,(∀i,d.contains i=true→V' i=V i∧fA i=FO i)∧DR P lo ops (bm ms) W As id base cF Q bF last V' fA M H
 |[],d,bF,todo,last,V,FO,M,H,ts,fl,hc,s,hs=>by
  simp only[AM,bW,List.isEmpty_iff,List.all_eq_true,List.mem_range] at hc
  obtain⟨⟨rfl,rfl⟩,bk⟩:=hc
  refine⟨V,FO,fun _ _=>⟨rfl,rfl⟩,fun m o ho hW _ hl=>s.now m o ho (bk m (Array.getElem?_eq_some_iff.1 ho).1) hW (by simp) hl,?_⟩
  have e1:gr ops V (fun _=>true) cF ops.size=ts:=by rw[s.ph];exact BP (fun i hi=>(bk i hi).symm) (fun _ _ _=>rfl)
  have e2:bY base id FO (fun i=>!M i) As H=j6 base (fun _=>true) fl H:=by
   rw[s.mV,Mz]
   refine Dx fun k hk=>?_
   rw[bk k (st.alt k hk)];simp
  rw[e1,e2];exact hs
 |.op m::r,d,bF,todo,last,V,FO,M,H,ts,fl,hc,s,hs=>by
  obtain⟨o,ho,hs⟩:=hs
  simp only[AM,ho,bW,Bool.not_eq_true',List.all_eq_true,List.mem_range,Bool.or_eq_true] at hc
  obtain⟨⟨AN,wz⟩,hc⟩:=hc
  have hp:∀j,bm ms j m=true→d.contains j=true:=fun j hj=>by
   rcases wz j (st.lt j m hj) with h|h
   ·rw[hj] at h;cases h
   exact h
  have a8:m<ops.size:=(Array.getElem?_eq_some_iff.1 ho).1
  have fy:AJ ops o ts (gr ops V (fun j=>bm ms j m) cF ops.size):=by
   have:=UN (cF:=cF) (V:=V) (L:=fun i=>d.contains i) st ho AN hp s.closed
   rw[← s.ph] at this;exact this
  have heq:∀Fc:Nat→Option bn,(∀j,d.contains j=true→Fc j=FO j)→bY base id Fc (fun i=>bm ms i m&&!M i) As H=j6 base (fun i=>bm ms i m) fl H:=fun Fc h1=>by
   rw[s.mV,Mz]
   refine Dx fun k _=>?_
   cases hb:bm ms k m with
   |false=>rfl
   |true=>rw[hp k hb,h1 k (hp k hb)];simp
  have db:∀j,d.contains j=true→j≠m:=fun j hj h=>by subst h;rw[AN] at hj;cases hj
  have hMm:M m=false:=by
   cases hm:M m with
   |false=>rfl
   |true=>rw[s.E6 m hm] at AN;cases AN
  have yL:∀v,gr ops (np V m v) (fun j=>bm ms j m) cF ops.size=gr ops V (fun j=>bm ms j m) cF ops.size:=fun v=>BP (fun _ _=>rfl) (fun j _ hj=>Hi (db j (hp j hj)))
  have lift:∀(v:Value) (Fc:Nat→Option bn),(∀j,j≠m→Fc j=FO j)→(∃V' fA,(∀i,(m::d).contains i=true→V' i=np V m v i∧fA i=Fc i)∧DR P lo ops (bm ms) W As id base cF Q bF last V' fA M H)→
    ∃V' fA,(∀i,d.contains i=true→V' i=V i∧fA i=FO i)∧DR P lo ops (bm ms) W As id base cF Q bF last V' fA M H:=by
   rintro v Fc hF ⟨V',fA,h1,h2⟩
   refine⟨V',fA,fun i hi=>?_,h2⟩
   obtain⟨h3,h4⟩:=h1 i (by rw[contains_cons,hi,Bool.or_true])
   exact⟨by rw[h3,Hi (db i hi)],by rw[h4,hF i (db i hi)]⟩
  by_cases MD:W.contains m=true
  · -- a writer
   have sZ:m∈W:=by rwa [List.contains_iff_mem] at MD
   simp only[MD,aQ,bW,List.isEmpty_iff] at hc hs
   obtain⟨rfl,hc⟩:=hc
   cases bF with
   |nil=>cases hc
   |cons w Wr=>
    simp only[bW,List.all_eq_true,List.mem_range,Bool.or_eq_true,List.any_eq_true] at hc
    obtain⟨⟨hw,Fe⟩,hc⟩:=hc
    have hw:=v7 hw
    subst hw
    have I1:∀k,k<ops.size→k∉W→(∀w'∈w::Wr,bm ms w' k=false)→d.contains k=true:=fun k hk qZ qe=>by
     rcases Fe k hk with (h|h)|⟨w',vE,h⟩
     ·exact h
     ·rw[List.contains_iff_mem] at h;exact absurd h qZ
     rw[qe w' vE] at h;cases h
    have E8:PC P lo ops (bm ms) W As id base cF (w::Wr) last V FO M H:=fun k ok iZ qZ qe hl=>
     s.now k ok iZ (I1 k (Array.getElem?_eq_some_iff.1 iZ).1 qZ qe) qZ (by simp) hl
    have Ff:w∉Wr:=by
     intro dC
     have:=st.lt _ _ ((List.pairwise_cons.1 s.MA).1 w dC)
     omega
    have next:∀(v:Value) (h':ai) (M':Nat→Bool) (DC:List (Nat×bn)),(∀i,M' i=true→M i=true∨bm ms i w=true)→DC=fm (fun i=>(w::d).contains i) M' FO As→
      AL P lo ops base ms W As (Q .normal) r (bN ts o.dst v) DC h'→
      ∃V' fA,Ext ops (bm ms) (w::Wr) V V' FO fA∧V' w=v∧DR P lo ops (bm ms) W As id base cF Q Wr (some w) V' fA M' h':=by
     intro v h' M' DC se Pq uK
     have DD:∀j,d.contains j=true→np V w v j=V j:=fun j hj=>Hi (db j hj)
     have pn:∀M0 H0 k ok,d.contains k=true→tU P lo ops (bm ms) As id base cF V FO M0 H0 k ok→tU P lo ops (bm ms) As id base cF (np V w v) FO M0 H0 k ok:=fun M0 H0 k ok hk E8=>
      E8.congr (fun j hj=>DD j (s.closed j k hj hk)) (DD k hk) (fun _ _=>rfl) rfl
     have UU:∀k,(w::d).contains k=true→k∉W→d.contains k=true:=fun k hk qZ=>by
      rw[contains_cons,Bool.or_eq_true] at hk
      refine hk.resolve_left ?_
      have:k≠w:=by rintro rfl;exact qZ sZ
      rw[rF this];simp
     have qw:SI P lo ops ms W As base cF (w::d) Wr (d.filter fun k=>!W.contains k&&!As.contains k&&!bm ms k w&&match ops[k]? with|none=>true|some ok=>!IY ok.op) (some w) (np V w v) FO M' h' (bN ts o.dst v) DC:=by
      refine⟨?_,Pq,?_,fun w' vE=>?_,fun w' vE=>s.Fa w' (List.mem_cons_of_mem _ vE),(List.pairwise_cons.1 s.MA).2,fun i hi=>?_,fun i hi=>?_,fun k ok iZ hk qZ=>?_,fun k ok iZ hk qZ s4 hl=>?_⟩
      ·have e:(fun i=>(w::d).contains i)=fun i=>d.contains i||Nat.beq i w:=by funext i;rw[contains_cons,Bool.or_comm]
       rw[e,Pg st ho AN s.closed,DB]
       rw[BP (V':=V) (S':=fun i=>d.contains i) (fun _ _=>rfl) (fun j _ hj=>DD j hj),← s.ph]
      ·intro i j hb hj
       rw[contains_cons,Bool.or_eq_true] at hj ⊢
       rcases hj with hj|hj
       ·rw[v7 hj] at hb;exact .inr (hp i hb)
       exact .inr (s.closed i j hb hj)
      ·by_cases Pr:w'=w
       ·subst Pr
        rw[contains_cons,Nat.beq_refl,Bool.true_or]
        exact⟨fun _=>Ff,fun _=>rfl⟩
       rw[contains_cons,rF Pr,Bool.false_or,s.wr w' vE,List.mem_cons]
       exact⟨fun h h2=>h (.inr h2),fun h h2=>h2.elim Pr h⟩
      ·rw[contains_cons,Bool.or_eq_false_iff] at hi
       exact s.fo i hi.2
      ·rw[contains_cons]
       rcases se i hi with h|h
       ·rw[s.E6 i h,Bool.or_true]
       rw[hp i h,Bool.or_true]
      ·have hk:=UU k hk qZ
       obtain⟨M0,H0,h0⟩:=s.jg k ok iZ hk qZ
       exact⟨M0,H0,pn M0 H0 k ok hk h0⟩
      have hk:=UU k hk qZ
      obtain⟨M0,H0,h0⟩:=s.jg k ok iZ hk qZ
      refine(pn M0 H0 k ok hk h0).pure ?_
      have hb:=hl w rfl
      by_cases hA:k∈As
      ·exact .inr hA
      left
      have yM:k∈d:=by rwa [List.contains_iff_mem] at hk
      have Ps:W.contains k=false:=MB.2 qZ
      have Pt:As.contains k=false:=MB.2 hA
      rw[List.mem_filter] at s4
      simp only[yM,Ps,Pt,hb,iZ,Bool.not_false,Bool.and_self,Bool.true_and,true_and,Bool.not_eq_true',Bool.not_eq_false] at s4
      exact s4
     obtain⟨V',fA,h1,h2⟩:=Hj st ox r (w::d) Wr _ (some w) (np V w v) FO M' h' (bN ts o.dst v) DC hc qw uK
     refine⟨V',fA,fun i hi yJ BU=>?_,by rw[(h1 w (by rw[contains_cons,Nat.beq_refl];rfl)).1,DB],h2⟩
     have hid:d.contains i=true:=by
      by_cases UW:i∈W
      ·exact(s.wr i UW).2 yJ
      exact I1 i hi UW BU
     obtain⟨h3,h4⟩:=h1 i (by rw[contains_cons,hid,Bool.or_true])
     exact⟨by rw[h3,DD i hid],h4⟩
    refine⟨V,FO,fun _ _=>⟨rfl,rfl⟩,E8,fun o2 ME=>?_⟩
    rw[ho] at ME;injection ME with ME;subst ME
    rw[← fy.wanted]
    constructor
    ·intro oS mC Pu
     rw[oS] at hs
     simp only[aQ] at hs
     rw[heq FO (fun _ _=>rfl)]
     refine(hs mC (fun t ht=>(Pu t ht).trans (fy t ht).symm)).mono fun bo h' hq=>?_
     obtain⟨v,rfl,uK⟩:=hq
     obtain⟨V',fA,k1,k2,k3⟩:=next v h' (fun i=>M i||bm ms i w) _ (fun i hi=>by simpa using hi) (by
      rw[s.mV,UR (c:=fun i=>bm ms i w)]
      refine I0 fun i hi=>?_
      have:i≠w:=by rintro rfl;exact st.aw i hi sZ
      rw[contains_cons,rF this,Bool.false_or]) uK
     exact⟨V',fA,k1,by rw[k2],k3⟩
    intro oS
    rw[oS] at hs
    simp only[bx] at hs
    exact next Go.undef H M fl (fun i hi=>.inl hi) (by
     rw[s.mV]
     refine I0 fun i hi=>?_
     have:i≠w:=by rintro rfl;exact st.aw i hi sZ
     rw[contains_cons,rF this,Bool.false_or]) hs
  have sZ:m∉W:=by rwa [List.contains_iff_mem] at MD
  have hWc:W.contains m=false:=MB.2 sZ
  simp only[hWc,bx,bW] at hc hs
  obtain⟨jI,jk⟩:=hc
  have fO:FO m=none:=s.fo m AN
  have vF:fl=fm (fun i=>(m::d).contains i) M FO As:=by
   rw[s.mV]
   refine I0 fun i hi=>?_
   by_cases UX:i=m
   ·subst UX;rw[fO];cases (d.contains i&&!M i)<;>cases ((i::d).contains i&&!M i)<;>rfl
   rw[contains_cons,rF UX,Bool.false_or]
  by_cases oS:Region.wanted o (qa ops ts)=true
  ·have wA:=oS
   rw[fy.wanted] at wA
   simp only[oS,aQ] at hs
   by_cases hA:As.contains m=true
   ·have I2:m∈As:=by rwa [List.contains_iff_mem] at hA
    simp only[hA,aQ,List.all_eq_true,Bool.or_eq_true,Bool.not_eq_true'] at jI hs
    obtain⟨v,x,ha,uK⟩:=hs
    have Bz:∀j,j≠m→np FO m (some x) j=FO j:=fun j hj=>Hi hj
    refine lift v (np FO m (some x)) Bz (Hj st ox r (m::d) bF todo last _ _ M H _ _ jk (s.rd st ho AN hp sZ Bz ?_ ?_) uK)
    ·have e:(fun i=>(m::d).contains i)=fun i=>Nat.beq i m||d.contains i:=by funext i;rw[contains_cons]
     rw[e,UP ox I2 (fun k hk=>(jI k hk).imp (fun h=>bc h) (fun h=>h)) AN hMm,← s.mV]
    refine .inl ⟨?_,.inr ⟨x,I2,DB _ _ _,?_⟩⟩
    ·rw[yL];exact wA
    rw[yL,DB,← UH fy.eval];exact ha
   have I2:m∉As:=by rwa [List.contains_iff_mem] at hA
   have hAc:As.contains m=false:=MB.2 I2
   simp only[hAc,bx] at jI hs
   obtain⟨v,h1,ha,uK⟩:=hs
   refine lift v FO (fun _ _=>rfl) (Hj st ox r (m::d) bF todo last _ _ M H _ _ jk (s.rd st ho AN hp sZ (fun _ _=>rfl) vF ?_) uK)
   refine .inl ⟨?_,.inl ⟨jI,I2,fO,h1,?_⟩⟩
   ·rw[yL];exact wA
   rw[yL,DB,heq FO (fun _ _=>rfl),← E4 fy.eval];exact ha
  have oS:Region.wanted o (qa ops ts)=false:=by rwa [Bool.not_eq_true] at oS
  have wA:=oS
  rw[fy.wanted] at wA
  simp only[oS,bx] at hs
  refine lift Go.undef FO (fun _ _=>rfl) (Hj st ox r (m::d) bF todo last _ _ M H _ _ jk (s.rd st ho AN hp sZ (fun _ _=>rfl) vF ?_) hs)
  refine .inr ⟨?_,DB _ _ _,fO⟩
  rw[yL];exact wA
 |.ck m::r,d,bF,todo,last,V,FO,M,H,ts,fl,hc,s,hs=>by
  obtain⟨o,t,ho,Pv,jA,hs⟩:=hs
  simp only[AM,ho,bW] at hc
  obtain⟨⟨_,cS⟩,hc⟩:=hc
  refine Hj st ox r d bF _ last V FO M H ts fl hc ⟨s.ph,s.mV,s.closed,s.wr,s.Fa,s.MA,s.fo,s.E6,s.jg,fun k ok iZ hk qZ s4 hl=>?_⟩ hs
  by_cases tV:k=m
  ·subst tV
   rw[ho] at iZ;injection iZ with iZ;subst iZ
   obtain⟨M0,H0,h0⟩:=s.jg k o ho hk qZ
   have fy:=zsd (cF:=cF) (V:=V) (L:=fun i=>d.contains i) ho cS hk s.closed
   rw[← s.ph] at fy
   have hp:∀j,bm ms j k=true→d.contains j=true:=fun j hj=>s.closed j k hj hk
   have heq:bY base id FO (fun i=>bm ms i k&&!M i) As H=j6 base (fun i=>bm ms i k) fl H:=by
    rw[s.mV,Mz]
    refine Dx fun j _=>?_
    cases hb:bm ms j k with
    |false=>rfl
    |true=>rw[hp j hb];simp
   rcases h0 with⟨hw,⟨h1,h2,h3,h4,ha⟩|hA⟩|h0
   ·obtain⟨v,h5,hv,rH⟩:=jA (by rw[fy.wanted];exact hw)
    rw[s.ph] at hv
    have hvm:=zy2 (cF:=cF) st (V:=V) (L:=fun i=>d.contains i) ho cS Pv hk hv
    subst hvm
    exact .inl ⟨hw,.inl ⟨h1,h2,h3,h5,by rw[heq,← E4 fy.eval];exact rH⟩⟩
   ·exact .inl ⟨hw,.inr hA⟩
   exact .inr h0
  refine s.now k ok iZ hk qZ (fun h=>s4 ?_) hl
  rw[List.mem_filter]
  exact⟨h,by rw[rF tV];rfl⟩
theorem AW.sched {id:Nat}{ts:aL}{h:ai}{items:List jo}(hm:P.follows .mixedOrders=true)(cS:IX ops ms W As=true)(ox:DA As=true)(hc:AM ops ms W As [] W [] items=true)
  (hs:AL P lo ops h.next ms W As (Q .normal) items ts [] (ai.qY (pj As ops.size) h)):AW P lo (.region id ops true) Q ts h:=by
 have st:=zzi cS
 have e1:gr ops (fun _=>Go.undef) (fun _=>false) ts ops.size=ts:=by
  have:∀n,gr ops (fun _=>Go.undef) (fun _=>false) ts n=ts:=by
   intro n
   induction n with
   |zero=>rfl
   |succ n ih=>simp only[gr,bx];exact ih
  exact this _
 have e2:[]=fm (fun _=>false) (fun _=>false) (fun _=>none) As:=by
  have:∀as,fm (fun _=>false) (fun _=>false) (fun _=>none) as=[]:=by
   intro as
   induction as with
   |nil=>rfl
   |cons a r ih=>rw[My rfl];exact ih
  exact(this As).symm
 obtain⟨V',fA,_,hD⟩:=Hj (P:=P) (lo:=lo) (base:=h.next) (cF:=ts) (Q:=Q) st ox items [] W [] none (fun _=>Go.undef) (fun _=>none) (fun _=>false) (ai.qY (pj As ops.size) h) ts [] hc
  ⟨e1.symm,e2,fun _ _ _ h=>(by cases h),fun w hw=>⟨fun h=>(by cases h),fun h=>absurd hw h⟩,fun _ h=>h,st.chain,fun _ _=>rfl,fun _ h=>(by cases h),fun _ _ _ h=>(by cases h),fun _ _ _ h=>(by cases h)⟩ hs
 exact AW.drawn hm st hD
end
section
variable {P:Program} {lo:Nat} {Q:ow} {ts:aL} {h:ai}
theorem Rel.kill {U:Mu}{w:World}(r:Rel U lo h w)(l:Nat)(hl:l<h.next):Rel U lo (h.put l none) w:=
 r.sub (Nat.le_refl _) (fun o x hx=>by
  rw[ai.eT _ _ _ _ hl] at hx
  by_cases ho:o=l
  ·simp[ho] at hx
  simpa[ho] using hx) (Nat.le_refl _) r.bX
theorem Frame.kill {U aV:Mu}{h':ai}{w w':World}(f:Frame lo U h w aV h' w')(l:Nat)(hl:l<h'.next)(cY:lo≤l):Frame lo U h w aV (h'.put l none) w' where
  le:=f.le
  size:=f.size
  next:=f.next
  kept:=f.kept
  own b hb:=by
    rintro⟨o,x,a,C,h1,h2,h3⟩
    rw[ai.eT _ _ _ _ hl] at h2
    by_cases ho:o=l
    · simp[ho] at h2
    exact f.own b hb ⟨o,x,a,C,h1,by simpa[ho] using h2,h3⟩
  low o ho:=by rw[ai.eT _ _ _ _ hl,if_neg (by omega)];exact f.low o ho
  jg:=f.jg
  born o ho hn:=by
    rw[ai.eT _ _ _ _ hl]
    by_cases EO:o=l
    · simp[EO]
    simpa[EO] using f.born o ho hn
  calm:=f.calm
theorem UY {U:Mu}{w:World}(r:Rel U lo h w){l b a C:Nat}{x:bn}(cY:lo≤l)(hx:h.get l=some x)(hm:U l=some (b,a,C)):yC U (h.put l none) b:=by
 intro o y a' C' hy fN
 rw[ai.eT _ _ _ _ (ai.iE hx)] at hy
 by_cases ho:o=l
 ·simp[ho] at hy
 simp[ho] at hy
 exact ho (r.inj l o x y b a C a' C' cY hx hy hm fN).symm
theorem Rel.Pw {U:Mu}{w:World}{o:Obj}(r:Rel U lo h w){l b C:Nat}{x:bn}(hl:l<h.next)(hm:U l=some (b,0,C))(u:yC U h b)(hK:bE.K≤b)(hx:iu U (w.putObj b o) b 0 C x)(hf:∀off,(w.putObj b o).frozen? ⟨b,off,none⟩=false) :
  Rel U lo (h.put l (some x)) (w.putObj b o):=by
 have r':=Mo o r u hK
 refine⟨fun p y hy=>?_,fun p p' y y' b' a C1 a' C2 yh hy sI b7 gW=>?_,r.rm,fun p y b' a C1 hp hy b7 off=>?_,r.bX,⟨r'.mM.gl,r'.mM.ks,fun p y b' a C1 hp hy b7=>?_⟩⟩
 ·rw[ai.eT _ _ _ _ hl] at hy
  by_cases ji:p=l
  ·subst ji;simp at hy;subst hy;exact⟨b,0,C,hm,hx⟩
  exact r'.br p y (by simpa[ji] using hy)
 ·rw[ai.eT _ _ _ _ hl] at hy sI
  by_cases ji:p=l
  ·by_cases uA:p'=l
   ·rw[ji,uA]
   simp[uA] at sI
   subst ji;rw[hm] at b7;injection b7 with b7;injection b7 with b7 _;subst b7
   exact(u p' y' a' C2 sI gW).elim
  simp[ji] at hy
  by_cases uA:p'=l
  ·subst uA;rw[hm] at gW;injection gW with gW;injection gW with gW _;subst gW
   exact(u p y a C1 hy b7).elim
  simp[uA] at sI
  exact r.inj p p' y y' b' a C1 a' C2 yh hy sI b7 gW
 ·rw[ai.eT _ _ _ _ hl] at hy
  by_cases ji:p=l
  ·subst ji;rw[hm] at b7;injection b7 with b7;injection b7 with b7 _;subst b7;exact hf off
  exact r'.fZ p y b' a C1 hp (by simpa[ji] using hy) b7 off
 rw[ai.eT _ _ _ _ hl] at hy
 by_cases ji:p=l
 ·subst ji;rw[hm] at b7;injection b7 with b7;injection b7 with b7 _;subst b7;exact hK
 exact r'.mM.hi p y b' a C1 hp (by simpa[ji] using hy) b7
theorem Frame.Pw {U aV:Mu}{h':ai}{w w':World}(f:Frame lo U h w aV h' w'){l b C:Nat}{x y:bn}(hl:l<h'.next)(cY:lo≤l)(hx:h.get l=some x)(hm:U l=some (b,0,C)):Frame lo U h w aV (h'.put l (some y)) w' where
  le:=f.le
  size:=f.size
  next:=f.next
  kept:=f.kept
  own b' hb:=by
    rintro⟨o,z,a,C',h1,h2,h3⟩
    rw[ai.eT _ _ _ _ hl] at h2
    by_cases ho:o=l
    · subst ho
      rw[f.le _ _ hm] at h3;injection h3 with h3;injection h3 with h3 _;subst h3
      exact⟨o,x,0,C,cY,hx,hm⟩
    exact f.own b' hb ⟨o,z,a,C',h1,by simpa[ho] using h2,h3⟩
  low o ho:=by rw[ai.eT _ _ _ _ hl,if_neg (by omega)];exact f.low o ho
  jg:=f.jg
  born o ho hn:=by
    rw[ai.eT _ _ _ _ hl,if_neg (by rintro rfl;rw[hx] at hn;cases hn)]
    exact f.born o ho hn
  calm:=f.calm
def vG (ts:aL):List (Tmp×Value)→aL
 |[]=>ts
 |(t,v)::r=>vG (ts.set t v) r
theorem UZ {U:Mu}:∀(ps:List Tmp) {vs oq:List Value} {ts:aL} {tmps:Array Value},bB U vs oq→eA U ts tmps→
  eA U (vG ts (ps.zip vs)) ((ps.zip oq).foldl (fun tmps (x:Tmp×Value)=>tmps.setIfInBounds x.1 x.2) tmps)
 |[],_,_,_,_,_,ht=>by simpa[vG] using ht
 |p::ps,[],oq,_,_,hv,ht=>by
  have:=hv.lV;subst this
  simpa[vG] using ht
 |p::ps,v::vs,oq,ts,tmps,hv,ht=>by
  obtain⟨v',r',rfl,h1,h2⟩:=hv.eJ
  simp only[List.zip_cons_cons,vG,List.foldl_cons]
  refine UZ ps h2 ?_
  have:=bB.set p ht h1
  simpa[eA] using this
def xe3 (L:Ox)(l:Nat)(K:Bool→ai→Prop):ow
 |.normal,_,h=>K true (h.put l (some (.loop L none)))
 |.ret,_,h=>K false (h.put l (some (.loop L (some .ret))))
 |.exit id,_,h=>K false (h.put l (some (.loop L (some (.exit id)))))
 |.goto t,_,h=>K false (h.put l (some (.loop L (some (.goto t)))))
 |_,_,_=>False
theorem sV.yield {o:Oper}{fo:Operand}{args:Array Operand}{aT:Array TypeId}{l:Nat}{L:Ox}{vs:List Value}{next:aL→ai→Prop}(ho:o.op=.call ⟨.value fo,args,aT⟩)
  (hf:dF ts fo=some (.func (.yield l) #[] #[])) (hl:rC ts args.toList=some vs) (hg:h.get l=some (.loop L none)) (cY:lo≤l) (hlen:vs.length=L.params.size)
  (hc:AW P lo L.assign (Ml (AW P lo L.body (xe3 L l fun b h'=>next (bN ts o.dst (.bool b)) h')) (fun _ _ _=>False)) (vG L.ts (L.params.toList.zip vs)) (h.put l none)):sV P lo o ts h next:=by
 intro F hF n U a w Q ht r
 refine⟨E3 F hF,?_⟩
 rw[Oper.semAt_eq _ _ _ (fun c hc=>by rw[ho] at hc;cases hc)]
 have tS:=iw ht hf
 generalize tR:a.eval fo=fv at tS
 cases tS with
 |nC _ b C hm=>
  obtain⟨b',a',C',fN,sP⟩:=r.br l _ hg
  rw[hm] at fN;injection fN with fN;injection fN with e1 e2;injection e2 with e2 e3;subst e1;subst e2;subst e3
  obtain⟨_,rec,BV,cS,U0,Fg,has,U1,ph⟩:=sP
  have hb:=E1 BV
  have U2:=Hd ht hl
  have dU:(#[]++args.map a.eval:Array Value).size=rec.params.size:=by
   have:=U2.1
   rw[Fg,← hlen,this];simp
  have gB:(execOp a.eval o).run P w=.ok (.round b rec.fn ((rec.params.zip (#[]++args.map a.eval)).foldl (fun tmps (t,a)=>tmps.setIfInBounds t a) rec.tmps) rec.assign rec.body) w:=by
   simp only[execOp,ho,resolve,tR,Deferred.ofValue,Sem.run_bind,Sem.run_pure,Result.andThen_ok,invoke,run_yield BV dU]
  rw[gB]
  refine⟨hF.one n,?_⟩
  refine roundIn_of_wpIn (hF.fn _) ?_
  have da:=ai.iE hg
  have wB:Bt U lo h b:=⟨l,_,0,C,cY,hg,hm⟩
  have hu:=UY r cY hg hm
  have rk:=r.kill l da
  have fk:Frame lo U h w U (h.put l none) w:=(Frame.refl lo U h w).kill l da cY
  have I3:eA U (vG L.ts (L.params.toList.zip vs)) ((rec.params.zip (#[]++args.map a.eval)).foldl (fun tmps (t,a)=>tmps.setIfInBounds t a) rec.tmps):=by
   have:=UZ L.params.toList (U:=U) (vs:=vs) (oq:=(args.map a.eval).toList) (by simpa using U2) ph
   rw[← Array.foldl_toList,Fg]
   simpa using this
  rw[has]
  refine wpIn_mono (hc (F.inRound b) (hF.inRound b) (n - 1) U { tmps:=_,defers:=[] } w I3 rk (fun l' sc=>?_)) fun e a1 w1 ll=>?_
  ·have:b=l':=by simpa[Fence.inRound] using sc
   subst this;exact⟨rec,BV,hu⟩
  obtain⟨mC,h1,qS,ms1,uL,r1,f1,mB,_,hq⟩:=ll
  cases e with
  |normal=>
   have DE:w1.heap[b]?=some (.loop rec):=by rw[f1.kept b hb hu.own];exact BV
   have MF:=hu.frame hb f1
   refine⟨_,run_beginRound DE (by rw[cS];rfl),?_⟩
   rw[← U1] at hq
   have eM:=E1 DE
   have r2:=Mo (.loop { rec with state:=.busy }) r1 MF (r.mM.hi l _ b 0 _ cY hg hm)
   have f2:=Mp (.loop { rec with state:=.busy }) (fk.trans f1) (.inr wB)
   have yN:(w1.putObj b (.loop { rec with state:=.busy })).heap[b]?=some (.loop { rec with state:=.busy }):=World.putObj_heap_same eM
   refine wpIn_mono (hq (F.inRound b) (hF.inRound b) (n - 1) qS a1 _ uL r2 (fun l' sc=>?_)) fun e a2 w3 lk=>?_
   ·have:b=l':=by simpa[Fence.inRound] using sc
    subst this;exact⟨_,yN,MF⟩
   obtain⟨ts3,h3,μ3,ms3,uM,r3,f3,U3,_,Dr⟩:=lk
   have cr:=E1 yN
   have DG:w3.heap[b]?=some (.loop { rec with state:=.busy }):=by rw[f3.kept b cr MF.own];exact yN
   have nq:=E1 DG
   have yO:=MF.frame cr f3
   have I4:=f2.trans f3
   have Iz:=I4.le _ _ hm
   have BW:l<h3.next:=Nat.lt_of_lt_of_le da I4.next
   have fin:∀(jump:Option Code),next (bN ts o.dst (.bool jump.isNone)) (h3.put l (some (.loop L jump)))→
     ∃v w',(Instr.endRound b jump).run P w3=.ok v w'∧ix lo U h w a.defers (fun _=>next) .normal (a.put o.dst v) w':=by
    intro jump hn
    refine⟨_,_,run_endRound jump DG,bN ts o.dst (.bool jump.isNone),h3.put l (some (.loop L jump)),μ3,E2 (ht.mono I4.le) (.bool _) o.dst,?_,?_,put_defers _ _ _,hn⟩
    ·refine r3.Pw BW Iz yO (r.mM.hi l _ b 0 _ cY hg hm) ⟨rfl,_,World.putObj_heap_same nq,rfl,rfl,Fg,has,U1,ph.mono I4.le⟩ fun off=>?_
     simp only[World.frozen?,World.putObj_heap_same nq]
    exact(Mp _ I4 (.inr wB)).Pw BW cY hg hm
   cases e with
   |normal=>exact fin none Dr
   |ret=>exact fin (some .ret) Dr
   |exit id=>exact fin (some (.exit id)) Dr
   |goto t=>exact fin (some (.goto t)) Dr
   |panic ch=>exact Dr.elim
   |outgrown=>exact Dr.elim
  |exit id=>exact hq.elim
  |goto l=>exact hq.elim
  |ret=>exact hq.elim
  |panic ch=>exact hq.elim
  |outgrown=>exact hq.elim
theorem zs1 {U:Mu}{w:World}(o:Obj)(r:Rel U lo h w):Rel U lo h (w.alloc o)∧Frame lo U h w U h (w.alloc o)∧yC U h w.heap.size:=by
 have hblk:∀p y b a C',h.get p=some y→U p=some (b,a,C')→b<w.heap.size:=fun p y b a C' hy hm=>by
  obtain⟨b',a',sH,h1,h2⟩:=r.br p y hy
  rw[hm] at h1;injection h1 with h1;injection h1 with h1 _;subst h1
  exact h2.vy
 refine⟨⟨fun p y hy=>?_,r.inj,r.rm,fun p y b a C hl hy hm off=>?_,r.bX,r.mM.step (by simp) (fun b hb _=>heap_alloc_old _ _ hb) fun o x b a C h1 h2 h3 _=>⟨o,x,a,C,h1,h2,h3⟩⟩,⟨Mu.le_refl _,by simp,Nat.le_refl _,fun b hb _=>heap_alloc_old _ _ hb,fun _ _ h=>h,fun _ _=>rfl,fun _ _=>rfl,fun _ _ h=>h,⟨rfl,rfl,rfl,fun _=>by first|exact Nat.le_refl _|exact Nat.le_add_right _ _|exact Nat.le_succ _⟩⟩,fun p y a C hy hm=>?_⟩
 ·obtain⟨b,a,C,h1,h2⟩:=r.br p y hy
  exact⟨b,a,C,h1,h2.kept (heap_alloc_old _ _ h2.vy)⟩
 ·rw[Bu (heap_alloc_old _ _ (hblk p y b a C hy hm))]
  exact r.fZ p y b a C hl hy hm off
 exact Nat.lt_irrefl _ (hblk p y _ a C hy hm)
theorem AW.rangeFunc (tag:Nat){g:Operand}{ps:Array Tmp}{assign body:Code}{f:FuncId}{first captured:Array Value}(hg:dF ts g=some (.func (.func f) first captured))(eD:∀as w,(callFunc f as).run P w=.ok (.enter f as) w)
  (hc:qv P lo f (first.toList++[.func (.yield h.next) #[] #[]]++captured.toList) (h.alloc (.loop ⟨ps,assign,body,ts,tag⟩ none)) fun _ h'=>
   ∃L jump,h'.get h.next=some (.loop L jump)∧match jump with
    |none=>Q .normal ts (h'.put h.next none)
    |some c=>AW P lo c Q ts (h'.put h.next none)):AW P lo (.rangeFunc g ps assign body) Q ts h:=by
 intro F hF n U a w ht r ro
 refine wpIn_rangeFunc fun fn po=>?_
 have enter:∃mark w' rec,(Instr.enterLoop fn a.tmps ps assign body F.round).run P w=.ok (w'.heap.size,mark) (w'.alloc (.loop rec))∧Rel U lo h w'∧Frame lo U h w U h w'∧qX w.heap.size U h w' mark∧
   rec.state=.ready∧rec.pending=none∧rec.params=ps∧rec.assign=assign∧rec.body=body∧rec.tmps=a.tmps:=by
  cases sg:F.round with
  |none=>
   obtain⟨k1,k2,k3⟩:=zs1 (.deferred (some [])) r
   refine⟨[{ target:=.collected w.heap.size,args:=#[] }],w.alloc (.deferred (some [])),{ state:=.ready,pending:=none,fn,tmps:=a.tmps,params:=ps,assign,body,defers:=w.heap.size },?_,k1,k2,
    ⟨⟨w.heap.size,rfl,Nat.le_refl _,by rw[heap_alloc];simp,k3,fun _ h=>(by cases h)⟩,trivial⟩,rfl,rfl,rfl,rfl,rfl,rfl⟩
   rw[run_enterLoop_outer,World.size_alloc]
  |some l0=>
   obtain⟨r0,h1,_⟩:=ro l0 sg
   refine⟨[],w,{ state:=.ready,pending:=none,fn,tmps:=a.tmps,params:=ps,assign,body,defers:=r0.defers },?_,r,Frame.refl _ _ _ _,trivial,rfl,rfl,rfl,rfl,rfl,rfl⟩
   simp only[Instr.enterLoop,Sem.run_bind,run_getLoop h1,Result.andThen_ok,Sem.run_pure,run_newObj_alloc]
 obtain⟨mark,w',rec,gB,r',f',G9,mT,gq,hs3,hs4,hs5,hs6⟩:=enter
 have sP:iu (U.put h.next (w'.heap.size,0,0)) (w'.alloc (.loop rec)) w'.heap.size 0 0 (.loop ⟨ps,assign,body,ts,tag⟩ none):=
  ⟨rfl,rec,by rw[heap_alloc];simp,mT,gq,hs3,hs4,hs5,by rw[hs6];exact ht.mono (r'.EB _)⟩
 obtain⟨r1,f1⟩:=Oz r' (.loop rec) 0 (.loop ⟨ps,assign,body,ts,tag⟩ none) sP (fun off=>by simp only[World.frozen?,heap_alloc];simp)
 have tS:=iw ht hg
 generalize tR:a.eval g=fv at tS
 cases tS with
 |func _ _ _ j4 eK hx hy rx ry=>
  refine⟨w'.heap.size,mark,w'.alloc (.loop rec),{ target:=.fn (.func f) eK,args:=j4++#[.func (.yield w'.heap.size) #[] #[]] },w'.alloc (.loop rec),f,j4++#[.func (.yield w'.heap.size) #[] #[]]++eK,w'.alloc (.loop rec),gB,?_,fun f' _=>hF.fn f',by simp only[invoke];exact eD _ _,hF.one n,?_⟩
  ·have hev:Array.map a.eval #[Operand.const (.func (.yield w'.heap.size) #[] #[])]=#[.func (.yield w'.heap.size) #[] #[]]:=by simp[Act.eval]
   simp only[resolve,tR,Deferred.ofValue,Sem.run_pure,hev]
  have ji:jJ F.plain:=⟨hF.fn,hF.depth,hF.alive⟩
  have j5:bB (U.put h.next (w'.heap.size,0,0)) (first.toList++[Value.func (.yield h.next) #[] #[]]++captured.toList) (j4++#[Value.func (.yield w'.heap.size) #[] #[]]++eK).toList:=by
   simp only[Array.toList_append]
   exact(((uw.2 ⟨hx,rx⟩).mono (r'.EB _)).append (.cons (.nC _ _ 0 (Mu.cX _ _ _)) (.nil _))).append ((uw.2 ⟨hy,ry⟩).mono (r'.EB _))
  have yD:CallsIn F (n - 1) P f (j4++#[.func (.yield w'.heap.size) #[] #[]]++eK) (w'.alloc (.loop rec)) _:=hc F.plain ji rfl (n - 1) _ _ _ j5 r1
  refine yD.mono fun e w3 ⟨r2,v,h',aV,e1,e2,r3,f3,L,jump,hj,hq⟩=>?_
  subst e1
  obtain⟨b,a',C',fN,s5⟩:=r3.br h.next _ hj
  rw[f3.le _ _ (Mu.cX _ _ _)] at fN
  injection fN with fN;injection fN with k1 k2;injection k2 with k2 k3;subst k1;subst k2;subst k3
  obtain⟨_,Fh,I5,Px,Fi,_⟩:=s5
  have hnb:Fh.state≠.busy:=by rw[Px];cases jump<;>simp
  have hu:=UY r3 r.bX hj (f3.le _ _ (Mu.cX _ _ _))
  have a8:=ai.iE hj
  have I6:=r.bX
  have r4:=Mo (.loop { Fh with state:=.exhausted }) (r3.kill h.next a8) hu r'.mM.ks
  have f4:Frame lo U h w' aV (h'.put h.next none) (w3.putObj w'.heap.size (.loop { Fh with state:=.exhausted })):=
   Mp _ ((f1.trans f3).kill h.next a8 I6) (.inl (Nat.le_refl _))
  refine⟨jump,_,(run_endLoop I5 hnb).trans (congrArg (fun j=>Result.ok j _) Fi),?_⟩
  cases jump with
  |none=>exact⟨ts,_,aV,mark,ht.mono f4.le,r4,f'.trans f4,rfl,G9.frame f4,hq⟩
  |some c=>
   have:=hq F hF n aV { a with defers:=mark++a.defers } _ (ht.mono f4.le) r4 (ro.frame (f'.trans f4))
   exact wpIn_mono this fun _ _ _ hl=>hl.trans (f'.trans f4) (G9.frame f4)
theorem Hk {b:Go.Frame}{a:Act}{k:List Item}{cs:List Go.Frame}{w:World}{c:Code}:step P (lone (b.atR a (.code (.scope c)::k)) cs w)=.next (lone (b.atR a (.code c::.inScope c::k)) cs w):=
 step_lone_go (by simp[stepG,stepG.exec,Frame.atR])
theorem zq7 {b:Go.Frame}{a:Act}{k:List Item}{cs:List Go.Frame}{w:World}{c:Code}:step P (lone (b.atR a (.inScope c::k)) cs w)=.next (lone (b.atR a k) cs w):=
 step_lone_go (by simp[stepG,stepG.exec,Frame.atR])
theorem zki {F:Fence}{n:Nat}{c:Code}{Q:Exit→Act→World→Prop}{a:Act}{w:World}(h:c.wpIn F n P (Exit.noGoto Q) a w):(Code.scope c).wpIn F n P Q a w:=by
 intro b k cs sg hb hr
 have h0:(lone (b.atR a (.code (.scope c)::k)) cs w).fenced P F:=fenced_calm hb hr rfl
 obtain⟨e,yP,yQ,hq,rA⟩:=h b (.inScope c::k) cs sg hb hr
 cases e with
 |normal=>exact⟨.normal,yP,yQ,hq,.head h0 Hk (StepsIn.trans rA (.one (fenced_calm hb hr rfl) zq7))⟩
 |exit id=>
  have hx:exitTo id (.inScope c::k)=exitTo id k:=by simp[exitTo]
  exact⟨_,yP,yQ,hq,fun k' hk=>.head h0 Hk (rA.1 k' (by rw[hx];exact hk)),
   fun ru hk=>let ⟨k₁,h1,h2⟩:=rA.2 ru (by rw[hx];exact hk);⟨k₁,h1,.head h0 Hk h2⟩⟩
 |goto l=>exact hq.elim
 |ret=>exact⟨_,yP,yQ,hq,.of_steps (.one h0 Hk) rA⟩
 |panic ch=>exact⟨_,yP,yQ,hq,.of_steps (.one h0 Hk) rA⟩
 |outgrown=>exact⟨_,yP,yQ,hq,.of_steps (.one h0 Hk) rA⟩
def xat (Q:ow):ow
 |.goto _,_,_=>False
 |e,ts,h=>Q e ts h
theorem AW.scope {c:Code}(hc:AW P lo c (xat Q) ts h):AW P lo (.scope c) Q ts h:=by
 intro F hF n U a w ht r ro
 refine zki (wpIn_mono (hc F hF n U a w ht r ro) fun e a' w' hl=>?_)
 cases e with
 |goto l=>obtain⟨_,_,_,_,_,_,_,_,_,h⟩:=hl;exact h.elim
 |normal=>exact hl
 |exit id=>exact hl
 |ret=>exact hl
 |panic ch=>exact hl
 |outgrown=>exact hl
end
structure U4 where
  call:FuncId→List Value→ai→Option (Value×ai)
  cm:Nat→List Value→ai→Option (Value×ai)
section
variable (P:Program) (lo:Nat) (orc:U4) (n:Nat)
end
section
variable {P:Program} {lo:Nat} {orc:U4} {n:Nat}
end
section
variable {P:Program} {lo:Nat}
end
section
variable {P:Program} {lo:Nat} {ts:aL} {h:ai}
end
section
variable {P:Program} {lo:Nat} {Q:ow} {ts:aL} {h:ai} {pv:Value}
end
section
variable {P:Program} {lo:Nat} {ts:aL} {h:ai}
end
end Go.Am
end
