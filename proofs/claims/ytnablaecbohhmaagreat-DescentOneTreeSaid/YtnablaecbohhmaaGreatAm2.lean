/-
 What is used in the proof of a statement (part Am2); no condition.
-/
import Derived.LoopNIn
import Derived.DefersIn
import Derived.RangeFuncLeaves
import Derived.RangeFuncRecord
import Derived.Scope
import Derived.RecoverIn
import Derived.Test.YtnablaecbohhmaaGreatAm1
set_option linter.all false
set_option maxHeartbeats 40000000
set_option maxRecDepth 100000
/-
 The abstract machine, part L: the logic: code, operations in their order, calls.
-/
section
namespace Go.Am
structure Wide (F:Fence):Prop where
  fn:∀f,F.fn f
  depth:F.depth=none
  alive:F.alive=false
theorem Wide.one {F:Fence}(h:Wide F)(n:Nat):F.depth.isSome=true→1≤n:=fun hd=>by rw[h.depth] at hd;cases hd
theorem zwj:Wide Fence.wide:=⟨fun _=>trivial,rfl,rfl⟩
theorem Wide.inRound {F:Fence}(h:Wide F)(l:Nat):Wide (F.inRound l):=⟨h.fn,h.depth,h.alive⟩
theorem Wide.eq {F:Fence}(h:Wide F)(hr:F.round=none):F=Fence.wide:=by
 obtain⟨fn,depth,alive,round⟩:=F
 obtain⟨h1,h2,h3⟩:=h
 simp only at h1 h2 h3 hr
 subst h2;subst h3;subst hr
 have:fn=fun _=>True:=funext fun f=>propext ⟨fun _=>trivial,fun _=>h1 f⟩
 subst this
 rfl
abbrev zev:=Exit→Tmps→zaa→Prop
def Lift (lo:Nat)(μ:Mu)(h:zaa)(w:World)(ds:List Deferred)(Q:zev)(e:Exit)(a':Act)(w':World):Prop:=
 ∃ts' h' μ',RelT μ' ts' a'.tmps∧Rel μ' lo h' w'∧Frame lo μ h w μ' h' w'∧a'.defers=ds∧Q e ts' h'
theorem Lift.trans {lo:Nat}{μ μ1:Mu}{h h1:zaa}{w w1:World}{ds:List Deferred}{Q:zev}{e:Exit}{a':Act}{w':World}(f:Frame lo μ h w μ1 h1 w1)(l:Lift lo μ1 h1 w1 ds Q e a' w'):Lift lo μ h w ds Q e a' w':=
 let ⟨ts',h',μ',h2,h3,h4,h5,h6⟩:=l
 ⟨ts',h',μ',h2,h3,f.trans h4,h5,h6⟩
theorem Lift.mono {lo:Nat}{μ:Mu}{h:zaa}{w:World}{ds:List Deferred}{Q Q':zev}{e e':Exit}{a':Act}{w':World}(l:Lift lo μ h w ds Q e a' w')(hq:∀ts h,Q e ts h→Q' e' ts h):Lift lo μ h w ds Q' e' a' w':=
 let ⟨ts',h',μ',h2,h3,h4,h5,h6⟩:=l
 ⟨ts',h',μ',h2,h3,h4,h5,hq _ _ h6⟩
def Unm (μ:Mu)(h:zaa)(b:Nat):Prop:=∀o x a C,h.get o=some x→μ o=some (b,a,C)→False
theorem Unm.own {μ:Mu}{lo:Nat}{h:zaa}{b:Nat}(u:Unm μ h b):¬Own μ lo h b:=fun⟨o,x,a,C,_,h2,h3⟩=>u o x a C h2 h3
theorem Unm.frame {lo:Nat}{μ μ':Mu}{h h':zaa}{w w':World}{b:Nat}(u:Unm μ h b)(hb:b<w.heap.size)(f:Frame lo μ h w μ' h' w'):Unm μ' h' b:=by
 intro o x a C hx hm
 by_cases hl:lo≤o
 ·exact u.own (f.own b hb ⟨o,x,a,C,hl,hx,hm⟩)
 rw[f.low o (by omega)] at hx
 rw[f.old o (zaa.zai hx)] at hm
 exact u o x a C hx hm
def zh4 (F:Fence)(μ:Mu)(h:zaa)(w:World):Prop:=∀l,F.round=some l→∃r:Loop,w.heap[l]?=some (.loop r)∧Unm μ h l
theorem zbm {w:World}{b:Nat}{o:Obj}(h:w.heap[b]?=some o):b<w.heap.size:=by
 rcases Nat.lt_or_ge b w.heap.size with h'|h'
 ·exact h'
 rw[Array.getElem?_eq_none h'] at h;cases h
theorem zh4.frame {F:Fence}{lo:Nat}{μ μ':Mu}{h h':zaa}{w w':World}(r:zh4 F μ h w)(f:Frame lo μ h w μ' h' w'):zh4 F μ' h' w':=fun l hl=>by
 obtain⟨rec,h1,h2⟩:=r l hl
 have hb:=zbm h1
 exact⟨rec,by rw[f.kept l hb h2.own];exact h1,h2.frame hb f⟩
theorem zh4.none {F:Fence}{μ:Mu}{h:zaa}{w:World}(hF:F.round=none):zh4 F μ h w:=fun l hl=>by rw[hF] at hl;cases hl
def zb5 (B:Nat)(μ:Mu)(h:zaa)(w:World):List Deferred→Prop
 |[]=>True
 |d::ds=>(∃r,d={ target:=.collected r,args:=#[] }∧B≤r∧w.heap[r]?=some (.deferred (some []))∧Unm μ h r∧∀d'∈ds,d'≠d)∧zb5 B μ h w ds
theorem zb5.frame {B lo:Nat}{μ μ':Mu}{h h':zaa}{w w':World}(f:Frame lo μ h w μ' h' w'):∀ {ds:List Deferred},zb5 B μ h w ds→zb5 B μ' h' w' ds
 |[],_=>trivial
 |_::_,⟨⟨r,h1,h2,h3,h4,h5⟩,hr⟩=>
  have hb:=zbm h3
  ⟨⟨r,h1,h2,by rw[f.kept r hb h4.own];exact h3,h4.frame hb f,h5⟩,hr.frame f⟩
theorem zb5.lt {B:Nat}{μ:Mu}{h:zaa}{w:World}:∀ {ds:List Deferred},zb5 B μ h w ds→∀d∈ds,∃r,d={ target:=.collected r,args:=#[] }∧B≤r∧r<w.heap.size
 |[],_,d,hd=>by cases hd
 |_::_,⟨⟨r,h1,h2,h3,_⟩,hr⟩,d,hd=>by
  rcases List.mem_cons.1 hd with rfl|hd
  ·exact⟨r,h1,h2,zbm h3⟩
  exact hr.lt d hd
theorem zb5.append {B B':Nat}{μ:Mu}{h:zaa}{w:World}(hB:B≤B'){ds:List Deferred}(h2:zb5 B μ h w ds)(hlt:∀d∈ds,∃r,d={ target:=.collected r,args:=#[] }∧r<B') :
  ∀ {ds':List Deferred},zb5 B' μ h w ds'→zb5 B μ h w (ds'++ds)
 |[],_=>h2
 | _ :: _, ⟨⟨r, h3, h4, h5, h6, h7⟩, hr⟩ => ⟨⟨r, h3, by omega, h5, h6, fun d' hd' => by
   rcases List.mem_append.1 hd' with h|h
   ·exact h7 d' h
   obtain⟨r',h8,h9⟩:=hlt d' h
   rintro rfl
   rw[h3] at h8
   injection h8 with h8 _;injection h8 with h8
   omega⟩,zb5.append hB h2 hlt hr⟩
def LiftM (lo:Nat)(μ:Mu)(h:zaa)(w:World)(ds:List Deferred)(Q:zev)(e:Exit)(a':Act)(w':World):Prop:=
 ∃ts' h' μ' ms,RelT μ' ts' a'.tmps∧Rel μ' lo h' w'∧Frame lo μ h w μ' h' w'∧a'.defers=ms++ds∧zb5 w.heap.size μ' h' w' ms∧Q e ts' h'
theorem Lift.toM {lo:Nat}{μ:Mu}{h:zaa}{w:World}{ds:List Deferred}{Q:zev}{e:Exit}{a':Act}{w':World}(l:Lift lo μ h w ds Q e a' w'):LiftM lo μ h w ds Q e a' w':=
 let ⟨ts',h',μ',h2,h3,h4,h5,h6⟩:=l
 ⟨ts',h',μ',[],h2,h3,h4,h5,trivial,h6⟩
theorem LiftM.trans {lo:Nat}{μ μ1:Mu}{h h1:zaa}{w w1:World}{ds ms:List Deferred}{Q:zev}{e:Exit}{a':Act}{w':World}(f:Frame lo μ h w μ1 h1 w1)(hm:zb5 w.heap.size μ1 h1 w1 ms)
  (l:LiftM lo μ1 h1 w1 (ms++ds) Q e a' w'):LiftM lo μ h w ds Q e a' w':=by
 obtain⟨ts',h',μ',ms',h2,h3,h4,h5,h6,h7⟩:=l
 refine⟨ts',h',μ',ms'++ms,h2,h3,f.trans h4,by rw[h5,List.append_assoc],zb5.append f.size (hm.frame h4) (fun d hd=>?_) h6,h7⟩
 obtain⟨r,h8,_,h9⟩:=hm.lt d hd
 exact⟨r,h8,h9⟩
theorem LiftM.mono {lo:Nat}{μ:Mu}{h:zaa}{w:World}{ds:List Deferred}{Q Q':zev}{e e':Exit}{a':Act}{w':World}(l:LiftM lo μ h w ds Q e a' w')(hq:∀ts h,Q e ts h→Q' e' ts h):LiftM lo μ h w ds Q' e' a' w':=
 let ⟨ts',h',μ',ms,h2,h3,h4,h5,h6,h7⟩:=l
 ⟨ts',h',μ',ms,h2,h3,h4,h5,h6,hq _ _ h7⟩
def AW (P:Program)(lo:Nat)(c:Code)(Q:zev)(ts:Tmps)(h:zaa):Prop:=
 ∀F,Wide F→∀n μ a w,RelT μ ts a.tmps→Rel μ lo h w→zh4 F μ h w→c.wpIn F n P (LiftM lo μ h w a.defers Q) a w
def zc0 (P:Program)(lo:Nat)(f:FuncId)(args:List Value)(h:zaa)(R:Value→zaa→Prop):Prop:=
 ∀F,Wide F→F.round=none→∀n μ w cargs,zas μ args cargs.toList→Rel μ lo h w→
  CallsIn F n P f cargs w fun e w'=>∃r v h' μ',e=.returned v∧RelV μ' r v∧Rel μ' lo h' w'∧Frame lo μ h w μ' h' w'∧R r h'
def zgm (P:Program)(lo:Nat)(o:Oper)(ts:Tmps)(h:zaa)(next:Tmps→zaa→Prop):Prop:=
 ∀F,Wide F→∀n μ a w Q,RelT μ ts a.tmps→Rel μ lo h w→o.wpIn F n P a w (Lift lo μ h w a.defers (fun _=>next) .normal) Q
section
variable {P:Program} {lo:Nat} {Q Q':zev} {ts:Tmps} {h:zaa}
theorem AW.mono {c:Code}(hc:AW P lo c Q ts h)(hq:∀e ts h,Q e ts h→Q' e ts h):AW P lo c Q' ts h:=
 fun F hF n μ a w ht r ro=>wpIn_mono (hc F hF n μ a w ht r ro) fun _ _ _ hl=>hl.mono (hq _)
theorem zc0.mono {f:FuncId}{args:List Value}{R R':Value→zaa→Prop}(hc:zc0 P lo f args h R)(hr:∀r h,R r h→R' r h):zc0 P lo f args h R':=
 fun F hF hro n μ w cargs ha r=>(hc F hF hro n μ w cargs ha r).mono fun _ _ ⟨r,v,h',μ',h1,h2,h3,h4,h5⟩=>⟨r,v,h',μ',h1,h2,h3,h4,hr _ _ h5⟩
theorem zgm.mono {o:Oper}{next next':Tmps→zaa→Prop}(hc:zgm P lo o ts h next)(hn:∀ts h,next ts h→next' ts h):zgm P lo o ts h next':=
 fun F hF n μ a w Q ht r=>Oper.wpIn_mono (fun _ _ hl=>hl.mono hn) (hc F hF n μ a w Q ht r)
theorem Lift.refl {μ:Mu}{a:Act}{w:World}{e:Exit}(ht:RelT μ ts a.tmps)(r:Rel μ lo h w)(hq:Q e ts h):Lift lo μ h w a.defers Q e a w:=
 ⟨ts,h,μ,ht,r,Frame.refl _ _ _ _,rfl,hq⟩
theorem AW.skip (hq:Q .normal ts h):AW P lo .skip Q ts h:=fun _ _ _ _ _ _ ht r _=>wpIn_skip (Lift.refl ht r hq).toM
theorem AW.label {l:Nat}(hq:Q .normal ts h):AW P lo (.label l) Q ts h:=fun _ _ _ _ _ _ ht r _=>wpIn_label (Lift.refl ht r hq).toM
theorem AW.exit {id:Nat}(hq:Q (.exit id) ts h):AW P lo (.exit id) Q ts h:=fun _ _ _ _ _ _ ht r _=>wpIn_exit (Lift.refl ht r hq).toM
theorem AW.ret (hq:Q .ret ts h):AW P lo .ret Q ts h:=fun _ _ _ _ _ _ ht r _=>wpIn_ret (Lift.refl ht r hq).toM
def ziw (next:Tmps→zaa→Prop)(Q:zev):zev
 |.normal=>next
 |e=>Q e
theorem AW.seq {x y:Code}(hx:AW P lo x (ziw (AW P lo y Q) Q) ts h):AW P lo (.seq x y) Q ts h:=by
 intro F hF n μ a w ht r ro
 refine wpIn_seq (wpIn_mono (hx F hF n μ a w ht r ro) fun e a' w' hl=>?_)
 obtain⟨ts',h',μ',ms,h2,h3,h4,h5,h6,h7⟩:=hl
 cases e with
 |normal=>
  have:=h7 F hF n μ' a' w' h2 h3 (ro.frame h4)
  rw[h5] at this
  exact wpIn_mono this fun _ _ _ hl=>hl.trans h4 h6
 |exit id=>exact⟨ts',h',μ',ms,h2,h3,h4,h5,h6,h7⟩
 |goto l=>exact⟨ts',h',μ',ms,h2,h3,h4,h5,h6,h7⟩
 |ret=>exact⟨ts',h',μ',ms,h2,h3,h4,h5,h6,h7⟩
 |panic ch=>exact⟨ts',h',μ',ms,h2,h3,h4,h5,h6,h7⟩
 |outgrown=>exact⟨ts',h',μ',ms,h2,h3,h4,h5,h6,h7⟩
theorem AW.cond {c:Operand}{x y:Code}{b:Bool}(hc:za7 ts c=some (.bool b))(hb:AW P lo (if b then x else y) Q ts h):AW P lo (.cond c x y) Q ts h:=by
 intro F hF n μ a w ht r ro
 have hr:=zan ht hc
 generalize he:a.eval c=v at hr
 cases hr
 exact wpIn_cond he (hb F hF n μ a w ht r ro)
def zb6 (id:Nat)(Q:zev):zev
 |.exit id'=>if id'=id then Q .normal else Q (.exit id')
 |e=>Q e
theorem AW.block {id:Nat}{c:Code}(hc:AW P lo c (zb6 id Q) ts h):AW P lo (.block id c) Q ts h:=by
 intro F hF n μ a w ht r ro
 refine wpIn_block (wpIn_mono (hc F hF n μ a w ht r ro) fun e a' w' hl=>?_)
 obtain⟨ts',h',μ',ms,h2,h3,h4,h5,h6,h7⟩:=hl
 cases e with
 |normal=>exact⟨ts',h',μ',ms,h2,h3,h4,h5,h6,h7⟩
 |exit id'=>
  simp only[Exit.inBlock]
  by_cases hi:id'=id
  ·simp only[zb6,hi,if_true] at h7 ⊢;exact⟨ts',h',μ',ms,h2,h3,h4,h5,h6,h7⟩
  simp only[zb6,hi,if_false] at h7 ⊢;exact⟨ts',h',μ',ms,h2,h3,h4,h5,h6,h7⟩
 |goto l=>exact⟨ts',h',μ',ms,h2,h3,h4,h5,h6,h7⟩
 |ret=>exact⟨ts',h',μ',ms,h2,h3,h4,h5,h6,h7⟩
 |panic ch=>exact⟨ts',h',μ',ms,h2,h3,h4,h5,h6,h7⟩
 |outgrown=>exact⟨ts',h',μ',ms,h2,h3,h4,h5,h6,h7⟩
def zgo (P:Program)(lo:Nat)(c:Code)(Q:zev):Nat→Tmps→zaa→Prop
 |0,_,_=>False
 |m+1,ts,h=>AW P lo c (ziw (zgo P lo c Q m) Q) ts h
theorem zgo.mono {c:Code}:∀ {m m':Nat} {ts:Tmps} {h:zaa},m≤m'→zgo P lo c Q m ts h→zgo P lo c Q m' ts h
 |0,_,_,_,_,hr=>hr.elim
 |m+1,0,_,_,hle,_=>by omega
 |m+1,m'+1,ts,h,hle,hr=>AW.mono hr fun e ts h hq=>by
  cases e with
  |normal=>exact zgo.mono (Nat.le_of_succ_le_succ hle) hq
  |_=>exact hq
theorem zot {c:Code}{F:Fence}(hF:Wide F){n:Nat}:∀(m:Nat) (ts:Tmps) (h:zaa) (μ0:Mu) (h0:zaa) (w0:World) (ds ms:List Deferred) (μ:Mu) (a:Act) (w:World),RelT μ ts a.tmps→Rel μ lo h w→zh4 F μ0 h0 w0→Frame lo μ0 h0 w0 μ h w→
  a.defers=ms++ds→zb5 w0.heap.size μ h w ms→zgo P lo c Q m ts h→Code.roundsIn F n P c (LiftM lo μ0 h0 w0 ds Q) m a w
 |0,_,_,_,_,_,_,_,_,_,_,_,_,_,_,_,_,hr=>hr.elim
 |m+1,ts,h,μ0,h0,w0,ds,ms,μ,a,w,ht,r,ro,f,hd,hm,hr=>by
  refine wpIn_mono (hr F hF n μ a w ht r (ro.frame f)) fun e a' w' hl=>?_
  rw[hd] at hl
  have hl2:=hl.trans f hm
  cases e with
  |normal=>
   obtain⟨ts',h',μ',ms',h2,h3,h4,h5,h6,h7⟩:=hl2
   exact zot (n:=n) hF m ts' h' μ0 h0 w0 ds ms' μ' a' w' h2 h3 ro h4 h5 h6 h7
  |exit id=>exact hl2
  |goto l=>exact hl2
  |ret=>exact hl2
  |panic ch=>exact hl2
  |outgrown=>exact hl2
theorem AW.zm7 {c:Code}(m:Nat)(hr:zgo P lo c Q m ts h):AW P lo (.loop c) Q ts h:=
 fun _ hF _ μ a w ht r ro=>wpIn_loop_rounds m (zot hF m ts h μ h w a.defers [] μ a w ht r ro (Frame.refl _ _ _ _) rfl trivial hr)
theorem AW.loop {c:Code}(I:Nat→Tmps→zaa→Prop)(m:Nat)(h0:I m ts h)(round:∀m ts h,I m ts h→AW P lo c (ziw (fun ts' h'=>∃m',m'<m∧I m' ts' h') Q) ts h):AW P lo (.loop c) Q ts h:=by
 have key:∀(m:Nat) (ts:Tmps) (h:zaa),I m ts h→zgo P lo c Q (m+1) ts h:=by
  intro m
  induction m using Nat.strongRecOn with
  |_ m ih=>
   intro ts h hI
   refine AW.mono (round m ts h hI) fun e ts' h' hq=>?_
   cases e with
   |normal=>
    obtain⟨m',hlt,hI'⟩:=hq
    exact zgo.mono (by omega) (ih m' hlt ts' h' hI')
   |_=>exact hq
 exact .zm7 (m+1) (key m ts h h0)
def aput (ts:Tmps)(dst:Option Tmp)(v:Value):Tmps:=
 match dst with
 |some d=>ts.set d v
 |none=>ts
theorem zek {μ:Mu}{a:Act}{v v':Value}(ht:RelT μ ts a.tmps)(hv:RelV μ v v')(dst:Option Tmp):RelT μ (aput ts dst v) (a.put dst v').tmps:=by
 cases dst with
 |none=>exact ht
 |some d=>
  have:=zas.set d ht hv
  simpa[RelT,aput,Act.put] using this
theorem put_defers (a:Act)(dst:Option Tmp)(v:Value):(a.put dst v).defers=a.defers:=by cases dst<;>rfl
theorem zc3 {o:Oper}{w:World}{ρ:Operand→Value}(F:Fence)(hF:Wide F):∀f,o.about P w ρ=some f→F.fn f:=fun f _=>hF.fn f
theorem zgm.op {o:Oper}{v:Value}{h':zaa}{next:Tmps→zaa→Prop}(ha:aop P lo ts h o.op=some (v,h'))(hn:next (aput ts o.dst v) h'):zgm P lo o ts h next:=by
 intro F hF n μ a w Q ht r
 refine⟨zc3 F hF,?_⟩
 have hnd:∀c,o.op≠.defer c:=fun c hc=>by rw[hc] at ha;simp[aop] at ha
 rw[Oper.semAt_eq _ _ _ hnd]
 obtain⟨nx,v',w',μ',h1,h2,h3,h4,h5⟩:=xaq (P:=P) r ht ha
 rw[h1]
 have hl:Lift lo μ h w a.defers (fun _=>next) .normal (a.put o.dst v') w':=
  ⟨_,h',μ',zek (ht.mono h5.le) h3 o.dst,h4,h5,put_defers _ _ _,hn⟩
 rcases h2 with rfl|⟨rfl,rfl⟩
 ·exact hl
 exact hl
theorem zgm.call {o:Oper}{fo:Operand}{args:Array Operand}{aT:Array TypeId}{f:FuncId}{first captured:Array Value}{l:List Value}{next:Tmps→zaa→Prop}(ho:o.op=.call ⟨.value fo,args,aT⟩)
  (hf:za7 ts fo=some (.func (.func f) first captured)) (hl:zea ts args.toList=some l) (hcf:∀as w,(callFunc f as).run P w=.ok (.enter f as) w)
  (hc:∀F,Wide F→F.round=none→∀n μ w cargs,zas μ (first.toList++l++captured.toList) cargs.toList→Rel μ lo h w→
   CallsIn F n P f cargs w fun e w'=>∃r v h' μ',e=.returned v∧RelV μ' r v∧Rel μ' lo h' w'∧Frame lo μ h w μ' h' w'∧next (aput ts o.dst r) h'):zgm P lo o ts h next:=by
 intro F hF n μ a w Q ht r
 refine⟨zc3 F hF,?_⟩
 rw[Oper.semAt_eq _ _ _ (fun c hc=>by rw[ho] at hc;cases hc)]
 have hfr:=zan ht hf
 generalize hfe:a.eval fo=fv at hfr
 cases hfr with
 |func _ _ _ first' captured' hx hy rx ry=>
  have hrun:(execOp a.eval o).run P w=.ok (.enter f (first'++args.map a.eval++captured')) w:=by
   simp only[execOp,ho,resolve,hfe,Deferred.ofValue,Sem.run_bind,Sem.run_pure,Result.andThen_ok,invoke,hcf]
  rw[hrun]
  refine⟨hF.one n,?_⟩
  have hargs:zas μ (first.toList++l++captured.toList) (first'++args.map a.eval++captured').toList:=by
   simp only[Array.toList_append,Array.toList_map]
   exact((zba.2 ⟨hx,rx⟩).append (zf1 ht hl)).append (zba.2 ⟨hy,ry⟩)
  have hpl:Wide F.plain:=⟨hF.fn,hF.depth,hF.alive⟩
  have hcall:CallsIn F (n - 1) P f (first'++args.map a.eval++captured') w _:=hc F.plain hpl rfl (n - 1) μ w _ hargs r
  refine hcall.mono fun e w' ⟨r',v,h',μ',h1,h2,h3,h4,h5⟩=>?_
  subst h1
  exact⟨_,h',μ',zek (ht.mono h4.le) h2 o.dst,h3,h4,put_defers _ _ _,h5⟩
theorem zgm.z1a {o:Oper}{fo:Operand}{args:Array Operand}{aT:Array TypeId}{f:FuncId}{first captured:Array Value}{l:List Value}{next:Tmps→zaa→Prop}(ho:o.op=.call ⟨.value fo,args,aT⟩)
  (hf:za7 ts fo=some (.func (.func f) first captured)) (hl:zea ts args.toList=some l) (hcf:∀as w,(callFunc f as).run P w=.ok (.enter f as) w)
  (hc:zc0 P lo f (first.toList++l++captured.toList) h fun r h'=>next (aput ts o.dst r) h'):zgm P lo o ts h next:=
 .call ho hf hl hcf hc
def za2 (ops:Array Oper)(ts:Tmps)(j:Nat):Option Bool:=
 match ((ops[j]?).bind (·.dst)).bind (ts[·]?) with
 |some (.bool b)=>some b
 |_=>none
theorem zob {μ:Mu}{a:Act}{ops:Array Oper}(ht:RelT μ ts a.tmps)(j:Nat):yielded ops a.tmps j=za2 ops ts j:=by
 unfold yielded za2
 cases hd:(ops[j]?).bind (·.dst) with
 |none=>rfl
 |some d=>
  simp only[Option.bind_some]
  cases hts:ts[d]? with
  |none=>
   have:a.tmps[d]?=none:=by
    rw[Array.getElem?_eq_none]
    have:=ht.1
    rw[List.getElem?_eq_none_iff] at hts
    simp at this;omega
   rw[this]
  |some v=>
   obtain⟨v',h1,h2⟩:=ht.2 d v hts
   have h1':a.tmps[d]?=some v':=by simpa using h1
   rw[h1']
   cases h2<;>rfl
def AOps (P:Program)(lo:Nat)(ops:Array Oper)(K:Tmps→zaa→Prop):List Nat→Tmps→zaa→Prop
 |[],ts,h=>K ts h
 |i::rest,ts,h=>
  match ops[i]? with
  |none=>AOps P lo ops K rest ts h
  |some o=>if Region.wanted o (za2 ops ts) then zgm P lo o ts h (AOps P lo ops K rest) else AOps P lo ops K rest (aput ts o.dst Go.undef) h
theorem zi7 {ops:Array Oper}{F:Fence}(hF:Wide F){n:Nat}:∀(l:List Nat) (ts:Tmps) (h:zaa) (μ0:Mu) (h0:zaa) (w0:World) (μ:Mu) (a:Act) (w:World),RelT μ ts a.tmps→Rel μ lo h w→Frame lo μ0 h0 w0 μ h w→
  AOps P lo ops (Q .normal) l ts h→wpOpsIn F n P ops (Lift lo μ0 h0 w0 a.defers Q) l a w
 |[],ts,h,μ0,h0,w0,μ,a,w,ht,r,f,hk=>⟨ts,h,μ,ht,r,f,rfl,hk⟩
 |i::rest,ts,h,μ0,h0,w0,μ,a,w,ht,r,f,hk=>by
  simp only[AOps] at hk
  simp only[wpOpsIn]
  cases ho:ops[i]? with
  |none=>simp only[ho] at hk ⊢;exact zi7 hF rest ts h μ0 h0 w0 μ a w ht r f hk
  |some o=>
   simp only[ho] at hk ⊢
   have hy:yielded ops a.tmps=za2 ops ts:=funext (zob ht)
   rw[hy]
   by_cases hw:Region.wanted o (za2 ops ts)=true
   ·simp only[hw,if_true] at hk ⊢
    refine Oper.wpIn_mono (fun a' w' hl=>?_) (hk F hF n μ a w _ ht r)
    obtain⟨ts',h',μ',h2,h3,h4,h5,h6⟩:=hl.trans f
    have:=zi7 (n:=n) hF rest ts' h' μ0 h0 w0 μ' a' w' h2 h3 h4 h6
    rw[h5] at this
    exact this
   simp only[hw,if_false,Bool.false_eq_true] at hk ⊢
   refine⟨zc3 F hF,?_⟩
   have:=zi7 (n:=n) hF rest (aput ts o.dst Go.undef) h μ0 h0 w0 μ (a.put o.dst Go.undef) w (zek ht .undef o.dst) r f hk
   rw[put_defers] at this
   exact this
theorem AW.region {id:Nat}{ops:Array Oper}(hk:AOps P lo ops (Q .normal) (List.range ops.size) ts h):AW P lo (.region id ops false) Q ts h:=
 fun _ hF _ μ a w ht r _=>wpIn_mono (wpIn_region (zi7 hF _ ts h μ h w μ a w ht r (Frame.refl _ _ _ _) hk)) fun _ _ _ hl=>hl.toM
def zhz (P:Program)(ts:Tmps)(h:zaa):ResultVar→Option Value
 |.tmp t=>some (ts.getD t Go.undef)
 |.cell a t=>zjd P h t (ts.getD a Go.undef)
def zd8 (P:Program)(ts:Tmps)(h:zaa):List ResultVar→Option (List Value)
 |[]=>some []
 |x::r=>match zhz P ts h x,zd8 P ts h r with
  |some v,some l=>some (v::l)
  |_,_=>none
def zd5 (l:List Value):Value:=
 match l with
 |[v]=>v
 |l=>.tuple l.toArray
def zhs (tmps:Array Value):ResultVar→Sem Value
 |.tmp t=>pure (tmps.getD t Go.undef)
 |.cell c t=>asAddr (tmps.getD c Go.undef) >>= fun ad=>loadVar t ad
theorem zv8 (fn:Func)(tmps:Array Value):results fn tmps=(fn.results.mapM (zhs tmps) >>= fun vs=>pure (if h:vs.size=1 then vs[0] else .tuple vs)):=by
 unfold results
 congr 1
theorem znc {μ:Mu}{a:Act}{w:World}(ht:RelT μ ts a.tmps)(r:Rel μ lo h w):∀ {rs:List ResultVar} {l:List Value},zd8 P ts h rs=some l→
  ∃l',(rs.mapM (zhs a.tmps)).run P w=.ok l' w∧zas μ l l'
 |[],l,hl=>by simp only[zd8,xfm] at hl;subst hl;exact⟨[],rfl,zas.nil μ⟩
 |x::rs,l,hl=>by
  simp only[zd8] at hl
  split at hl
  ·rename_i v l1 h1 h2
   simp only[xfm] at hl;subst hl
   obtain⟨l',g1,g2⟩:=znc ht r h2
   cases x with
   |tmp t=>
    simp only[zhz,xfm] at h1;subst h1
    exact⟨_::l',by simp only[List.mapM_cons,zhs,Sem.run_bind,Sem.run_pure,Result.andThen_ok,g1],.cons (ht.getD t) g2⟩
   |cell c t=>
    simp only[zhz] at h1
    obtain⟨v',w',μ',e1,e2,e3,e4⟩:=zo2 (P:=P) r (ht.getD c) h1
    have hcr:=ht.getD c
    generalize hce:a.tmps.getD c Go.undef=cv at hcr e1
    have h1b:=h1
    unfold zjd at h1b
    split at h1b
    ·rename_i o off heq
     rw[heq] at hcr
     cases hcr with
     |ptr _ _ b a0 C hm=>
      simp only[Instr.loadAt,Instr.sureAddr,Sem.run_bind,Sem.run_pure,Result.andThen_ok] at e1
      have ho:=zo2 (P:=P) r (RelV.ptr o off b a0 C hm) (heq▸h1)
      obtain⟨v2,w2,μ2,q1,q2,q3,q4⟩:=ho
      have hsame:∃v3,(loadVar t ⟨b,a0+off,none⟩).run P w=.ok v3 w∧RelV μ v v3:=by
       rw[heq] at h1
       unfold zjd at h1
       simp only at h1
       split at h1
       ·rename_i s cs hx
        have hobj:=ze0 r hx hm
        split at h1
        ·rename_i hg
         split at h1
         ·rename_i nn hn
          cases hle:Nat.ble (off+nn) cs.length with
          |false=>simp[hle] at h1
          |true=>
           simp only[hle,xfp,xfm] at h1;subst h1
           obtain⟨cs',k1,k2,k3⟩:=zif hobj off nn (by simpa using hle)
           have hl:=run_loadCells_list (P:=P) w _ cs' k3
           rw[k2] at hl
           exact⟨.agg cs'.toArray,by simp[loadVar,zii hg,zc6 hn,hl],.agg' k1⟩
         simp at h1
        ·rename_i hg
         obtain⟨v',k1,k2⟩:=hobj.2.1 off v h1
         exact⟨v',by simp[loadVar,zii hg,k1],k2⟩
        simp at h1
       simp at h1
      obtain⟨v3,k1,k2⟩:=hsame
      have hA:asAddr (.pointer (some ⟨b,a0+off,none⟩))=(pure ⟨b,a0+off,none⟩:Sem Addr):=rfl
      exact⟨v3::l',by simp only[List.mapM_cons,zhs,Sem.run_bind,hce,hA,Sem.run_pure,Result.andThen_ok,k1,g1],.cons k2 g2⟩
    simp at h1b
  simp at hl
theorem zwb {μ:Mu}{a:Act}{w:World}{fn:Func}{l:List Value}(ht:RelT μ ts a.tmps)(r:Rel μ lo h w)(hl:zd8 P ts h fn.results.toList=some l) :
  ∃v,(results fn a.tmps).run P w=.ok v w∧RelV μ (zd5 l) v:=by
 obtain⟨l',h1,h2⟩:=znc (P:=P) ht r hl
 have he:(fn.results.mapM (zhs a.tmps)).run P w=.ok l'.toArray w:=by
  rw[Array.mapM_eq_mapM_toList,Sem.run_map,h1,Result.andThen_ok]
 have hrun:(results fn a.tmps).run P w=.ok (if hs:l'.toArray.size=1 then l'.toArray[0] else .tuple l'.toArray) w:=by
  rw[zv8,Sem.run_bind,he,Result.andThen_ok,Sem.run_pure]
 refine⟨_,hrun,?_⟩
 cases l with
 |nil=>have:=h2.zcd;subst this;exact .tuple #[] #[] rfl (fun i h=>by simp at h)
 |cons v1 r1=>
  obtain⟨v1',r1',rfl,hv,hr⟩:=h2.zax
  cases r1 with
  |nil=>have:=hr.zcd;subst this;simpa[zd5] using hv
  |cons v2 r2=>
   obtain⟨v2',r2',rfl,hv2,hr2⟩:=hr.zax
   simpa[zd5] using RelV.tuple' h2
def retA (P:Program)(fn:Func)(R:Value→zaa→Prop):zev
 |.normal,ts,h=>∃l,zd8 P ts h fn.results.toList=some l∧R (zd5 l) h
 |.ret,ts,h=>∃l,zd8 P ts h fn.results.toList=some l∧R (zd5 l) h
 |_,_,_=>False
theorem zg7 {μ:Mu}{w:World}{b:Nat}(o:Obj)(r:Rel μ lo h w)(u:Unm μ h b):Rel μ lo h (w.putObj b o):=by
 have hk:∀o' x b' a C,h.get o'=some x→μ o'=some (b',a,C)→(w.putObj b o).heap[b']?=w.heap[b']?:=fun o' x b' a C hx hm=>
  World.putObj_heap_other (by rintro rfl;exact u o' x a C hx hm)
 refine⟨fun o' x hx=>?_,r.inj,r.dom,fun o' x b' a C hl hx hm off=>?_,r.lole⟩
 ·obtain⟨b',a,C,h1,h2⟩:=r.objs o' x hx
  exact⟨b',a,C,h1,h2.kept (hk o' x b' a C hx h1)⟩
 rw[zbn (hk o' x b' a C hx hm)]
 exact r.thaw o' x b' a C hl hx hm off
theorem zfr {μ μ':Mu}{h':zaa}{w w':World}{b:Nat}(o:Obj)(f:Frame lo μ h w μ' h' w')(hb:w.heap.size≤b∨Own μ lo h b):Frame lo μ h w μ' h' (w'.putObj b o):=
 ⟨f.le,by rw[World.putObj_size];exact f.size,f.next,fun b' hb' hn=>by
  rw[World.putObj_heap_other (by rintro rfl;exact hb.elim (fun h=>absurd hb' (by omega)) hn)]
  exact f.kept b' hb' hn,f.own,f.low,f.old,f.born,⟨f.calm.1,f.calm.2⟩⟩
theorem zb5.putObj {B:Nat}{μ:Mu}{w:World}{b:Nat}(o:Obj):∀ {ds:List Deferred},(∀d∈ds,d≠{ target:=.collected b,args:=#[] })→zb5 B μ h w ds→zb5 B μ h (w.putObj b o) ds
 |[],_,_=>trivial
 | d :: ds, hd, ⟨⟨r, h1, h2, h3, h4, h5⟩, hr⟩ => ⟨⟨r, h1, h2, by
  rw[World.putObj_heap_other (by rintro rfl;exact hd d (by simp) h1)];exact h3,h4,h5⟩,hr.putObj o (fun d' hd'=>hd d' (List.mem_cons_of_mem _ hd'))⟩
theorem zla {F:Fence}{n:Nat}{fn:Func}{μ0 μ:Mu}{h0:zaa}{w0:World}{tmps:Array Value}{R:Ending→World→Prop}:∀(ms:List Deferred) (w:World),zb5 w0.heap.size μ h w ms→Rel μ lo h w→Frame lo μ0 h0 w0 μ h w→
  (∀w',Rel μ lo h w'→Frame lo μ0 h0 w0 μ h w'→∃v,(results fn tmps).run P w'=.ok v w'∧R (.returned v) w')→LeavesInM F n P fn tmps R ms .returning w
 |[],w,_,r,f,hf=>hf w r f
 |d::ds,w,⟨⟨b,h1,h2,h3,h4,h5⟩,hr⟩,r,f,hf=>by
  refine⟨by simp,.inl ⟨b,w.putObj b (.deferred none),by rw[h1],run_takeDeferred h3,?_⟩⟩
  exact zla ds _ (hr.putObj _ (fun d' hd'=>by rw[← h1];exact h5 d' hd')) (zg7 _ r h4) (zfr _ f (.inl h2)) hf
theorem zc0.zah {f:FuncId}{fn:Func}{c:Code}{args:List Value}{R:Value→zaa→Prop}(hf:P.funcs[f]?=some fn)(hb:fn.body=some c)
  (hc:AW P lo c (retA P fn R) (args++List.replicate (fn.ntmps - args.length) Go.undef) h):zc0 P lo f args h R:=by
 intro F hF hro n μ w cargs ha r
 have hlen:cargs.size=args.length:=by have:=ha.1;simp at this;omega
 have ht:RelT μ (args++List.replicate (fn.ntmps - args.length) Go.undef) (cargs++Array.replicate (fn.ntmps - cargs.size) Go.undef):=by
  rw[hlen]
  simp only[RelT,Array.toList_append,Array.toList_replicate]
  refine ha.append ⟨by simp,fun i v hv=>⟨Go.undef,?_,?_⟩⟩
  ·have hi:i<fn.ntmps - args.length:=by
    rcases Nat.lt_or_ge i (fn.ntmps - args.length) with h|h
    ·exact h
    rw[List.getElem?_eq_none (by simpa using h)] at hv;simp at hv
   simp[hi]
  have:=List.mem_of_getElem? hv
  rw[List.mem_replicate] at this
  rw[this.2];exact .undef
 refine callsIn_of_wp_marks hf hb (hF.fn f) ?_ hro
 refine wpIn_mono (hc F hF n μ { tmps:=cargs++Array.replicate (fn.ntmps - cargs.size) Go.undef,defers:=[] } w ht r (.none hro)) fun e a' w' hl=>?_
 obtain⟨ts',h',μ',ms,h2,h3,h4,h5,h6,h7⟩:=hl
 have h5:a'.defers=ms:=by rw[h5,List.append_nil]
 have fin:(∃l,zd8 P ts' h' fn.results.toList=some l∧R (zd5 l) h')→LeavesInM F n P fn a'.tmps (fun e w'=>∃r v h' μ',e=.returned v∧RelV μ' r v∧Rel μ' lo h' w'∧Frame lo μ h w μ' h' w'∧R r h') a'.defers .returning w':=by
  rintro⟨l,hl,hR⟩
  rw[h5]
  refine zla ms w' h6 h3 h4 fun w2 r2 f2=>?_
  obtain⟨v,k1,k2⟩:=zwb (P:=P) h2 r2 hl
  exact⟨v,k1,_,v,h',μ',rfl,k2,r2,f2,hR⟩
 cases e with
 |normal=>exact fin h7
 |ret=>exact fin h7
 |exit id=>exact h7.elim
 |goto l=>exact h7.elim
 |panic ch=>exact h7.elim
 |outgrown=>exact h7.elim
theorem zl4 {μ:Mu}{v v':Value}(hs:zdg v=true)(h:RelV μ v v'):v'=v:=by
 unfold zdg at hs
 split at hs<;>first|cases hs;done|(cases h;rfl)
theorem zld {μ:Mu}{l l':List Value}(hs:l.all zdg=true)(h:zas μ l l'):l'=l:=by
 apply List.ext_getElem?
 intro i
 cases hi:l[i]? with
 |none=>
  rw[List.getElem?_eq_none_iff] at hi ⊢
  rw[← h.1];exact hi
 |some v=>
  obtain⟨v',h1,h2⟩:=h.2 i v hi
  rw[List.all_eq_true] at hs
  rw[h1,zl4 (hs v (List.mem_of_getElem? hi)) h2]
theorem zp2 {μ:Mu}{v v':Value}(hs:zen v=true)(h:RelV μ v v'):v'=v:=by
 unfold zen at hs
 split at hs
 ·obtain⟨cs',rfl,hc⟩:=h.zmw
  rw[Array.ext' (zld hs hc)]
 ·obtain⟨cs',rfl,hc⟩:=h.zqq
  rw[Array.ext' (zld hs hc)]
 exact zl4 hs h
end
end Go.Am
end
/-
 The abstract machine, part M: regions whose order is drawn. First: operations that make memory, at an identity chosen beforehand; what an operation looks at.
-/
section
namespace Go.Am
def zw6 (P:Program)(s:Sem Value)(μ:Mu)(w:World)(id:Nat)(v:Value)(x:AObj):Prop:=
 ∃ob v' C,s.run P w=.ok v' (w.alloc ob)∧(∀off,(w.alloc ob).frozen? ⟨w.heap.size,off,none⟩=false)∧
  ∀ν,μ.le ν→ν id=some (w.heap.size,0,C)→RelV ν v v'∧RelO ν (w.alloc ob) w.heap.size 0 C x
theorem zpw {ν:Mu}{w:World}{t:TypeId}{arr:Array Value}{cs:List Value}(h:zas ν cs arr.toList):RelO ν (w.alloc (.cells arr t)) w.heap.size 0 0 (.cells 0 cs):=by
 refine⟨by simp,fun i v hv=>?_,fun h0=>by omega⟩
 obtain⟨v',h1,h2⟩:=h.2 i v hv
 exact⟨v',by simpa using h1,h2⟩
def aopA (P:Program)(ts:Tmps)(id:Nat):Op→Option (Value×AObj)
 |.alloc t=>match zg8 P t with
  |some z=>some (.pointer (some ⟨id,0,none⟩),.cells 0 z)
  |none=>none
 |.box _ x=>match za7 ts x with
  |some v=>some (.pointer (some ⟨id,0,none⟩),.cells 0 v.cells.toList)
  |none=>none
 |.buildSlice t len parts=>match zgg ts parts.toList,zc8 P t with
  |some l,some (e,n)=>
   match zg8 P e with
   |some z=>
    bif Nat.beq z.length n&&Nat.ble (len*n) 16777216&&Nat.blt 0 n then
     match zj3 (fun i=>some (i*n,n)) (reps z len) l with
     |some cs=>some (.slice (some ⟨id,0,none⟩) len len,.cells 0 cs)
     |none=>none
    else none
   |none=>none
  |_,_=>none
 |.makeSlice t l c=>match za7 ts l,za7 ts c,zc8 P t with
  |some (.int .i64 (.ofNat l)),some (.int .i64 (.ofNat c)),some (e,n)=>
   match zg8 P e,(P.info? e).map (·.bytes) with
   |some z,some bytes=>
    bif Nat.beq z.length n&&Nat.ble l c&&Nat.ble (bytes*c) 281474976710656&&Nat.blt 0 n&&Nat.ble c 281474976710656 then
     some (.slice (some ⟨id,0,none⟩) l c,.cells 0 (reps z c))
    else none
   |_,_=>none
  |_,_,_=>none
 |.makeMap _ none=>some (.map (some id),.map [])
 |_=>none
def isA:Op→Bool
 |.alloc _|.box .. | .buildSlice .. | .makeSlice .. | .makeMap ..=>true
 |_=>false
theorem zmt {P:Program}{μ:Mu}{w:World}{id:Nat}{t:TypeId}{v v':Value}{s:Sem Value}(hs:s.run P w=.ok (.pointer (some ⟨w.heap.size,0,none⟩)) (w.alloc (.cells v'.cells t)))(hv:RelV μ v v') :
  zw6 P s μ w id (.pointer (some ⟨id,0,none⟩)) (.cells 0 v.cells.toList):=by
 refine⟨_,_,0,hs,fun off=>by simp,fun ν hν hid=>⟨?_,zpw (hv.cells.mono hν)⟩⟩
 have:=RelV.ptr id 0 w.heap.size 0 0 hid
 simpa using this
theorem z3r {P:Program}{μ:Mu}{w:World}{ts:Tmps}{a:Act}{id:Nat}{o:Oper}{v:Value}{x:AObj}(ht:RelT μ ts a.tmps)(ha:aopA P ts id o.op=some (v,x)) :
  ∃s:Sem Value,execOp a.eval o=(do pure (.value (← s)))∧zw6 P s μ w id v x:=by
 unfold aopA at ha
 split at ha
 all_goals (rename_i hop;try unfold execOp;try rw[hop])
 ·rename_i t
  split at ha
  ·rename_i z hz
   simp only[xfm,xfn] at ha;obtain⟨rfl,rfl⟩:=ha
   obtain⟨zv,h1,h2,h3⟩:=zez hz w
   refine⟨_,rfl,?_⟩
   have:=zmt (P:=P) (μ:=μ) (w:=w) (id:=id) (t:=t) (v:=zv) (v':=zv) (s:=Instr.alloc t true (.tuple #[])) (by simp[Instr.alloc,h1,newVar,newRow]) (.zfv h3)
   rwa [h2] at this
  simp at ha
 ·rename_i t y
  split at ha
  ·rename_i u hu
   simp only[xfm,xfn] at ha;obtain⟨rfl,rfl⟩:=ha
   exact⟨_,rfl,zmt (t:=t) (v':=a.eval y) (by simp[Instr.box,newVar,newRow]) (zan ht hu)⟩
  simp at ha
 ·rename_i t len parts
  split at ha
  ·rename_i l e n hl he
   obtain⟨hu,hn⟩:=zc2 he
   split at ha
   ·rename_i z hz
    obtain⟨zv,h1,h2,h3⟩:=zez hz w
    cases hc:(Nat.beq z.length n&&Nat.ble (len*n) 16777216&&Nat.blt 0 n) with
    |false=>rw[hc] at ha;simp at ha
    |true=>
     rw[hc] at ha
     simp only[xfp] at ha
     simp only[xfr] at hc
     obtain⟨⟨hc1,hc2⟩,hc3⟩:=hc
     have hc1:z.length=n:=by simpa using hc1
     have hc2:len*n≤16777216:=by simpa using hc2
     have hc3:0<n:=by rw[Nat.blt_eq] at hc3;exact hc3
     split at ha
     ·rename_i cs hf
      simp only[xfm,xfn] at ha
      obtain⟨rfl,rfl⟩:=ha
      have hzs:zv.cells.size=n:=by rw[← hc1,← h2];simp
      have hlen:len≤16777216:=Nat.le_trans (Nat.le_mul_of_pos_right len hc3) hc2
      have hrep:zas μ (reps z len) ((Array.range (len*n)).map (zv.cells[· % zv.cells.size]!)).toList:=by
       have:=range_zero zv.cells len
       rw[hzs] at this ⊢
       rw[this,h2]
       exact zin (h2▸zhj h3) len
      have hp:RelP μ l (parts.map fun (i,y)=>(i,a.eval y)).toList:=by simpa using zia ht hl
      obtain⟨out,h4,h5⟩:=zlz (μ:=μ) (fun i=>some (i*n,n)) l _ (reps z len) _ cs hp hrep hf
      have hcap:len=zcy 0 len:=by rw[zcr];unfold inex;omega
      refine⟨_,rfl,.cells out e,.slice (some ⟨w.heap.size,0,none⟩) len len,0,?_,fun off=>by simp,fun ν hν hid=>⟨?_,zpw (h5.mono hν)⟩⟩
      ·have hno:¬(len*n > 2 ^ 24):=by omega
       by_cases h0:len*n=0
       ·have hl0:len=0:=by
         rcases Nat.mul_eq_zero.1 h0 with h|h
         ·exact h
         omega
        subst hl0
        have hr0:Array.range 0=#[]:=rfl
        rw[Nat.zero_mul,hr0] at h4
        simp only[List.map_toArray,List.map_nil,Array.toList_map] at h4
        simp[Instr.buildSlice,run_underlying hu,zc6 hn,hr0,h4,newRow]
       simp only[Array.toList_map] at h4
       simp[Instr.buildSlice,run_underlying hu,zc6 hn,hno,h0,h1,h4,newRow]
      have:=RelV.slice id 0 len len w.heap.size 0 0 hid (Nat.le_of_eq hcap) (by unfold unk;omega)
      rwa [← hcap] at this
     simp at ha
   simp at ha
  simp at ha
 ·rename_i t l0 c0
  split at ha
  ·rename_i l c e n hl hcv he
   obtain⟨hu,hn⟩:=zc2 he
   have hlr:=zan ht hl
   have hcr:=zan ht hcv
   generalize hle:a.eval l0=lv at hlr
   generalize hce:a.eval c0=cv at hcr
   cases hlr
   cases hcr
   split at ha
   ·rename_i z bytes hz hb
    obtain⟨zv,h1,h2,h3⟩:=zez hz w
    cases hc:(Nat.beq z.length n&&Nat.ble l c&&Nat.ble (bytes*c) 281474976710656&&Nat.blt 0 n&&Nat.ble c 281474976710656) with
    |false=>rw[hc] at ha;simp at ha
    |true=>
     rw[hc] at ha
     simp only[xfp,xfm,xfn] at ha
     obtain⟨rfl,rfl⟩:=ha
     simp only[xfr] at hc
     obtain⟨⟨⟨⟨hc1,hc2⟩,hc3⟩,hc4⟩,hc5⟩:=hc
     have hc1:z.length=n:=by simpa using hc1
     have hc2:l≤c:=by simpa using hc2
     have hc3:bytes*c≤281474976710656:=by simpa using hc3
     have hc4:0<n:=by rw[Nat.blt_eq] at hc4;exact hc4
     have hc5:c≤281474976710656:=by simpa using hc5
     have hzs:zv.cells.size=n:=by rw[← hc1,← h2];simp
     have hwc:IntKind.i64.wrap (c:Int)=c:=zgd hc5
     have hwl:IntKind.i64.wrap (l:Int)=l:=zgd (by omega)
     have hrep:zas μ (reps z c) ((Array.range (c*n)).map (zv.cells[· % zv.cells.size]!)).toList:=by
      have:=range_zero zv.cells c
      rw[hzs] at this ⊢
      rw[this,h2]
      exact zin (h2▸zhj h3) c
     have hcap:c=zcy 0 c:=by rw[zcr];unfold inex;omega
     refine⟨_,rfl,.cells ((Array.range (c*n)).map (zv.cells[· % zv.cells.size]!)) e,.slice (some ⟨w.heap.size,0,none⟩) l c,0,?_,fun off=>by simp,fun ν hν hid=>⟨?_,zpw (hrep.mono hν)⟩⟩
     ·rw[hle,hce]
      cases hi:P.info? e with
      |none=>simp[hi] at hb
      |some i=>
       simp only[hi,Option.map_some,xfm] at hb
       subst hb
       have hti:(typeInfo e).run P w=.ok i w:=by simp[typeInfo,hi]
       have hbi:¬((281474976710656:Int)<(i.bytes:Int)*(c:Int)):=by
        have:((i.bytes*c:Nat):Int)≤((281474976710656:Nat):Int):=Int.ofNat_le.2 hc3
        rw[Int.natCast_mul] at this
        exact Int.not_lt.2 this
       have hlc:¬((c:Int)<(l:Int)):=by omega
       by_cases h0:c*n=0
       ·have hc0:c=0:=by
         rcases Nat.mul_eq_zero.1 h0 with h|h
         ·exact h
         omega
        subst hc0
        have hl0:l=0:=by omega
        subst hl0
        have hr0:Array.range 0=#[]:=rfl
        have hw0:IntKind.i64.wrap 0=0:=by decide
        simp[Instr.makeSlice,run_underlying hu,asInt,asIntOf,hti,zc6 hn,hw0,hr0,newRow]
       simp[Instr.makeSlice,run_underlying hu,asInt,asIntOf,hti,zc6 hn,hwc,hwl,hlc,h0,h1,newRow]
       rintro ((hh|hh)|hh)
       ·omega
       ·exact absurd hh hbi
       omega
     have:=RelV.slice id 0 l c w.heap.size 0 0 hid (by rw[← hcap];exact hc2) (by unfold unk;omega)
     rwa [← hcap] at this
   simp at ha
  simp at ha
 ·rename_i t
  simp only[xfm,xfn] at ha;obtain⟨rfl,rfl⟩:=ha
  refine⟨_,rfl,.map #[] 0,.map (some w.heap.size),0,by simp[Instr.makeMap],fun off=>by simp only[World.frozen?,heap_alloc];simp,fun ν hν hid=>⟨.map id _ _ hid,rfl,#[],0,by rw[heap_alloc];simp,⟨[],.nil,by simp,rfl,fun i p e h=>by simp at h,by simp,fun e h=>by simp at h⟩⟩⟩
 simp at ha
theorem zdx {ts ts':Tmps}:∀ {xs:List Operand},(∀x∈xs,za7 ts x=za7 ts' x)→zea ts xs=zea ts' xs
 |[],_=>rfl
 |x::r,h=>by simp only[zea,h x (by simp),zdx (fun y hy=>h y (List.mem_cons_of_mem _ hy))]
theorem zgk {ts ts':Tmps}:∀ {xs:List (Nat×Operand)},(∀x∈xs.map (·.2),za7 ts x=za7 ts' x)→zgg ts xs=zgg ts' xs
 |[],_=>rfl
 |(i,x)::r,h=>by simp only[zgg,h x (by simp),zgk (xs:=r) (fun y hy=>h y (by simp only[List.map_cons];exact List.mem_cons_of_mem _ hy))]
theorem zh3 {ts ts':Tmps}{x:Option Operand}(h:∀y∈x.toArray,za7 ts y=za7 ts' y):zg3 ts x=zg3 ts' x:=by
 cases x with
 |none=>rfl
 |some x=>simp only[zg3,h x (by simp)]
theorem zfp {P:Program}{lo:Nat}{ts ts':Tmps}{h:zaa}{op:Op}(he:∀x∈op.operands,za7 ts x=za7 ts' x):aop P lo ts h op=aop P lo ts' h op:=by
 cases op<;>simp only[Op.operands] at he<;>try rfl
 case move x=>simp only[aop,he x (by simp)]
 case assign x=>simp only[aop,he x (by simp)]
 case pick c a b=>simp only[aop,he c (by simp),he a (by simp),he b (by simp)]
 case box t x=>simp only[aop,he x (by simp)]
 case build t ps=>simp only[aop,zgk (ts:=ts) (ts':=ts') (xs:=ps.toList) (fun x hx=>he x (by simpa using hx))]
 case buildSlice t n ps=>simp only[aop,zgk (ts:=ts) (ts':=ts') (xs:=ps.toList) (fun x hx=>he x (by simpa using hx))]
 case load t x=>simp only[aop,he x (by simp)]
 case store t x y=>simp only[aop,he x (by simp),he y (by simp)]
 case nilCheck x=>simp only[aop,he x (by simp)]
 case binOp o t x y u=>simp only[aop,he x (by simp),he y (by simp)]
 case unOp o t x=>simp only[aop,he x (by simp)]
 case convert s d x=>simp only[aop,he x (by simp)]
 case makeFunc fn a b=>
  cases fn<;>try rfl
  simp only[aop,zdx (ts:=ts) (ts':=ts') (xs:=a.toList) (fun x hx=>he x (by simp at hx ⊢;exact .inl hx)),zdx (ts:=ts) (ts':=ts') (xs:=b.toList) (fun x hx=>he x (by simp at hx ⊢;exact .inr hx))]
 case makeMap t r=>cases r<;>rfl
 case makeSlice t x y=>simp only[aop,he x (by simp),he y (by simp)]
 case slice t x l u m=>
  simp only[aop,he x (by simp),zh3 (ts:=ts) (ts':=ts') (x:=l) (fun y hy=>he y (by simp at hy ⊢;simp[hy])),zh3 (ts:=ts) (ts':=ts') (x:=u) (fun y hy=>he y (by simp at hy ⊢;simp[hy])),
   zh3 (ts:=ts) (ts':=ts') (x:=m) (fun y hy=>he y (by simp at hy ⊢;simp[hy]))]
 case fieldAddr s x f=>simp only[aop,he x (by simp)]
 case field s x f=>simp only[aop,he x (by simp)]
 case indexAddr t x y=>simp only[aop,he x (by simp),he y (by simp)]
 case index t x y=>simp only[aop,he x (by simp),he y (by simp)]
 case lookup t x y ok=>simp only[aop,he x (by simp),he y (by simp)]
 case mapUpdate t x y z=>simp only[aop,he x (by simp),he y (by simp),he z (by simp)]
 case insert t x y z=>simp only[aop,he x (by simp),he y (by simp),he z (by simp)]
 case extract x i=>simp only[aop,he x (by simp)]
 case call c=>
  obtain⟨callee,args,aT⟩:=c
  cases callee<;>try rfl
  simp only[aop,zdx (ts:=ts) (ts':=ts') (xs:=args.toList) (fun x hx=>he x (by simp[Call.operands];simpa using hx))]
theorem zol {P:Program}{ts ts':Tmps}{id:Nat}{op:Op}(he:∀x∈op.operands,za7 ts x=za7 ts' x):aopA P ts id op=aopA P ts' id op:=by
 cases op<;>simp only[Op.operands] at he<;>try rfl
 case box t x=>simp only[aopA,he x (by simp)]
 case buildSlice t n ps=>simp only[aopA,zgk (ts:=ts) (ts':=ts') (xs:=ps.toList) (fun x hx=>he x (by simpa using hx))]
 case makeMap t r=>cases r<;>rfl
 case makeSlice t x y=>simp only[aopA,he x (by simp),he y (by simp)]
def isR:Op→Bool
 |.move _|.assign _|.pick .. | .build .. | .load .. | .nilCheck _|.binOp .. | .unOp .. | .convert .. | .makeFunc .. | .slice .. | .fieldAddr .. | .field .. | .indexAddr .. | .index .. | .lookup .. | .extract ..=>true
 |.call ⟨.builtin .len,_,_⟩|.call ⟨.builtin .cap,_,_⟩|.call ⟨.builtin .max,_,_⟩|.call ⟨.builtin .min,_,_⟩=>true
 |_=>false
def zaa.sub (h h':zaa):Prop:=∀o x,h.get o=some x→h'.get o=some x
theorem zv7 {P:Program}{h h':zaa}(hs:h.sub h'){t:TypeId}{p v:Value}(ha:zjd P h t p=some v):zjd P h' t p=some v:=by
 unfold zjd at ha ⊢
 split at ha
 ·split at ha
  ·rename_i hx;rw[hs _ _ hx];exact ha
  simp at ha
 simp at ha
theorem zqv {P:Program}{h h':zaa}(hs:h.sub h'){t:TypeId}{m k v:Value}{ok:Bool}(ha:zfs P h t m k ok=some v):zfs P h' t m k ok=some v:=by
 unfold zfs at ha ⊢
 split at ha
 ·split at ha
  ·cases m<;>try exact ha
   rename_i r
   cases r with
   |none=>exact ha
   |some o=>
    cases ho:h.get o with
    |none=>simp[ho] at ha
    |some x=>
     simp only[ho,hs o x ho] at ha ⊢
     exact ha
  simp at ha
 simp at ha
theorem zo8 {P:Program}{h h':zaa}(hs:h.sub h'){t:TypeId}{m v:Value}{xs:Array Value}{ok:Bool}(ha:zij P h t m xs ok=some v):zij P h' t m xs ok=some v:=by
 simp[zij] at ha
theorem zvu {P:Program}{h h':zaa}(hs:h.sub h'){t:TypeId}{m k v:Value}{ok:Bool}(ha:zn4 P h t m k ok=some v):zn4 P h' t m k ok=some v:=by
 unfold zn4 at ha ⊢
 split at ha
 ·exact zo8 hs ha
 exact zqv hs ha
theorem zr8 {P:Program}{h h':zaa}(hs:h.sub h'){t:TypeId}{x v:Value}(ha:zec P h t x=some v):zec P h' t x=some v:=by
 unfold zec at ha ⊢
 cases hu:P.underlying t with
 |none=>rw[hu] at ha;cases x<;>simp at ha
 |some d=>
  rw[hu] at ha
  cases d<;>cases x<;>try exact ha
  rename_i r
  cases r with
  |none=>exact ha
  |some o=>
   simp only at ha ⊢
   cases ho:h.get o with
   |none=>simp[ho] at ha
   |some y=>simp only[ho,hs o y ho] at ha ⊢;exact ha
theorem zns {P:Program}{lo:Nat}{h:zaa}{b:Builtin}{aT:List TypeId}{l:List Value}{v:Value}{h1:zaa}(hb:b=.len∨b=.cap∨b=.max∨b=.min)(ha:zcs P lo h b aT l=some (v,h1)) :
  h1=h∧∀h2,h.sub h2→zcs P lo h2 b aT l=some (v,h2):=by
 have fin0:∀ {o:Option Value},o.map (·,h)=some (v,h1)→h1=h∧∀h2:zaa,h.sub h2→o.map (·,h2)=some (v,h2):=fun {o} hm=>by
  obtain⟨u,h3,h4⟩:=zad hm
  simp only[xfn] at h4
  obtain⟨rfl,rfl⟩:=h4
  exact⟨rfl,fun h2 _=>by rw[h3];rfl⟩
 rcases hb with rfl|rfl|rfl|rfl
 ·rcases aT with _|⟨t,_|⟨u,r⟩⟩<;>rcases l with _|⟨x,_|⟨y,s⟩⟩<;>simp only[zcs] at ha ⊢ <;> try (simp at ha;done)
  obtain⟨u,h3,h4⟩:=zad ha
  simp only[xfn] at h4
  obtain⟨rfl,rfl⟩:=h4
  exact⟨rfl,fun h2 hs=>by rw[zr8 hs h3];rfl⟩
 ·rcases aT with _|⟨t,_|⟨u,r⟩⟩<;>rcases l with _|⟨x,_|⟨y,s⟩⟩<;>simp only[zcs] at ha ⊢ <;> try (simp at ha;done)
  exact fin0 ha
 ·rcases l with _|⟨x,s⟩<;>simp only[zcs] at ha ⊢ <;> try (simp at ha;done)
  exact fin0 ha
 rcases l with _|⟨x,s⟩<;>simp only[zcs] at ha ⊢ <;> try (simp at ha;done)
 exact fin0 ha
theorem zep {P:Program}{lo:Nat}{ts:Tmps}{h:zaa}{op:Op}{v:Value}{h1:zaa}(hr:isR op=true)(ha:aop P lo ts h op=some (v,h1)):h1=h∧∀h2,h.sub h2→aop P lo ts h2 op=some (v,h2):=by
 have fin:∀ {f:zaa→Option Value},(∀h2,h.sub h2→∀u,f h=some u→f h2=some u)→(f h).map (·,h)=some (v,h1)→h1=h∧∀h2,h.sub h2→(f h2).map (·,h2)=some (v,h2):=by
  intro f hf hm
  obtain⟨u,h3,h4⟩:=zad hm
  simp only[xfn] at h4
  obtain⟨rfl,rfl⟩:=h4
  exact⟨rfl,fun h2 hs=>by rw[hf h2 hs u h3];rfl⟩
 have fin0:∀ {o:Option Value},o.map (·,h)=some (v,h1)→h1=h∧∀h2,h.sub h2→o.map (·,h2)=some (v,h2):=fun {o} hm=>fin (f:=fun _=>o) (fun _ _ _ hu=>hu) hm
 cases op<;>simp only[isR,Bool.false_eq_true] at hr<;>simp only[aop] at ha ⊢
 case move x=>exact fin0 ha
 case assign x=>exact fin0 ha
 case pick c a b=>
  split at ha
  ·exact fin0 ha
  ·exact fin0 ha
  simp at ha
 case build t ps=>
  split at ha
  ·exact fin0 ha
  simp at ha
 case load t x=>
  split at ha
  ·exact fin (fun h2 hs u hu=>zv7 hs hu) ha
  simp at ha
 case nilCheck x=>
  split at ha
  ·exact fin0 ha
  simp at ha
 case binOp o t x y u=>
  split at ha
  ·exact fin0 ha
  simp at ha
 case unOp o t x=>
  split at ha
  ·exact fin0 ha
  simp at ha
 case convert s d x=>
  split at ha
  ·exact fin0 ha
  simp at ha
 case makeFunc fn a b=>
  cases fn<;>simp only at ha ⊢ <;> try (simp at ha)
  split at ha
  ·simp only[xfm,xfn] at ha;obtain⟨rfl,rfl⟩:=ha
   exact⟨rfl,fun h2 _=>rfl⟩
  simp at ha
 case slice t x l u m=>
  split at ha
  ·exact fin0 ha
  simp at ha
 case fieldAddr s x f=>
  split at ha
  ·exact fin0 ha
  simp at ha
 case field s x f=>
  split at ha
  ·exact fin0 ha
  simp at ha
 case indexAddr t x y=>
  split at ha
  ·exact fin0 ha
  simp at ha
 case index t x y=>
  split at ha
  ·exact fin0 ha
  simp at ha
 case lookup t x y ok=>
  split at ha
  ·exact fin (fun h2 hs u hu=>zvu hs hu) ha
  simp at ha
 case extract x i=>
  split at ha
  ·exact fin0 ha
  simp at ha
 case call c=>
  obtain⟨callee,args,aT⟩:=c
  cases callee with
  |builtin b=>
   simp only[aop] at ha ⊢
   split at ha
   ·rename_i l hl
    refine zns ?_ ha
    cases b<;>simp only[Bool.false_eq_true] at hr<;>simp
   simp at ha
  |value f=>simp at hr
  |invoke r m=>simp at hr
end Go.Am
end
/-
 The abstract machine, part N: regions whose order is drawn. Every order that the region may draw does what one order does.
-/
section
namespace Go.Am
def zaa.zbi:Nat→zaa→zaa
 |0,h=>h
 |k+1,h=>let g:=zaa.zbi k h;⟨g.next+1,g.tr.set none (g.next+1) g.next⟩
theorem zaa.zcu:∀(k:Nat) (h:zaa),(zaa.zbi k h).next=h.next+k
 |0,_=>rfl
 |k+1,h=>by simp only[zaa.zbi,zaa.zcu k h];omega
theorem zaa.zbq:∀(k:Nat) (h:zaa) (o:Nat),(zaa.zbi k h).get o=h.get o
 |0,_,_=>rfl
 |k+1,h,o=>by
  have ih:=zaa.zbq k h o
  have hn:=zaa.zcu k h
  rw[← ih]
  simp only[zaa.zbi,zaa.get_eq]
  rw[Tr.zr9 _ _ _ _ _ (by omega)]
  by_cases ho:o=(zaa.zbi k h).next
  ·subst ho;simp
  by_cases hl:o<(zaa.zbi k h).next
  ·have:o<(zaa.zbi k h).next+1:=by omega
   simp[ho,hl,this]
  have:¬o<(zaa.zbi k h).next+1:=by omega
  simp[hl,this]
theorem Rel.zbi {μ:Mu}{lo:Nat}{h:zaa}{w:World}(r:Rel μ lo h w)(k:Nat):Rel μ lo (zaa.zbi k h) w:=by
 refine⟨fun o x hx=>r.objs o x (by rwa [zaa.zbq] at hx),fun o o' x x' b a C a' C' hl hx hx'=>r.inj o o' x x' b a C a' C' hl (by rwa [zaa.zbq] at hx) (by rwa [zaa.zbq] at hx'),fun o x hx=>?_,
  fun o x b a C hl hx=>r.thaw o x b a C hl (by rwa [zaa.zbq] at hx),?_⟩
 ·have:=r.dom o x hx;rw[zaa.zcu];omega
 have:=r.lole;rw[zaa.zcu];omega
theorem Frame.zbi {μ:Mu}{lo:Nat}{h:zaa}{w:World}(k:Nat):Frame lo μ h w μ (zaa.zbi k h) w:=by
 refine⟨Mu.le_refl _,Nat.le_refl _,by rw[zaa.zcu];omega,fun _ _ _=>rfl,fun b _=>?_,fun o _=>zaa.zbq k h o,fun _ _=>rfl,fun o _ hn=>by rw[zaa.zbq];exact hn,.refl w⟩
 rintro⟨o,x,a,C,h1,h2,h3⟩
 exact⟨o,x,a,C,h1,by rwa [zaa.zbq] at h2,h3⟩
section
variable (base:Nat) (sl:Nat→Nat) (FO:Nat→Option AObj) (S:Nat→Bool)
def addF:List Nat→zaa→zaa
 |[],h=>h
 | i :: r, h => bif S i then match FO i with
   |some x=>(addF r h).put (base+sl i) (some x)
   |none=>addF r h
  else addF r h
variable {base sl FO S}
theorem zb7:∀(as:List Nat) (h:zaa),(addF base sl FO S as h).next=h.next
 |[],_=>rfl
 |i::r,h=>by
  simp only[addF]
  cases S i with
  |false=>exact zb7 r h
  |true=>
   cases FO i with
   |none=>exact zb7 r h
   |some x=>exact zb7 r h
theorem zei {as:List Nat}{h:zaa}{o:Nat}(hb:∀i∈as,base+sl i<h.next)(hm:∀i∈as,S i=true→FO i≠none→o≠base+sl i):(addF base sl FO S as h).get o=h.get o:=by
 induction as with
 |nil=>rfl
 |cons i r ih=>
  have ih:=ih (fun j hj=>hb j (List.mem_cons_of_mem _ hj)) (fun j hj=>hm j (List.mem_cons_of_mem _ hj))
  simp only[addF]
  cases hs:S i with
  |false=>exact ih
  |true=>
   cases hf:FO i with
   |none=>exact ih
   |some x=>
    simp only[xfp]
    rw[zaa.zaw _ _ _ _ (by rw[zb7];exact hb i (by simp)),if_neg (hm i (by simp) hs (by simp[hf]))]
    exact ih
theorem zgf {as:List Nat}{h:zaa}{i:Nat}{x:AObj}(hb:∀i∈as,base+sl i<h.next)(hinj:∀i∈as,∀j∈as,sl i=sl j→i=j)(hi:i∈as)(hs:S i=true)(hf:FO i=some x) :
  (addF base sl FO S as h).get (base+sl i)=some x:=by
 induction as with
 |nil=>cases hi
 |cons j r ih=>
  have ih:=ih (fun j hj=>hb j (List.mem_cons_of_mem _ hj)) (fun j hj k hk=>hinj j (List.mem_cons_of_mem _ hj) k (List.mem_cons_of_mem _ hk))
  simp only[addF]
  by_cases hij:i=j
  ·subst hij
   simp only[hs,hf,xfp]
   rw[zaa.zaw _ _ _ _ (by rw[zb7];exact hb i (by simp)),if_pos rfl]
  have hi':i∈r:=(List.mem_cons.1 hi).resolve_left hij
  cases hsj:S j with
  |false=>exact ih hi'
  |true=>
   cases hfj:FO j with
   |none=>exact ih hi'
   |some y=>
    simp only[xfp]
    rw[zaa.zaw _ _ _ _ (by rw[zb7];exact hb j (by simp)),if_neg]
    ·exact ih hi'
    intro h
    exact hij (hinj i hi j (by simp) (by omega))
theorem zq7 {as:List Nat}{h:zaa}{o:Nat}{x:AObj}(hb:∀i∈as,base+sl i<h.next)(hinj:∀i∈as,∀j∈as,sl i=sl j→i=j)(hx:(addF base sl FO S as h).get o=some x) :
  (∃i∈as,S i=true∧o=base+sl i∧FO i=some x)∨(h.get o=some x∧∀i∈as,S i=true→FO i≠none→o≠base+sl i):=by
 by_cases he:∃i∈as,S i=true∧FO i≠none∧o=base+sl i
 ·obtain⟨i,hi,hs,hf,rfl⟩:=he
  cases hfi:FO i with
  |none=>exact absurd hfi hf
  |some y=>
   rw[zgf hb hinj hi hs hfi] at hx
   exact .inl ⟨i,hi,hs,rfl,by rw[hfi,hx]⟩
 have hm:∀i∈as,S i=true→FO i≠none→o≠base+sl i:=fun i hi hs hf ho=>he ⟨i,hi,hs,hf,ho⟩
 rw[zei hb hm] at hx
 exact .inr ⟨hx,hm⟩
end
theorem zje (ts:Tmps)(d:Option Tmp)(v:Value):(aput ts d v).length=ts.length:=by cases d<;>simp[aput]
theorem zf8 {ts:Tmps}{d:Option Tmp}{v:Value}{t:Nat}(h:d≠some t):(aput ts d v)[t]?=ts[t]?:=by
 cases d with
 |none=>rfl
 |some d=>simp only[aput];rw[List.getElem?_set_ne];intro hh;exact h (by rw[hh])
theorem znv {ts ts':Tmps}{d:Option Tmp}{v v':Value}{t:Nat}(hl:ts.length=ts'.length)(h:ts[t]?=ts'[t]?)(hv:d=some t→v=v'):(aput ts d v)[t]?=(aput ts' d v')[t]?:=by
 by_cases hd:d=some t
 ·subst hd
  rw[hv rfl]
  simp only[aput,List.getElem?_set,if_true,hl]
 rw[zf8 hd,zf8 hd];exact h
theorem zy9 (ts:Tmps){d e:Option Tmp}(v u:Value)(h:∀t,d=some t→e≠some t):aput (aput ts d v) e u=aput (aput ts e u) d v:=by
 cases d with
 |none=>rfl
 |some d=>
  cases e with
  |none=>rfl
  |some e=>
   have:d≠e:=fun hh=>h d rfl (by rw[hh])
   simp only[aput]
   rw[List.set_comm _ _ this]
def zki (ops:Array Oper)(i:Nat):Option Tmp:=(ops[i]?).bind (·.dst)
def tsF (ops:Array Oper)(V:Nat→Value)(S:Nat→Bool)(ts0:Tmps):Nat→Tmps
 |0=>ts0
 |n+1=>bif S n then aput (tsF ops V S ts0 n) (zki ops n) (V n) else tsF ops V S ts0 n
section
variable {ops:Array Oper} {V V':Nat→Value} {S S':Nat→Bool} {ts0:Tmps}
theorem zk2:∀n,(tsF ops V S ts0 n).length=ts0.length
 |0=>rfl
 |n+1=>by simp only[tsF];cases S n<;>simp[zje,zk2 n]
theorem ze8:∀ {n},(∀i<n,S i=S' i)→(∀i<n,S i=true→V i=V' i)→tsF ops V S ts0 n=tsF ops V' S' ts0 n
 |0,_,_=>rfl
 |n+1,h,hv=>by
  simp only[tsF]
  rw[← h n (by omega),ze8 (fun i hi=>h i (by omega)) (fun i hi=>hv i (by omega))]
  cases hs:S n with
  |false=>rfl
  |true=>rw[hv n (by omega) hs]
theorem zp6 {t:Nat}:∀ {n},(∀j<n,zki ops j=some t→S j=S' j∧(S j=true→V j=V' j))→(tsF ops V S ts0 n)[t]?=(tsF ops V' S' ts0 n)[t]?
 |0,_=>rfl
 |n+1,h=>by
  have ih:=zp6 (n:=n) (fun j hj=>h j (by omega))
  simp only[tsF]
  by_cases hd:zki ops n=some t
  ·obtain⟨h1,h2⟩:=h n (by omega) hd
   rw[← h1]
   cases hs:S n with
   |false=>exact ih
   |true=>exact znv (by rw[zk2,zk2]) ih (fun _=>h2 hs)
  have e:∀(b:Bool) (v:Value) (ts:Tmps),(bif b then aput ts (zki ops n) v else ts)[t]?=ts[t]?:=fun b v ts=>by
   cases b
   ·rfl
   exact zf8 hd
  rw[e,e];exact ih
theorem zzb {i:Nat}:∀ {n},i<n→S i=false→(∀j,i<j→j<n→S j=true→∀t,zki ops i=some t→zki ops j≠some t)→
  tsF ops V (fun j=>S j||Nat.beq j i) ts0 n=aput (tsF ops V S ts0 n) (zki ops i) (V i)
 |0,h,_,_=>by omega
 |n+1,h,hs,hd=>by
  simp only[tsF]
  by_cases hi:i=n
  ·subst hi
   have:tsF ops V (fun j=>S j||Nat.beq j i) ts0 i=tsF ops V S ts0 i:=by
    refine ze8 (fun j hj=>?_) (fun _ _ _=>rfl)
    have:Nat.beq j i=false:=by rw[Bool.eq_false_iff];intro hh;have:=xfs hh;omega
    simp[this]
   rw[this,hs]
   simp
  have hb:Nat.beq n i=false:=by rw[Bool.eq_false_iff];intro hh;have:=xfs hh;omega
  rw[zzb (n:=n) (by omega) hs (fun j h1 h2=>hd j h1 (by omega)),hb,Bool.or_false]
  cases hsn:S n with
  |false=>rfl
  |true=>exact zy9 _ _ _ (hd n (by omega) (by omega) hsn)
end
def zn7 (ops:Array Oper)(o:Oper)(ts ts':Tmps):Prop:=∀t∈o.looksAt ops,ts[t]?=ts'[t]?
theorem zn7.eval {ops:Array Oper}{o:Oper}{ts ts':Tmps}(h:zn7 ops o ts ts'):∀x∈o.op.operands,za7 ts x=za7 ts' x:=by
 intro x hx
 cases x with
 |tmp t=>
  have:=h t (List.mem_append_left _ (List.mem_filterMap.2 ⟨.tmp t,by simpa using hx,rfl⟩))
  simp only[za7,List.getD_eq_getElem?_getD,this]
 |_=>rfl
theorem zn7.wanted {ops:Array Oper}{o:Oper}{ts ts':Tmps}(h:zn7 ops o ts ts'):Region.wanted o (za2 ops ts)=Region.wanted o (za2 ops ts'):=by
 unfold Region.wanted
 cases hg:o.guard with
 |none=>rfl
 |some gw=>
  obtain⟨g,wt⟩:=gw
  have:za2 ops ts g=za2 ops ts' g:=by
   unfold za2
   cases hd:(ops[g]?).bind (·.dst) with
   |none=>rfl
   |some d=>
    simp only[Option.bind_some]
    rw[h d (List.mem_append_right _ (by simp[hg,hd]))]
  simp only[this]
end Go.Am
end
/-
 The abstract machine, part O: a region that draws its order does what one order does.
-/
section
namespace Go.Am
theorem Frame.ext {lo:Nat}{μ μ':Mu}{h h1 h2:zaa}{w w':World}(f:Frame lo μ h w μ' h1 w')(hg:∀o,h2.get o=h1.get o)(hn:h1.next=h2.next):Frame lo μ h w μ' h2 w' where
  le:=f.le
  size:=f.size
  next:=hn▸f.next
  kept:=f.kept
  own b hb:=by
    rintro⟨o,x,a,C,k1,k2,k3⟩
    exact f.own b hb ⟨o,x,a,C,k1,by rw[← hg];exact k2,k3⟩
  low o ho:=by rw[hg,f.low o ho]
  old:=f.old
  born o ho hx:=by rw[hg,f.born o ho hx]
  calm:=f.calm
theorem Rel.ext {μ:Mu}{lo:Nat}{h h':zaa}{w:World}(r:Rel μ lo h w)(hg:∀o,h'.get o=h.get o)(hn:h.next=h'.next):Rel μ lo h' w:=
 r.sub (Nat.le_of_eq hn) (fun o x hx=>by rw[← hg];exact hx) (Nat.le_refl _) (hn▸r.lole)
theorem zrf {μ:Mu}{lo:Nat}{h:zaa}{w:World}(r:Rel μ lo h w){id:Nat}(hid:id<h.next)(hl:lo≤id)(hg:h.get id=none)(hm:μ id=none)(ob:Obj)(C:Nat)(x:AObj)
  (hx:RelO (μ.put id (w.heap.size,0,C)) (w.alloc ob) w.heap.size 0 C x) (hf:∀off,(w.alloc ob).frozen? ⟨w.heap.size,off,none⟩=false) :
  μ.le (μ.put id (w.heap.size,0,C))∧Rel (μ.put id (w.heap.size,0,C)) lo (h.put id (some x)) (w.alloc ob)∧
  ∀μ0 h0 w0,Frame lo μ0 h0 w0 μ h w→h0.next≤id→Frame lo μ0 h0 w0 (μ.put id (w.heap.size,0,C)) (h.put id (some x)) (w.alloc ob):=by
 have hle:μ.le (μ.put id (w.heap.size,0,C)):=by
  intro o y hy
  have:o≠id:=by intro ho;subst ho;rw[hm] at hy;cases hy
  rw[Mu.zaj _ this];exact hy
 have hblk:∀o y b a C',h.get o=some y→μ o=some (b,a,C')→b<w.heap.size:=fun o y b a C' hy hm=>by
  obtain⟨b',a',C'',h1,h2⟩:=r.objs o y hy
  rw[hm] at h1;injection h1 with h1;injection h1 with h1 _;subst h1
  exact h2.zcq
 refine⟨hle,⟨?_,?_,?_,?_,?_⟩,fun μ0 h0 w0 f hb=>?_⟩
 ·intro o y hy
  rw[zaa.zaw _ _ _ _ hid] at hy
  by_cases ho:o=id
  ·subst ho
   simp at hy;subst hy
   exact⟨_,_,_,Mu.zaf _ _ _,hx⟩
  simp[ho] at hy
  obtain⟨b,a,C',h1,h2⟩:=r.objs o y hy
  exact⟨b,a,C',by rw[Mu.zaj _ ho];exact h1,(h2.mono hle).kept (heap_alloc_old _ _ h2.zcq)⟩
 ·intro o o' y y' b a C' a' C'' hl hy hy' hm hm'
  rw[zaa.zaw _ _ _ _ hid] at hy hy'
  by_cases ho:o=id
  ·by_cases ho':o'=id
   ·rw[ho,ho']
   simp[ho'] at hy'
   rw[Mu.zaj _ ho'] at hm'
   have:=hblk o' y' _ _ _ hy' hm'
   subst ho;rw[Mu.zaf] at hm;injection hm with hm;injection hm with hm _;omega
  simp[ho] at hy
  rw[Mu.zaj _ ho] at hm
  have h1:=hblk o y _ _ _ hy hm
  by_cases ho':o'=id
  ·subst ho';rw[Mu.zaf] at hm';injection hm' with hm';injection hm' with hm' _;omega
  simp[ho'] at hy'
  rw[Mu.zaj _ ho'] at hm'
  exact r.inj o o' y y' b a C' a' C'' hl hy hy' hm hm'
 ·intro o y hy
  by_cases ho:o=id
  ·subst ho;simpa using hid
  rw[Mu.zaj _ ho] at hy
  have:=r.dom o y hy
  simpa using this
 ·intro o y b a C' hl hy hm off
  rw[zaa.zaw _ _ _ _ hid] at hy
  by_cases ho:o=id
  ·subst ho
   rw[Mu.zaf] at hm;injection hm with hm;injection hm with hm _;subst hm
   exact hf off
  simp[ho] at hy
  rw[Mu.zaj _ ho] at hm
  rw[zbn (heap_alloc_old _ _ (hblk o y _ _ _ hy hm))]
  exact r.thaw o y b a C' hl hy hm off
 ·exact r.lole
 refine⟨Mu.le_trans f.le hle,Nat.le_trans f.size (by simp),f.next,fun b hb hn=>?_,fun b hb=>?_,fun o ho=>?_,fun o ho=>?_,fun o ho hn=>?_,⟨f.calm.1,f.calm.2⟩⟩
 ·rw[heap_alloc_old _ _ (Nat.lt_of_lt_of_le hb f.size)];exact f.kept b hb hn
 ·rintro⟨o,y,a,C',hl,hy,hm⟩
  rw[zaa.zaw _ _ _ _ hid] at hy
  by_cases ho:o=id
  ·subst ho;rw[Mu.zaf] at hm;injection hm with hm;injection hm with hm _
   have:=f.size;omega
  simp[ho] at hy
  rw[Mu.zaj _ ho] at hm
  exact f.own b hb ⟨o,y,a,C',hl,hy,hm⟩
 ·rw[zaa.zaw _ _ _ _ hid,if_neg (by omega)];exact f.low o ho
 ·rw[Mu.zaj _ (by omega)];exact f.old o ho
 rw[zaa.zaw _ _ _ _ hid,if_neg (by omega)];exact f.born o ho hn
theorem z1f {μ μ':Mu}{lo:Nat}{h hm h' hj:zaa}{w w':World}(r:Rel μ lo h w)(hn:hm.next=h.next)(hs:∀o x,hm.get o=some x→h.get o=some x)
  (hlow:∀o,o<lo→hm.get o=h.get o)
  (r':Rel μ' lo h' w') (f:Frame lo μ hm w μ' h' w') (hjn:hj.next=h'.next)
  (hj1:∀o,hj.get o=h'.get o∨(lo≤o∧hm.get o=none∧∃x,h.get o=some x∧hj.get o=some x)) :
  Rel μ' lo hj w'∧Frame lo μ h w μ' hj w':=by
 have aside:∀o x b a C,lo≤o→hm.get o=none→h.get o=some x→μ o=some (b,a,C)→¬Own μ lo hm b:=by
  rintro o x b a C hlo h0 hx hmu ⟨o',x',a',C',k1,k2,k3⟩
  have:=r.inj o o' x x' b a C a' C' hlo hx (hs _ _ k2) hmu k3
  subst this
  rw[h0] at k2;cases k2
 have big:∀ {o x},hj.get o=some x→h'.get o=some x∨(lo≤o∧hm.get o=none∧h.get o=some x):=fun {o x} hx=>by
  rcases hj1 o with h1|⟨h1,h2,y,h3,h4⟩
  ·exact .inl (by rw[← h1];exact hx)
  rw[h4] at hx;injection hx with hx;subst hx;exact .inr ⟨h1,h2,h3⟩
 have blk:∀ {o x},lo≤o→hm.get o=none→h.get o=some x→∃b a C,μ o=some (b,a,C)∧μ' o=some (b,a,C)∧b<w.heap.size∧w'.heap[b]?=w.heap[b]?∧RelO μ w b a C x:=fun {o x} h1 h2 h3=>by
  obtain⟨b,a,C,k1,k2⟩:=r.objs o x h3
  exact⟨b,a,C,k1,f.le _ _ k1,k2.zcq,f.kept b k2.zcq (aside o x b a C h1 h2 h3 k1),k2⟩
 have cross:∀ {o o' x x' b a C a' C'},h'.get o=some x→lo≤o'→hm.get o'=none→h.get o'=some x'→μ' o=some (b,a,C)→μ' o'=some (b,a',C')→o=o':=fun {o o' x x' b a C a' C'} k1 k2 k3 k4 k5 k6=>by
  obtain⟨b2,a2,C2,g1,g2,g3,g4,_⟩:=blk k2 k3 k4
  rw[k6] at g2
  have hbe:b=b2:=by injection g2 with g2;injection g2
  subst hbe
  by_cases hl:lo≤o
  ·exact absurd (f.own b g3 ⟨o,x,a,C,hl,k1,k5⟩) (aside o' x' b a2 C2 k2 k3 k4 g1)
  have hl:o<lo:=by omega
  have hx:h.get o=some x:=by rw[← hlow o hl,← f.low o hl];exact k1
  have hlt:=zaa.zai hx
  have hmo:μ o=some (b,a,C):=by rw[← f.old o (by omega)];exact k5
  exact(r.inj o' o x' x b a2 C2 a C k2 k4 hx g1 hmo).symm
 refine⟨⟨fun o x hx=>?_,fun o o' x x' b a C a' C' hl hx hx' hm1 hm2=>?_,fun o x hx=>hjn▸r'.dom o x hx,fun o x b a C hl hx hm1 off=>?_,hjn▸r'.lole⟩,
  ⟨f.le,f.size,?_,fun b hb hnw=>f.kept b hb (fun⟨o,x,a,C,k1,k2,k3⟩=>hnw ⟨o,x,a,C,k1,hs _ _ k2,k3⟩),fun b hb=>?_,fun o ho=>?_,fun o ho=>f.old o (by omega),fun o ho hx=>?_,f.calm⟩⟩
 ·rcases big hx with h1|⟨h1,h2,h3⟩
  ·exact r'.objs o x h1
  obtain⟨b,a,C,g1,g2,g3,g4,g5⟩:=blk h1 h2 h3
  exact⟨b,a,C,g2,(g5.mono f.le).kept g4⟩
 ·rcases big hx with h1|⟨h1,h2,h3⟩
  ·rcases big hx' with k1|⟨k1,k2,k3⟩
   ·exact r'.inj o o' x x' b a C a' C' hl h1 k1 hm1 hm2
   exact cross h1 k1 k2 k3 hm1 hm2
  rcases big hx' with k1|⟨k1,k2,k3⟩
  ·exact(cross k1 h1 h2 h3 hm2 hm1).symm
  obtain⟨b1,a1,C1,g1,g2,_⟩:=blk h1 h2 h3
  obtain⟨b2,a2,C2,l1,l2,_⟩:=blk k1 k2 k3
  rw[hm1] at g2;rw[hm2] at l2
  injection g2 with g2;injection g2 with g2 _
  injection l2 with l2;injection l2 with l2 _
  subst g2;subst l2
  exact r.inj o o' x x' b a1 C1 a2 C2 hl h3 k3 g1 l1
 ·rcases big hx with h1|⟨h1,h2,h3⟩
  ·exact r'.thaw o x b a C hl h1 hm1 off
  obtain⟨b1,a1,C1,g1,g2,g3,g4,g5⟩:=blk h1 h2 h3
  rw[hm1] at g2;injection g2 with g2;injection g2 with g2 _;subst g2
  rw[zbn g4]
  exact r.thaw o x b a1 C1 hl h3 g1 off
 ·rw[hjn,← hn];exact f.next
 ·rintro⟨o,x,a,C,k1,k2,k3⟩
  rcases big k2 with h1|⟨h1,h2,h3⟩
  ·obtain⟨o2,x2,a2,C2,g1,g2,g3⟩:=f.own b hb ⟨o,x,a,C,k1,h1,k3⟩
   exact⟨o2,x2,a2,C2,g1,hs _ _ g2,g3⟩
  obtain⟨b1,a1,C1,g1,g2,_⟩:=blk h1 h2 h3
  rw[k3] at g2;injection g2 with g2;injection g2 with g2 _;subst g2
  exact⟨o,x,a1,C1,h1,h3,g1⟩
 ·rcases hj1 o with h1|⟨h1,_⟩
  ·rw[h1,f.low o ho,hlow o ho]
  omega
 rcases hj1 o with h1|⟨h1,h2,y,h3,h4⟩
 ·rw[h1]
  refine f.born o (by omega) ?_
  cases hq:hm.get o with
  |none=>rfl
  |some z=>rw[hs _ _ hq] at hx;cases hx
 rw[hx] at h3;cases h3
structure zpy (ops:Array Oper) (b:Nat→Nat→Bool) (W As:List Nat) (sl:Nat→Nat) (nA:Nat):Prop where
  lt:∀i j,b i j=true→i<j
  edge:∀j o,ops[j]?=some o→∀e∈o.after,Region.binds .any e=true→e.on<j
  clo:∀i j o,ops[j]?=some o→b i j=true→∃e∈o.after,Region.binds .any e=true∧(e.on=i∨b i e.on=true)
  chain:W.Pairwise (fun w w'=>b w w'=true)
  wlt:∀w∈W,w<ops.size
  alt:∀i∈As,i<ops.size
  aw:∀i∈As,i∉W
  asl:∀i∈As,sl i<nA
  ainj:∀i∈As,∀j∈As,sl i=sl j→i=j
  names:∀i j oi oj,ops[i]?=some oi→ops[j]?=some oj→i<j→oi.apart ops oj=true∨b i j=true
section
variable (P:Program) (lo:Nat) (ops:Array Oper) (b:Nat→Nat→Bool) (W As:List Nat) (sl:Nat→Nat) (base:Nat) (ts0:Tmps) (Q:zev)
def PC1 (V:Nat→Value)(FO:Nat→Option AObj)(M:Nat→Bool)(H:zaa)(m:Nat)(o:Oper):Prop:=
  let tsm:=tsF ops V (fun j=>b j m) ts0 ops.size
  (Region.wanted o (za2 ops tsm)=true∧
    ((isR o.op=true∧m∉As∧FO m=none∧∃h1,aop P lo tsm (addF base sl FO (fun i=>b i m&&!M i) As H) o.op=some (V m,h1))∨
     (∃x,m∈As∧FO m=some x∧aopA P tsm (base+sl m) o.op=some (V m,x))))∨
  (Region.wanted o (za2 ops tsm)=false∧V m=Go.undef∧FO m=none)
def PC (Wrem:List Nat)(last:Option Nat)(V:Nat→Value)(FO:Nat→Option AObj)(M:Nat→Bool)(H:zaa):Prop:=
 ∀m o,ops[m]?=some o→m∉W→(∀w∈Wrem,b w m=false)→(∀l,last=some l→b m l=false)→PC1 P lo ops b As sl base ts0 V FO M H m o
def Ext (Wrem:List Nat)(V V':Nat→Value)(FO FO':Nat→Option AObj):Prop:=
 ∀i,i<ops.size→i∉Wrem→(∀w∈Wrem,b w i=false)→V' i=V i∧FO' i=FO i
def DR:List Nat→Option Nat→(Nat→Value)→(Nat→Option AObj)→(Nat→Bool)→zaa→Prop
 |[],last,V,FO,M,H=>PC P lo ops b W As sl base ts0 [] last V FO M H∧Q .normal (tsF ops V (fun _=>true) ts0 ops.size) (addF base sl FO (fun i=>!M i) As H)
 | wr :: r, last, V, FO, M, H => PC P lo ops b W As sl base ts0 (wr :: r) last V FO M H ∧ ∀ o, ops[wr]? = some o →
   (Region.wanted o (za2 ops (tsF ops V (fun j=>b j wr) ts0 ops.size))=true→∀ts,zn7 ops o ts (tsF ops V (fun j=>b j wr) ts0 ops.size)→
    zgm P lo o ts (addF base sl FO (fun i=>b i wr&&!M i) As H) (fun ts' h'=>∃V' FO',Ext ops b (wr::r) V V' FO FO'∧ts'=aput ts o.dst (V' wr)∧DR r (some wr) V' FO' (fun i=>M i||b i wr) h'))∧
   (Region.wanted o (za2 ops (tsF ops V (fun j=>b j wr) ts0 ops.size))=false→∃V' FO',Ext ops b (wr::r) V V' FO FO'∧V' wr=Go.undef∧DR r (some wr) V' FO' M H)
def Lf (listed:Array Bool):Nat→Bool:=fun j=>listed.getD j false
structure DInv (nA:Nat) (μ0:Mu) (h0:zaa) (w0:World) (ds:List Deferred) (Wrem:List Nat) (last:Option Nat) (V:Nat→Value) (FO:Nat→Option AObj) (M:Nat→Bool) (H:zaa) (listed:Array Bool) (μ:Mu) (a:Act) (w:World):Prop where
  sz:listed.size=ops.size
  closed:∀i j,b i j=true→Lf listed j=true→Lf listed i=true
  wr:∃done,done++Wrem=W∧(∀w∈done,Lf listed w=true)∧(∀w∈Wrem,Lf listed w=false)
  las:∀l,last=some l→Lf listed l=true
  mer:∀i,M i=true→Lf listed i=true
  ht:RelT μ (tsF ops V (Lf listed) ts0 ops.size) a.tmps
  hr:Rel μ lo (addF base sl FO (fun i=>Lf listed i&&!M i) As H) w
  fr:Frame lo μ0 h0 w0 μ (addF base sl FO (fun i=>Lf listed i&&!M i) As H) w
  un:∀i∈As,Lf listed i=false→μ (base+sl i)=none
  ds:a.defers=ds
  hn:base+nA≤H.next
  hH:∀i∈As,M i=false→H.get (base+sl i)=none
  hlo:lo≤base
  hb:h0.next≤base
end
theorem z9p {listed:Array Bool}{i:Nat}(hi:i<listed.size):Lf (listed.setIfInBounds i true)=fun j=>Lf listed j||Nat.beq j i:=by
 funext j
 unfold Lf
 by_cases h:i=j
 ·subst h;simp[hi]
 rw[getD_set_ne false h]
 have:Nat.beq j i=false:=by rw[Bool.eq_false_iff];intro hh;exact h (xfs hh).symm
 simp[this]
def unl (listed:Array Bool):Nat→Nat
 |0=>0
 |n+1=>(bif listed.getD n true then 0 else 1)+unl listed n
theorem zw2 {listed:Array Bool}{i:Nat}:∀ {n},i<n→i<listed.size→listed.getD i true=false→unl listed n=unl (listed.setIfInBounds i true) n+1
 |0,h,_,_=>by omega
 |n+1,h,hs,hi=>by
  simp only[unl]
  by_cases hin:i=n
  ·subst hin
   have e:∀m,m≤i→unl (listed.setIfInBounds i true) m=unl listed m:=by
    intro m hm
    induction m with
    |zero=>rfl
    |succ m ih=>simp only[unl];rw[ih (by omega),getD_set_ne true (by omega)]
   rw[e i (Nat.le_refl _),hi]
   have:(listed.setIfInBounds i true).getD i true=true:=by simp[hs]
   rw[this]
   simp only[xfp,xfq];omega
  rw[zw2 (n:=n) (by omega) hs hi,getD_set_ne true hin];omega
theorem zvb {listed:Array Bool}:∀ {n},unl listed n=0→∀i<n,listed.getD i true=true
 |0,_,i,h=>by omega
 |n+1,h,i,hi=>by
  simp only[unl] at h
  cases hl:listed.getD n true with
  |false=>simp only[hl,xfq] at h;omega
  |true=>
   by_cases hin:i=n
   ·subst hin;exact hl
   exact zvb (n:=n) (by simp only[hl,xfp] at h;omega) i (by omega)
theorem zeq {base:Nat}{sl:Nat→Nat}{FO FO':Nat→Option AObj}{S S':Nat→Bool}:∀ {as:List Nat} {h:zaa},(∀k∈as,(bif S k then FO k else none)=(bif S' k then FO' k else none))→addF base sl FO S as h=addF base sl FO' S' as h
 |[],_,_=>rfl
 |i::r,h,hc=>by
  have ih:=zeq (base:=base) (sl:=sl) (as:=r) (h:=h) (fun k hk=>hc k (List.mem_cons_of_mem _ hk))
  have h0:=hc i (by simp)
  have e:∀(S:Nat→Bool) (FO:Nat→Option AObj),addF base sl FO S (i::r) h=(match (bif S i then FO i else none) with|some x=>(addF base sl FO S r h).put (base+sl i) (some x)|none=>addF base sl FO S r h):=fun S FO=>by
   simp only[addF]
   cases S i<;>rfl
  rw[e,e,h0,ih]
section
variable {P:Program} {lo:Nat} {ops:Array Oper} {b:Nat→Nat→Bool} {W As:List Nat} {sl:Nat→Nat} {nA base:Nat} {ts0:Tmps} {Q:zev}
theorem DR.pc {Wrem:List Nat}{last:Option Nat}{V:Nat→Value}{FO:Nat→Option AObj}{M:Nat→Bool}{H:zaa}(h:DR P lo ops b W As sl base ts0 Q Wrem last V FO M H):PC P lo ops b W As sl base ts0 Wrem last V FO M H:=by
 cases Wrem with
 |nil=>exact h.1
 |cons _ _=>exact h.1
theorem ztp (st:zpy ops b W As sl nA){L:Nat→Bool}{V:Nat→Value}{i:Nat}{o:Oper}(ho:ops[i]?=some o)(hi:L i=false)(hp:∀j,b j i=true→L j=true)(hc:∀i j,b i j=true→L j=true→L i=true) :
  zn7 ops o (tsF ops V L ts0 ops.size) (tsF ops V (fun j=>b j i) ts0 ops.size):=by
 intro t ht
 refine zp6 fun j hj hd=>?_
 suffices h:L j=b j i by exact⟨h,fun _=>rfl⟩
 obtain⟨oj,hoj⟩:∃oj,ops[j]?=some oj:=⟨ops[j],by simp[hj]⟩
 have hdj:oj.dst=some t:=by simpa[zki,hoj] using hd
 rcases Nat.lt_trichotomy j i with h|h|h
 ·have hb:b j i=true:=by
   rcases st.names j i oj o hoj ho h with h1|h1
   ·exact absurd ht ((Oper.apart_spec h1).1 t hdj)
   exact h1
  rw[hb,hp j hb]
 ·subst h
  rw[hi]
  cases hb:b j j with
  |false=>rfl
  |true=>have:=st.lt _ _ hb;omega
 have hb:b i j=true:=by
  rcases st.names i j o oj ho hoj h with h1|h1
  ·exact absurd ht ((Oper.apart_spec h1).2.2 t hdj)
  exact h1
 have h1:L j=false:=by
  cases hl:L j with
  |false=>rfl
  |true=>rw[hc _ _ hb hl] at hi;cases hi
 rw[h1]
 cases hb2:b j i with
 |false=>rfl
 |true=>have:=st.lt _ _ hb2;omega
theorem zo9 (st:zpy ops b W As sl nA){L:Nat→Bool}{V:Nat→Value}{i:Nat}{o:Oper}(ho:ops[i]?=some o)(hi:L i=false)(hc:∀i j,b i j=true→L j=true→L i=true) :
  tsF ops V (fun j=>L j||Nat.beq j i) ts0 ops.size=aput (tsF ops V L ts0 ops.size) o.dst (V i):=by
 have hlt:i<ops.size:=(Array.getElem?_eq_some_iff.1 ho).1
 have hd:zki ops i=o.dst:=by simp[zki,ho]
 rw[← hd]
 refine zzb hlt hi fun j h1 h2 hl t ht hjt=>?_
 obtain⟨oj,hoj⟩:∃oj,ops[j]?=some oj:=⟨ops[j],by simp[h2]⟩
 rcases st.names i j o oj ho hoj h1 with h3|h3
 ·exact(Oper.apart_spec h3).2.1 t (by rw[← hd];exact ht) (by simpa[zki,hoj] using hjt)
 rw[hc _ _ h3 hl] at hi;cases hi
theorem ze2 {i j:Nat}(h:j≠i):Nat.beq j i=false:=by
 rw[Bool.eq_false_iff];intro hh;exact h (xfs hh)
theorem DInv.advance (st:zpy ops b W As sl nA){μ0:Mu}{h0:zaa}{w0:World}{ds:List Deferred}{Wrem Wrem':List Nat}{last last':Option Nat}{V V':Nat→Value}{FO FO':Nat→Option AObj}{M M':Nat→Bool}{H H':zaa}{listed:Array Bool}{μ μ':Mu}{a a':Act}{w w':World}{i:Nat}{o:Oper}
  (d:DInv lo ops b W As sl base ts0 nA μ0 h0 w0 ds Wrem last V FO M H listed μ a w) (ho:ops[i]?=some o) (hi:Lf listed i=false) (hp:∀j,b j i=true→Lf listed j=true)
  (hwr:(Wrem'=Wrem∧i∉W)∨Wrem=i::Wrem') (hlast:last'=last∨last'=some i) (hM:∀j,M' j=true→M j=true∨b j i=true) (hV:∀j,Lf listed j=true→V' j=V j)
  (ht:RelT μ' (aput (tsF ops V (Lf listed) ts0 ops.size) o.dst (V' i)) a'.tmps) (hds:a'.defers=ds)
  (hr:Rel μ' lo (addF base sl FO' (fun j=>(Lf listed j||Nat.beq j i)&&!M' j) As H') w') (fr:Frame lo μ0 h0 w0 μ' (addF base sl FO' (fun j=>(Lf listed j||Nat.beq j i)&&!M' j) As H') w')
  (un:∀j∈As,Lf listed j=false→j≠i→μ' (base+sl j)=none) (hn:base+nA≤H'.next) (hH:∀j∈As,M' j=false→H'.get (base+sl j)=none) :
  DInv lo ops b W As sl base ts0 nA μ0 h0 w0 ds Wrem' last' V' FO' M' H' (listed.setIfInBounds i true) μ' a' w':=by
 have hlt:i<ops.size:=(Array.getElem?_eq_some_iff.1 ho).1
 have hlf:=z9p (listed:=listed) (i:=i) (by rw[d.sz];exact hlt)
 have hself:Nat.beq i i=true:=Nat.beq_refl i
 obtain⟨done,hdone,hd1,hd2⟩:=d.wr
 refine⟨by simpa using d.sz,fun p q hpq hq=>?_,?_,fun l hl=>?_,fun j hj=>?_,?_,by rw[hlf];exact hr,by rw[hlf];exact fr,fun j hj hl=>?_,hds,hn,hH,d.hlo,d.hb⟩
 ·rw[hlf] at hq ⊢
  simp only[Bool.or_eq_true] at hq ⊢
  left
  rcases hq with hq|hq
  ·exact d.closed p q hpq hq
  rw[xfs hq] at hpq;exact hp p hpq
 ·rcases hwr with⟨rfl,hiW⟩|hwr
  ·refine⟨done,hdone,fun w hw=>by rw[hlf];simp[hd1 w hw],fun w hw=>?_⟩
   have:w≠i:=by rintro rfl;exact hiW (hdone▸List.mem_append_right _ hw)
   rw[hlf];simp[hd2 w hw,ze2 this]
  refine⟨done++[i],by rw[← hdone,hwr];simp,fun w hw=>?_,fun w hw=>?_⟩
  ·rw[hlf]
   rcases List.mem_append.1 hw with h|h
   ·simp[hd1 w h]
   have:w=i:=by simpa using h
   subst this;simp
  have hch:=st.chain
  rw[← hdone,hwr,List.pairwise_append] at hch
  have hb:=(List.pairwise_cons.1 hch.2.1).1 w hw
  have:=st.lt _ _ hb
  rw[hlf];simp[hd2 w (by rw[hwr];exact List.mem_cons_of_mem _ hw),ze2 (show w≠i by omega)]
 ·rw[hlf]
  rcases hlast with h|h
  ·simp[d.las l (by rw[← h];exact hl)]
  rw[h] at hl;injection hl with hl;subst hl;simp
 ·rw[hlf]
  rcases hM j hj with h|h
  ·simp[d.mer j h]
  simp[hp j h]
 ·rw[hlf,zo9 st ho hi d.closed]
  rw[ze8 (V':=V) (S':=Lf listed) (fun _ _=>rfl) (fun j _ hl=>hV j hl)]
  exact ht
 rw[hlf] at hl
 simp only[Bool.or_eq_false_iff] at hl
 exact un j hj hl.1 (by rintro rfl;rw[hself] at hl;cases hl.2)
theorem xem (st:zpy ops b W As sl nA){F:Fence}(hF:Wide F){n:Nat}{μ0:Mu}{h0:zaa}{w0:World}{ds:List Deferred} :
  ∀(fuel:Nat) (listed:Array Bool) (Wrem:List Nat) (last:Option Nat) (V:Nat→Value) (FO:Nat→Option AObj) (M:Nat→Bool) (H:zaa) (μ:Mu) (a:Act) (w:World),
   DInv lo ops b W As sl base ts0 nA μ0 h0 w0 ds Wrem last V FO M H listed μ a w→DR P lo ops b W As sl base ts0 Q Wrem last V FO M H→unl listed ops.size=fuel→
   wpAnyIn F n P .any ops (Lift lo μ0 h0 w0 ds Q) fuel listed a w:=by
 intro fuel
 have fin:∀(listed:Array Bool) (Wrem:List Nat) (last:Option Nat) (V:Nat→Value) (FO:Nat→Option AObj) (M:Nat→Bool) (H:zaa) (μ:Mu) (a:Act) (w:World),
   DInv lo ops b W As sl base ts0 nA μ0 h0 w0 ds Wrem last V FO M H listed μ a w→DR P lo ops b W As sl base ts0 Q Wrem last V FO M H→Region.ready .any ops listed=[]→Lift lo μ0 h0 w0 ds Q .normal a w:=by
  intro listed Wrem last V FO M H μ a w d hD hr0
  have hall:∀i,i<ops.size→Lf listed i=true:=by
   intro i
   induction i using Nat.strongRecOn with
   |_ i ih=>
    intro hi
    cases hl:Lf listed i with
    |true=>rfl
    |false=>
     have:i∈Region.ready .any ops listed:=by
      refine mem_ready.2 ⟨?_,ops[i],by simp[hi],fun e he hb=>?_⟩
      ·unfold Lf at hl
       have:i<listed.size:=by rw[d.sz];exact hi
       simp[this] at hl ⊢;exact hl
      have:=st.edge i ops[i] (by simp[hi]) e he hb
      exact ih e.on this (by omega)
     rw[hr0] at this;cases this
  cases Wrem with
  |cons w1 r=>
   obtain⟨done,hdone,hd1,hd2⟩:=d.wr
   have h1:=hd2 w1 (by simp)
   rw[hall w1 (st.wlt w1 (by rw[← hdone];simp))] at h1;cases h1
  |nil=>
   have e1:tsF ops V (fun _=>true) ts0 ops.size=tsF ops V (Lf listed) ts0 ops.size:=ze8 (fun i hi=>(hall i hi).symm) (fun _ _ _=>rfl)
   have e2:addF base sl FO (fun i=>!M i) As H=addF base sl FO (fun i=>Lf listed i&&!M i) As H:=zeq fun k hk=>by rw[hall k (st.alt k hk)];simp
   refine⟨_,_,μ,d.ht,d.hr,d.fr,d.ds,?_⟩
   rw[← e1,← e2];exact hD.2
 induction fuel with
 |zero=>
  intro listed Wrem last V FO M H μ a w d hD hu
  have hr0:Region.ready .any ops listed=[]:=by
   rw[List.eq_nil_iff_forall_not_mem]
   intro i hi
   obtain⟨h1,o,ho,_⟩:=mem_ready.1 hi
   rw[zvb hu i (Array.getElem?_eq_some_iff.1 ho).1] at h1;cases h1
  exact⟨hr0,fin listed Wrem last V FO M H μ a w d hD hr0⟩
 |succ fuel ih=>
  intro listed Wrem last V FO M H μ a w d hD hu
  refine⟨fin listed Wrem last V FO M H μ a w d hD,fun i hi=>?_⟩
  obtain⟨hun,o,ho,hall⟩:=mem_ready.1 hi
  have hlt:i<ops.size:=(Array.getElem?_eq_some_iff.1 ho).1
  have hils:i<listed.size:=by rw[d.sz];exact hlt
  have hil:Lf listed i=false:=by unfold Lf;simp[hils] at hun ⊢;exact hun
  have hp:∀j,b j i=true→Lf listed j=true:=fun j hj=>by
   obtain⟨e,he,hb,h1⟩:=st.clo j i o ho hj
   rcases h1 with rfl|h1
   ·exact hall e he hb
   exact d.closed j e.on h1 (hall e he hb)
  have hu':unl (listed.setIfInBounds i true) ops.size=fuel:=by have:=zw2 hlt hils hun;omega
  have hag:=ztp (ts0:=ts0) st (V:=V) ho hil hp d.closed
  have hy:yielded ops a.tmps=za2 ops (tsF ops V (Lf listed) ts0 ops.size):=funext (zob d.ht)
  have hbd:∀j∈As,base+sl j<H.next:=fun j hj=>by have:=st.asl j hj;have:=d.hn;omega
  obtain⟨done,hdone,hd1,hd2⟩:=d.wr
  unfold wpOpIn
  simp only[ho,hy]
  by_cases hiW:i∈W
  · -- a writer
   have hirem:i∈Wrem:=by
    rw[← hdone] at hiW
    rcases List.mem_append.1 hiW with h|h
    ·rw[hd1 i h] at hil;cases hil
    exact h
   have hhead:∃r,Wrem=i::r:=by
    cases Wrem with
    |nil=>cases hirem
    |cons w1 r=>
     rcases List.mem_cons.1 hirem with rfl|h
     ·exact⟨r,rfl⟩
     have hch:=st.chain
     rw[← hdone,List.pairwise_append] at hch
     have:=hp w1 ((List.pairwise_cons.1 hch.2.1).1 i h)
     rw[hd2 w1 (by simp)] at this;cases this
   obtain⟨r,rfl⟩:=hhead
   have hiA:i∉As:=fun h=>st.aw i h hiW
   have lfl:∀j,Lf listed j=true→j<ops.size:=fun j hj=>by
    rcases Nat.lt_or_ge j ops.size with h|h
    ·exact h
    unfold Lf at hj
    have:¬j<listed.size:=by rw[d.sz];omega
    simp[this] at hj
   have known:∀j,Lf listed j=true→j∉i::r∧∀w∈i::r,b w j=false:=fun j hj=>by
    refine⟨fun h=>(by rw[hd2 j h] at hj;cases hj),fun w hw=>?_⟩
    cases hb:b w j with
    |false=>rfl
    |true=>have:=d.closed w j hb hj;rw[hd2 w hw] at this;cases this
   obtain⟨_,hstep⟩:=hD
   obtain⟨hs1,hs2⟩:=hstep o ho
   by_cases hw:Region.wanted o (za2 ops (tsF ops V (Lf listed) ts0 ops.size))=true
   ·simp only[hw,if_true]
    rw[hag.wanted] at hw
    have hA:=hs1 hw _ hag
    have hmin:∀o' x,(addF base sl FO (fun k=>b k i&&!M k) As H).get o'=some x→(addF base sl FO (fun k=>Lf listed k&&!M k) As H).get o'=some x:=by
     intro o' x hx
     rcases zq7 hbd st.ainj hx with⟨k,hk,hs,rfl,hf⟩|⟨hx,_⟩
     ·simp only[xfr] at hs
      exact zgf hbd st.ainj hk (by simp only[hp k hs.1,hs.2,Bool.and_self]) hf
     rw[zei hbd];· exact hx
     ·rintro k hk hs _ rfl
      simp only[xfr,Bool.not_eq_true'] at hs
      rw[d.hH k hk hs.2] at hx;cases hx
    have hrm:Rel μ lo (addF base sl FO (fun k=>b k i&&!M k) As H) w:=d.hr.sub (by rw[zb7,zb7];exact Nat.le_refl _) hmin (Nat.le_refl _) (by have:=d.hr.lole;rw[zb7] at this ⊢;exact this)
    refine Oper.wpIn_mono (fun a' w' hl=>?_) (hA F hF n μ a w _ d.ht hrm)
    obtain⟨ts',h',μ',ht',hr',fr',hds,V',FO',hext,rfl,hD'⟩:=hl
    have hlow:∀(S:Nat→Bool) o',o'<lo→(addF base sl FO S As H).get o'=H.get o':=fun S o' ho'=>zei hbd (fun k hk _ _=>by have:=d.hlo;omega)
    have hnx:H.next≤h'.next:=by have:=fr'.next;rwa [zb7] at this
    have hbd':∀j∈As,base+sl j<h'.next:=fun j hj=>by have:=hbd j hj;omega
    have hj:=z1f (hj:=addF base sl FO' (fun j=>(Lf listed j||Nat.beq j i)&&!(M j||b j i)) As h') d.hr (by rw[zb7,zb7]) hmin (fun o' ho'=>by rw[hlow _ o' ho',hlow _ o' ho']) hr' fr' (by rw[zb7]) (fun o'=>by
     by_cases he:∃j∈As,((Lf listed j||Nat.beq j i)&&!(M j||b j i))=true∧FO' j≠none∧o'=base+sl j
     ·obtain⟨j,hjA,hs,hf,rfl⟩:=he
      have hji:j≠i:=by rintro rfl;exact hiA hjA
      cases hfj:FO' j with
      |none=>exact absurd hfj hf
      |some x=>
       have hhit:=zgf (h:=h') (S:=fun j=>(Lf listed j||Nat.beq j i)&&!(M j||b j i)) hbd' st.ainj hjA hs hfj
       simp only[ze2 hji,Bool.or_false,xfr,Bool.not_eq_true',Bool.or_eq_false_iff] at hs
       have hk:=known j hs.1
       have hFO:FO j=some x:=by rw[← (hext j (lfl j hs.1) hk.1 hk.2).2,hfj]
       refine .inr ⟨by have:=d.hlo;omega,?_,x,zgf hbd st.ainj hjA (by simp only[hs.1,hs.2.1];rfl) hFO,hhit⟩
       rw[zei hbd];· exact d.hH j hjA hs.2.1
       ·intro k hk hsk _ heq
        have:=st.ainj j hjA k hk (by omega)
        subst this
        simp[hs.2.2] at hsk
     exact .inl (zei hbd' fun k hk hs hf heq=>he ⟨k,hk,hs,hf,heq⟩))
    refine ih _ r (some i) V' FO' (fun j=>M j||b j i) h' μ' a' w' (d.advance st ho hil hp (.inr rfl) (.inr rfl) (fun j hj=>by simpa using hj) (fun j hj=>(hext j (lfl j hj) (known j hj).1 (known j hj).2).1) ht' (by rw[hds,d.ds]) hj.1 (d.fr.trans hj.2) ?_ (by have:=d.hn;omega) ?_) hD' hu'
    ·intro j hj hl hji
     rw[fr'.old _ (by rw[zb7];exact hbd j hj)]
     exact d.un j hj hl
    intro j hj hm
    simp only[Bool.or_eq_false_iff] at hm
    refine fr'.born _ (by rw[zb7];exact hbd j hj) ?_
    rw[zei hbd];· exact d.hH j hj hm.1
    ·intro k hk hsk _ heq
     have:=st.ainj j hj k hk (by omega)
     subst this
     simp[hm.2] at hsk
   simp only[hw,if_false,Bool.false_eq_true]
   rw[hag.wanted,Bool.not_eq_true] at hw
   obtain⟨V',FO',hext,hv,hD'⟩:=hs2 hw
   refine⟨zc3 F hF,?_⟩
   have e:addF base sl FO (fun k=>Lf listed k&&!M k) As H=addF base sl FO' (fun j=>(Lf listed j||Nat.beq j i)&&!M j) As H:=zeq fun k hk=>by
    have hki:k≠i:=by rintro rfl;exact hiA hk
    simp only[ze2 hki,Bool.or_false]
    cases hl:Lf listed k with
    |false=>rfl
    |true=>rw[(hext k (lfl k hl) (known k hl).1 (known k hl).2).2]
   refine ih _ r (some i) V' FO' M H μ _ w (d.advance st ho hil hp (.inr rfl) (.inr rfl) (fun j hj=>.inl hj) (fun j hj=>(hext j (lfl j hj) (known j hj).1 (known j hj).2).1) ?_ (by rw[put_defers];exact d.ds) (e▸d.hr) (e▸d.fr) (fun j hj hl _=>d.un j hj hl) d.hn d.hH) hD' hu'
   rw[hv];exact zek d.ht .undef o.dst
  · -- no writer
   have hk1:∀w∈Wrem,b w i=false:=fun w1 hw1=>by
    cases hb:b w1 i with
    |false=>rfl
    |true=>have:=hp w1 hb;rw[hd2 w1 hw1] at this;cases this
   have hk2:∀l,last=some l→b i l=false:=fun l hl=>by
    cases hb:b i l with
    |false=>rfl
    |true=>rw[d.closed i l hb (d.las l hl)] at hil;cases hil
   have hpc:=hD.pc i o ho hiW hk1 hk2
   have same:FO i=none→addF base sl FO (fun k=>Lf listed k&&!M k) As H=addF base sl FO (fun j=>(Lf listed j||Nat.beq j i)&&!M j) As H:=fun hf=>zeq fun k hk=>by
    by_cases hki:k=i
    ·subst hki
     rw[hf]
     cases (Lf listed k&&!M k)<;>cases ((Lf listed k||Nat.beq k k)&&!M k)<;>rfl
    simp only[ze2 hki,Bool.or_false]
   have hMi:M i=false:=by
    cases hm:M i with
    |false=>rfl
    |true=>rw[d.mer i hm] at hil;cases hil
   rcases hpc with⟨hw,hk⟩|⟨hw,hv,hf⟩
   ·rw[← hag.wanted] at hw
    simp only[hw,if_true]
    rcases hk with⟨hR,_,hf,h1,ha⟩|⟨x,hiA,hf,ha⟩
    ·obtain⟨_,hmono⟩:=zep hR ha
     have hbig:aop P lo (tsF ops V (Lf listed) ts0 ops.size) (addF base sl FO (fun k=>Lf listed k&&!M k) As H) o.op=some (V i,addF base sl FO (fun k=>Lf listed k&&!M k) As H):=by
      rw[zfp hag.eval]
      refine hmono _ fun o' x hx=>?_
      rcases zq7 hbd st.ainj hx with⟨k,hk,hs,rfl,hf⟩|⟨hx,_⟩
      ·simp only[xfr] at hs
       exact zgf hbd st.ainj hk (by simp only[hp k hs.1,hs.2,Bool.and_self]) hf
      rw[zei hbd];· exact hx
      ·rintro k hk hs _ rfl
       simp only[xfr,Bool.not_eq_true'] at hs
       rw[d.hH k hk hs.2] at hx;cases hx
     have hst:=zgm.op (o:=o) (next:=fun ts' h'=>ts'=aput (tsF ops V (Lf listed) ts0 ops.size) o.dst (V i)∧h'=addF base sl FO (fun k=>Lf listed k&&!M k) As H) hbig ⟨rfl,rfl⟩
     refine Oper.wpIn_mono (fun a' w' hl=>?_) (hst F hF n μ a w _ d.ht d.hr)
     obtain⟨ts',h',μ',ht',hr',fr',hds,rfl,rfl⟩:=hl
     refine ih _ Wrem last V FO M H μ' a' w' (d.advance st ho hil hp (.inl ⟨rfl,hiW⟩) (.inl rfl) (fun j hj=>.inl hj) (fun _ _=>rfl) ht' (by rw[hds,d.ds]) (same hf▸hr') (same hf▸d.fr.trans fr') (fun j hj hl _=>?_) d.hn d.hH) hD hu'
     rw[fr'.old _ (by rw[zb7];exact hbd j hj)]
     exact d.un j hj hl
    have ha':aopA P (tsF ops V (Lf listed) ts0 ops.size) (base+sl i) o.op=some (V i,x):=by rw[zol hag.eval];exact ha
    obtain⟨s,hs1,ob,v',C,hs2,hfz,hrel⟩:=z3r (w:=w) d.ht ha'
    have hnd:∀c,o.op≠.defer c:=fun c hc=>by rw[hc] at ha;simp[aopA] at ha
    have hmem:base+sl i<(addF base sl FO (fun k=>Lf listed k&&!M k) As H).next:=by rw[zb7];exact hbd i hiA
    have hnone:(addF base sl FO (fun k=>Lf listed k&&!M k) As H).get (base+sl i)=none:=by
     rw[zei hbd];· exact d.hH i hiA hMi
     ·intro k hk hsk _ heq
      have:=st.ainj i hiA k hk (by omega)
      subst this
      simp[hil] at hsk
    have hmu:=d.un i hiA hil
    have hle:μ.le (μ.put (base+sl i) (w.heap.size,0,C)):=by
     intro o y hy
     have:o≠base+sl i:=by intro ho;subst ho;rw[hmu] at hy;cases hy
     rw[Mu.zaj _ this];exact hy
    obtain⟨hrv,hro⟩:=hrel _ hle (Mu.zaf _ _ _)
    obtain⟨_,g1,g2⟩:=zrf d.hr hmem (by have:=d.hlo;omega) hnone hmu ob C x hro hfz
    refine⟨zc3 F hF,?_⟩
    rw[Oper.semAt_eq _ _ _ hnd,hs1]
    have hrun:(do pure (Next.value (← s)):Sem Next).run P w=.ok (Next.value v') (w.alloc ob):=by rw[Sem.run_bind,hs2];rfl
    rw[hrun]
    simp only[Oper.uponIn]
    have hget:∀o',(addF base sl FO (fun j=>(Lf listed j||Nat.beq j i)&&!M j) As H).get o'=((addF base sl FO (fun k=>Lf listed k&&!M k) As H).put (base+sl i) (some x)).get o':=by
     intro o'
     rw[zaa.zaw _ _ _ _ hmem]
     by_cases ho':o'=base+sl i
     ·subst ho'
      rw[if_pos rfl]
      exact zgf hbd st.ainj hiA (by simp[hMi]) hf
     rw[if_neg ho']
     by_cases he:∃k∈As,(Lf listed k&&!M k)=true∧FO k≠none∧o'=base+sl k
     ·obtain⟨k,hk,hsk,hfk,rfl⟩:=he
      cases hfx:FO k with
      |none=>exact absurd hfx hfk
      |some y=>
       rw[zgf (S:=fun k=>Lf listed k&&!M k) hbd st.ainj hk hsk hfx]
       refine zgf hbd st.ainj hk ?_ hfx
       simp only[xfr] at hsk ⊢
       simp[hsk.1,hsk.2]
     rw[zei hbd,zei hbd]
     ·intro k hk hsk hfk heq;exact he ⟨k,hk,hsk,hfk,heq⟩
     intro k hk hsk hfk heq
     have hki:k≠i:=by rintro rfl;exact ho' heq
     simp only[ze2 hki,Bool.or_false] at hsk
     exact he ⟨k,hk,hsk,hfk,heq⟩
    have hnext:((addF base sl FO (fun k=>Lf listed k&&!M k) As H).put (base+sl i) (some x)).next=(addF base sl FO (fun j=>(Lf listed j||Nat.beq j i)&&!M j) As H).next:=by rw[zaa.zlw,zb7,zb7]
    refine ih _ Wrem last V FO M H _ _ _ (d.advance st ho hil hp (.inl ⟨rfl,hiW⟩) (.inl rfl) (fun j hj=>.inl hj) (fun _ _=>rfl) (zek (d.ht.mono hle) hrv o.dst) (by rw[put_defers];exact d.ds)
     (g1.ext hget hnext) ((g2 μ0 h0 w0 d.fr (by have:=d.hb;omega)).ext hget hnext) (fun j hj hl hji=>?_) d.hn d.hH) hD hu'
    rw[Mu.zaj _ (fun h=>hji (st.ainj j hj i hiA (by omega)))]
    exact d.un j hj hl
   rw[← hag.wanted] at hw
   simp only[hw,if_false,Bool.false_eq_true]
   refine⟨zc3 F hF,?_⟩
   refine ih _ Wrem last V FO M H μ _ w (d.advance st ho hil hp (.inl ⟨rfl,hiW⟩) (.inl rfl) (fun j hj=>.inl hj) (fun _ _=>rfl) ?_ (by rw[put_defers];exact d.ds) (same hf▸d.hr) (same hf▸d.fr) (fun j hj hl _=>d.un j hj hl) d.hn d.hH) hD hu'
   rw[hv];exact zek d.ht .undef o.dst
theorem AW.drawn {id:Nat}{ts:Tmps}{h:zaa}(hm:P.follows .mixedOrders=true)(st:zpy ops b W As sl nA){V:Nat→Value}{FO:Nat→Option AObj}
  (hD:DR P lo ops b W As sl h.next ts Q W none V FO (fun _=>false) (zaa.zbi nA h)):AW P lo (.region id ops true) Q ts h:=by
 intro F hF n μ a w ht r _
 refine wpIn_mono (wpIn_region_any hm ?_) fun _ _ _ hl=>Lift.toM hl
 have hL:Lf (Array.replicate ops.size false)=fun _=>false:=by
  funext j
  unfold Lf
  by_cases hj:j<ops.size<;>simp[hj]
 have hcl:(fun (i:Nat)=>(false&&!false:Bool))=fun _=>false:=rfl
 have e0:∀(as:List Nat) (H:zaa),addF h.next sl FO (fun _=>false) as H=H:=by
  intro as H
  induction as with
  |nil=>rfl
  |cons k r ih=>simp only[addF,xfq];exact ih
 have hu:unl (Array.replicate ops.size false) ops.size=ops.size:=by
  have:∀m,m≤ops.size→unl (Array.replicate ops.size false) m=m:=by
   intro m hm
   induction m with
   |zero=>rfl
   |succ m ih=>
    simp only[unl]
    rw[ih (by omega)]
    have:(Array.replicate ops.size false).getD m true=false:=by
     have:m<ops.size:=by omega
     simp[this]
    rw[this];simp only[xfq];omega
  exact this _ (Nat.le_refl _)
 have hts:∀n,tsF ops V (fun _=>false) ts n=ts:=by
  intro n
  induction n with
  |zero=>rfl
  |succ n ih=>simp only[tsF,xfq];exact ih
 have hrr:=(r.drew).zbi nA
 have hfr:=(Frame.drew lo μ h w).trans (Frame.zbi nA)
 refine xem (base:=h.next) (ts0:=ts) (Q:=Q) st hF ops.size _ W none V FO (fun _=>false) (zaa.zbi nA h) μ a w.drew
  ⟨by simp,fun i j hb hl=>?_,⟨[],rfl,fun _ hw=>(by cases hw),fun w _=>by rw[hL]⟩,fun l hl=>(by cases hl),fun i hi=>(by cases hi),?_,?_,?_,fun i hi _=>?_,rfl,?_,fun i hi _=>?_,?_,Nat.le_refl _⟩ hD hu
 ·rw[hL] at hl;cases hl
 ·rw[hL,hts];exact ht
 ·rw[hL];simp only[Bool.false_and];rw[e0];exact hrr
 ·rw[hL];simp only[Bool.false_and];rw[e0];exact hfr
 ·exact r.zkb (by omega)
 ·rw[zaa.zcu];exact Nat.le_refl _
 ·rw[zaa.zbq]
  cases hg:h.get (h.next+sl i) with
  |none=>rfl
  |some x=>have:=zaa.zai hg;omega
 have:=r.lole;exact this
end
end Go.Am
end
/-
 The abstract machine, part P: a region that draws its order, by one schedule.
-/
section
namespace Go.Am
def bm (ms:List Nat)(i j:Nat):Bool:=(ms.getD j 0).testBit i
def zmx (ms:List Nat):List Edge→Nat
 |[]=>0
 |e::es=>bif Region.binds .any e then (1 <<< e.on) ||| ms.getD e.on 0 ||| zmx ms es else zmx ms es
theorem zi9 {ms:List Nat}{i:Nat}:∀ {es:List Edge},(zmx ms es).testBit i=true→∃e∈es,Region.binds .any e=true∧(e.on=i∨(ms.getD e.on 0).testBit i=true)
 |[],h=>by simp[zmx] at h
 |e::es,h=>by
  simp only[zmx] at h
  cases hb:Region.binds .any e with
  |false=>
   rw[hb] at h
   obtain⟨e',h1,h2⟩:=zi9 (es:=es) h
   exact⟨e',List.mem_cons_of_mem _ h1,h2⟩
  |true=>
   rw[hb] at h
   simp only[xfp,Nat.testBit_or,Bool.or_eq_true] at h
   rcases h with (h|h)|h
   ·refine⟨e,by simp,hb,.inl ?_⟩
    rw[Nat.one_shiftLeft,Nat.testBit_two_pow] at h
    exact of_decide_eq_true h
   ·exact⟨e,by simp,hb,.inr h⟩
   obtain⟨e',h1,h2⟩:=zi9 (es:=es) h
   exact⟨e',List.mem_cons_of_mem _ h1,h2⟩
def zur (ms:List Nat):List Nat→Bool
 |[]=>true
 |w::r=>r.all (bm ms w)&&zur ms r
def zsd (ops:Array Oper)(ms W As:List Nat):Bool:=
 Nat.beq ms.length ops.size&&zur ms W&&W.all (Nat.blt · ops.size)&&As.all (fun i=>Nat.blt i ops.size&&!W.contains i)&&
 (List.range ops.size).all fun j=>match ops[j]? with
  |none=>false
  | some o => Nat.blt (ms.getD j 0) (2 ^ j) && o.after.toList.all (fun e => !Region.binds .any e || Nat.blt e.on j) && Nat.beq (ms.getD j 0) (zmx ms o.after.toList) &&
   (List.range j).all fun i=>bm ms i j||match ops[i]? with
    |none=>true
    |some oi=>oi.apart ops o
theorem znd {ms:List Nat}:∀ {W:List Nat},zur ms W=true→W.Pairwise (fun w w'=>bm ms w w'=true)
 |[],_=>.nil
 |w::r,h=>by
  simp only[zur,xfr,List.all_eq_true] at h
  exact .cons h.1 (znd h.2)
def nAof (As:List Nat)(n:Nat):Nat:=match As with|[]=>0|_=>n
theorem zv6 {ops:Array Oper}{ms W As:List Nat}(h:zsd ops ms W As=true):zpy ops (bm ms) W As id (nAof As ops.size):=by
 simp only[zsd,xfr,List.all_eq_true,Nat.blt_eq,List.mem_range] at h
 obtain⟨⟨⟨⟨h1,h2⟩,h3⟩,h4⟩,h5⟩:=h
 have h1:=xfs h1
 have at_:∀j o,ops[j]?=some o→ms.getD j 0<2 ^ j∧(∀e∈o.after.toList,(!Region.binds .any e||Nat.blt e.on j)=true)∧ms.getD j 0=zmx ms o.after.toList∧
   ∀i,i<j→(bm ms i j||match ops[i]? with|none=>true|some oi=>oi.apart ops o)=true:=by
  intro j o ho
  have:=h5 j (Array.getElem?_eq_some_iff.1 ho).1
  rw[ho] at this
  simp only[xfr,List.all_eq_true,Nat.blt_eq,List.mem_range] at this
  exact⟨this.1.1.1,this.1.1.2,xfs this.1.2,this.2⟩
 refine⟨fun i j hb=>?_,fun j o ho e he hb=>?_,fun i j o ho hb=>?_,znd h2,h3,fun i hi=>(h4 i hi).1,fun i hi hw=>?_,fun i hi=>(by cases As with|nil=>cases hi|cons _ _=>exact(h4 i hi).1),fun _ _ _ _ h=>h,fun i j oi oj hoi hoj hij=>?_⟩
 ·rcases Nat.lt_or_ge j ops.size with hj|hj
  ·have hlt:=(at_ j ops[j] (by simp[hj])).1
   rcases Nat.lt_or_ge i j with h|h
   ·exact h
   unfold bm at hb
   rw[Nat.testBit_lt_two_pow (Nat.lt_of_lt_of_le hlt (Nat.pow_le_pow_right (by omega) h))] at hb
   cases hb
  unfold bm at hb
  rw[List.getD_eq_getElem?_getD,List.getElem?_eq_none (by omega)] at hb
  simp at hb
 ·have:=(at_ j o ho).2.1 e (by simpa using he)
  simp only[hb,Bool.not_true,Bool.false_or,Nat.blt_eq] at this
  exact this
 ·have:=(at_ j o ho).2.2.1
  unfold bm at hb
  rw[this] at hb
  obtain⟨e,he,h6,h7⟩:=zi9 hb
  exact⟨e,by simpa using he,h6,h7⟩
 ·have:=(h4 i hi).2
  simp[List.contains_iff_mem,hw] at this
 have:=(at_ j oj hoj).2.2.2 i hij
 rw[hoi] at this
 simp only[Bool.or_eq_true] at this
 exact this.symm
def isP:Op→Bool
 |.move _|.assign _|.pick .. | .build .. | .nilCheck _|.binOp .. | .unOp .. | .convert .. | .makeFunc .. | .slice .. | .fieldAddr .. | .field .. | .indexAddr .. | .index .. | .extract ..=>true
 |.call ⟨.builtin .cap,_,_⟩|.call ⟨.builtin .max,_,_⟩|.call ⟨.builtin .min,_,_⟩=>true
 |_=>false
theorem zz8 {P:Program}{lo:Nat}{ts:Tmps}{h h2 h1:zaa}{op:Op}{v:Value}(hp:isP op=true)(ha:aop P lo ts h op=some (v,h1)):aop P lo ts h2 op=some (v,h2):=by
 have fin0:∀ {o:Option Value},o.map (·,h)=some (v,h1)→o.map (·,h2)=some (v,h2):=fun {o} hm=>by
  obtain⟨u,h3,h4⟩:=zad hm
  simp only[xfn] at h4
  obtain⟨rfl,rfl⟩:=h4
  rw[h3];rfl
 cases op<;>simp only[isP,Bool.false_eq_true] at hp<;>simp only[aop] at ha ⊢
 case move x=>exact fin0 ha
 case assign x=>exact fin0 ha
 case pick c a b=>
  split at ha
  ·exact fin0 ha
  ·exact fin0 ha
  simp at ha
 case build t ps=>
  split at ha
  ·exact fin0 ha
  simp at ha
 case nilCheck x=>
  split at ha
  ·exact fin0 ha
  simp at ha
 case binOp o t x y u=>
  split at ha
  ·exact fin0 ha
  simp at ha
 case unOp o t x=>
  split at ha
  ·exact fin0 ha
  simp at ha
 case convert s d x=>
  split at ha
  ·exact fin0 ha
  simp at ha
 case makeFunc fn a b=>
  cases fn<;>simp only at ha ⊢ <;> try (simp at ha)
  split at ha
  ·simp only[xfm,xfn] at ha;obtain⟨rfl,rfl⟩:=ha
   rfl
  simp at ha
 case slice t x l u m=>
  split at ha
  ·exact fin0 ha
  simp at ha
 case fieldAddr s x f=>
  split at ha
  ·exact fin0 ha
  simp at ha
 case field s x f=>
  split at ha
  ·exact fin0 ha
  simp at ha
 case indexAddr t x y=>
  split at ha
  ·exact fin0 ha
  simp at ha
 case index t x y=>
  split at ha
  ·exact fin0 ha
  simp at ha
 case extract x i=>
  split at ha
  ·exact fin0 ha
  simp at ha
 case call c=>
  obtain⟨callee,args,aT⟩:=c
  cases callee with
  |builtin b=>
   simp only[aop] at ha ⊢
   split at ha
   ·rename_i l hl
    cases b<;>simp only[Bool.false_eq_true] at hp
    ·rcases aT with⟨aT⟩
     rcases aT with _|⟨t,_|⟨u,r⟩⟩<;>rcases l with _|⟨x,_|⟨y,s⟩⟩<;>simp only[zcs] at ha ⊢ <;> try (simp at ha;done)
     exact fin0 ha
    ·rcases l with _|⟨x,s⟩<;>simp only[zcs] at ha ⊢ <;> try (simp at ha;done)
     exact fin0 ha
    rcases l with _|⟨x,s⟩<;>simp only[zcs] at ha ⊢ <;> try (simp at ha;done)
    exact fin0 ha
   simp at ha
  |value f=>simp at hp
  |invoke r m=>simp at hp
inductive zfl where
  |op (m:Nat)
  |ck (m:Nat)
def zcw (base:Nat)(mask:Nat→Bool):List (Nat×AObj)→zaa→zaa
 |[],h=>h
 |(i,x)::r,h=>bif mask i then (zcw base mask r h).put (base+i) (some x) else zcw base mask r h
def xcy (P:Program)(lo:Nat)(ops:Array Oper)(o:Oper)(ts:Tmps)(h:zaa)(next:Tmps→zaa→Prop):Prop:=
 ∀ts1,zn7 ops o ts1 ts→zgm P lo o ts1 h (fun ts' h'=>∃v,ts'=aput ts1 o.dst v∧next (aput ts o.dst v) h')
def Scr (P:Program)(lo:Nat)(ops:Array Oper)(base:Nat)(ms W As:List Nat)(K:Tmps→zaa→Prop):List zfl→Tmps→List (Nat×AObj)→zaa→Prop
 |[],ts,fl,h=>K ts (zcw base (fun _=>true) fl h)
 | .op m :: r, ts, fl, h => ∃ o, ops[m]? = some o ∧
  bif Region.wanted o (za2 ops ts) then
   bif W.contains m then xcy P lo ops o ts (zcw base (fun i=>bm ms i m) fl h) (fun ts' h'=>Scr P lo ops base ms W As K r ts' (fl.filter fun p=>!bm ms p.1 m) h')
   else bif As.contains m then ∃v x,aopA P ts (base+m) o.op=some (v,x)∧Scr P lo ops base ms W As K r (aput ts o.dst v) ((m,x)::fl) h
   else ∃v h1,aop P lo ts (zcw base (fun i=>bm ms i m) fl h) o.op=some (v,h1)∧Scr P lo ops base ms W As K r (aput ts o.dst v) fl h
  else Scr P lo ops base ms W As K r (aput ts o.dst Go.undef) fl h
 | .ck m :: r, ts, fl, h => ∃ o d, ops[m]? = some o ∧ o.dst = some d ∧
  (Region.wanted o (za2 ops ts)=true→∃v h1,ts[d]?=some v∧aop P lo ts (zcw base (fun i=>bm ms i m) fl h) o.op=some (v,h1))∧Scr P lo ops base ms W As K r ts fl h
def zm8 (ops:Array Oper)(ms:List Nat)(m:Nat)(o:Oper):Bool:=
 (List.range ops.size).all fun j=>match (ops[j]?).bind (·.dst) with
  |none=>true
  |some d=>bif Nat.beq j m then !(o.looksAt ops).contains d else bm ms j m||!((o.looksAt ops).contains d||o.dst==some d)
def zhn (ops:Array Oper)(ms W As:List Nat):List Nat→List Nat→List Nat→List zfl→Bool
 |d,Wrem,todo,[]=>Wrem.isEmpty&&todo.isEmpty&&(List.range ops.size).all (d.contains ·)
 |d,Wrem,todo,.op m::r=>match ops[m]? with
  |none=>false
  | some o => !d.contains m && (List.range m).all (fun j => !bm ms j m || d.contains j) &&
   bif W.contains m then
    todo.isEmpty&&(match Wrem with
     |[]=>false
     | w :: Wr => Nat.beq w m && (List.range ops.size).all (fun k => d.contains k || W.contains k || Wrem.any (fun w => bm ms w k)) &&
      zhn ops ms W As (m::d) Wr (d.filter fun k=>!W.contains k&&!As.contains k&&!bm ms k m&&match ops[k]? with|none=>true|some ok=>!isP ok.op) r)
   else (bif As.contains m then As.all (fun k=>Nat.ble k m||!d.contains k) else isR o.op)&&zhn ops ms W As (m::d) Wrem todo r
 |d,Wrem,todo,.ck m::r=>match ops[m]? with
  |none=>false
  |some o=>todo.contains m&&zm8 ops ms m o&&zhn ops ms W As d Wrem (todo.filter fun k=>!Nat.beq k m) r
def znw:List Nat→Bool
 |[]=>true
 |a::r=>r.all (Nat.blt · a)&&znw r
def flOf (d M:Nat→Bool)(FO:Nat→Option AObj):List Nat→List (Nat×AObj)
 |[]=>[]
 |a::r=>match (bif d a&&!M a then FO a else none) with
  |some x=>(a,x)::flOf d M FO r
  |none=>flOf d M FO r
theorem zgv {d d' M M':Nat→Bool}{FO FO':Nat→Option AObj}:∀ {As:List Nat},(∀i∈As,(bif d i&&!M i then FO i else none)=(bif d' i&&!M' i then FO' i else none))→flOf d M FO As=flOf d' M' FO' As
 |[],_=>rfl
 |a::r,h=>by
  have ih:=zgv (As:=r) (fun i hi=>h i (List.mem_cons_of_mem _ hi))
  simp only[flOf]
  rw[h a (by simp),ih]
def upd {α:Type}(f:Nat→α)(m:Nat)(v:α):Nat→α:=fun i=>if i=m then v else f i
theorem zgi {α:Type}(f:Nat→α)(m:Nat)(v:α):upd f m v m=v:=by simp[upd]
theorem zgw {α:Type}{f:Nat→α}{m:Nat}{v:α}{i:Nat}(h:i≠m):upd f m v i=f i:=by simp[upd,h]
theorem zvj {a:Nat}{r:List Nat}(h:znw (a::r)=true):(∀k∈r,k<a)∧znw r=true:=by
 simp only[znw,xfr,List.all_eq_true,Nat.blt_eq] at h
 exact h
theorem zjw {d M:Nat→Bool}{FO:Nat→Option AObj}{a:Nat}{r:List Nat}(h:d a=false):flOf d M FO (a::r)=flOf d M FO r:=by
 simp only[flOf,h,Bool.false_and,xfq]
theorem ztr {d M:Nat→Bool}{FO:Nat→Option AObj}{m:Nat}{x:AObj}:∀ {As:List Nat},znw As=true→m∈As→(∀k∈As,k≤m∨d k=false)→d m=false→M m=false→
  flOf (fun i=>Nat.beq i m||d i) M (upd FO m (some x)) As=(m,x)::flOf d M FO As
 |[],_,h,_,_,_=>by cases h
 |a::r,hdec,hm,hk,hd,hM=>by
  obtain⟨h1,h2⟩:=zvj hdec
  by_cases ha:a=m
  ·subst ha
   have e1:flOf (fun i=>Nat.beq i a||d i) M (upd FO a (some x)) (a::r)=(a,x)::flOf (fun i=>Nat.beq i a||d i) M (upd FO a (some x)) r:=by
    simp only[flOf,Nat.beq_refl,Bool.true_or,hM,Bool.not_false,Bool.and_self,xfp,zgi]
   rw[e1,zjw hd]
   congr 1
   refine zgv fun i hi=>?_
   have:i≠a:=by have:=h1 i hi;omega
   rw[ze2 this,zgw this];rfl
  have hm':m∈r:=(List.mem_cons.1 hm).resolve_left (Ne.symm ha)
  have hda:d a=false:=by
   rcases hk a (by simp) with h|h
   ·have:=h1 m hm';omega
   exact h
  rw[zjw (by rw[ze2 ha,hda];rfl),zjw hda]
  exact ztr h2 hm' (fun k hk'=>hk k (List.mem_cons_of_mem _ hk')) hd hM
theorem zir {base:Nat}{mask d M:Nat→Bool}{FO:Nat→Option AObj}{h:zaa}:∀ {As:List Nat},zcw base mask (flOf d M FO As) h=addF base id FO (fun i=>mask i&&(d i&&!M i)) As h
 |[]=>rfl
 |a::r=>by
  have ih:=zir (base:=base) (mask:=mask) (d:=d) (M:=M) (FO:=FO) (h:=h) (As:=r)
  simp only[addF,flOf]
  cases hd:(d a&&!M a) with
  |false=>simp only[xfq,Bool.and_false];exact ih
  |true=>
   simp only[xfp,Bool.and_true]
   cases hf:FO a with
   |none=>cases mask a<;>exact ih
   |some x=>simp only[zcw,id];rw[ih]
theorem zmb {c d M:Nat→Bool}{FO:Nat→Option AObj}:∀ {As:List Nat},(flOf d M FO As).filter (fun p=>!c p.1)=flOf d (fun i=>M i||c i) FO As
 |[]=>rfl
 |a::r=>by
  have ih:=zmb (c:=c) (d:=d) (M:=M) (FO:=FO) (As:=r)
  simp only[flOf]
  have key:(bif d a&&!(M a||c a) then FO a else none)=bif c a then none else (bif d a&&!M a then FO a else none):=by
   cases d a<;>cases M a<;>cases c a<;>rfl
  rw[key]
  generalize (bif d a&&!M a then FO a else none)=z
  cases hc:c a with
  |true=>
   cases z with
   |none=>exact ih
   |some x=>
    have:List.filter (fun p:Nat×AObj=>!c p.1) ((a,x)::flOf d M FO r)=List.filter (fun p=>!c p.1) (flOf d M FO r):=by
     rw[List.filter_cons];simp only[hc,Bool.not_true,Bool.false_eq_true,if_false]
    exact this.trans ih
  |false=>
   cases z with
   |none=>exact ih
   |some x=>
    have:List.filter (fun p:Nat×AObj=>!c p.1) ((a,x)::flOf d M FO r)=(a,x)::List.filter (fun p=>!c p.1) (flOf d M FO r):=by
     rw[List.filter_cons];simp only[hc,Bool.not_false,if_true]
    exact this.trans (by rw[ih];rfl)
end Go.Am
end
/-
 The abstract machine, part Q: one schedule stands for all.
-/
section
namespace Go.Am
section
variable {P:Program} {lo:Nat} {ops:Array Oper} {ms W As:List Nat} {base:Nat} {ts0:Tmps} {Q:zev}
theorem PC1.congr {V V':Nat→Value}{FO FO':Nat→Option AObj}{M:Nat→Bool}{H:zaa}{m:Nat}{o:Oper}
  (hV:∀j,bm ms j m=true→V' j=V j) (hm:V' m=V m) (hF:∀j,bm ms j m=true→FO' j=FO j) (hFm:FO' m=FO m) (h:PC1 P lo ops (bm ms) As id base ts0 V FO M H m o) :
  PC1 P lo ops (bm ms) As id base ts0 V' FO' M H m o:=by
 have e1:tsF ops V' (fun j=>bm ms j m) ts0 ops.size=tsF ops V (fun j=>bm ms j m) ts0 ops.size:=ze8 (fun _ _=>rfl) (fun j _ hj=>hV j hj)
 have e2:addF base id FO' (fun i=>bm ms i m&&!M i) As H=addF base id FO (fun i=>bm ms i m&&!M i) As H:=zeq fun k _=>by
  cases hb:bm ms k m with
  |false=>rfl
  |true=>rw[hF k hb]
 unfold PC1 at h ⊢
 simp only[e1,e2,hm,hFm]
 exact h
theorem PC1.pure {V:Nat→Value}{FO:Nat→Option AObj}{M M':Nat→Bool}{H H':zaa}{m:Nat}{o:Oper}(hp:isP o.op=true∨m∈As)(h:PC1 P lo ops (bm ms) As id base ts0 V FO M H m o) :
  PC1 P lo ops (bm ms) As id base ts0 V FO M' H' m o:=by
 unfold PC1 at h ⊢
 rcases h with⟨hw,⟨h1,h0,h2,h3,ha⟩|hA⟩|h
 ·rcases hp with hp|hp
  ·exact .inl ⟨hw,.inl ⟨h1,h0,h2,_,zz8 hp ha⟩⟩
  exact absurd hp h0
 ·exact .inl ⟨hw,.inr hA⟩
 exact .inr h
structure SI (P:Program) (lo:Nat) (ops:Array Oper) (ms W As:List Nat) (base:Nat) (ts0:Tmps) (d Wrem todo:List Nat) (last:Option Nat) (V:Nat→Value) (FO:Nat→Option AObj) (M:Nat→Bool) (H:zaa) (ts:Tmps) (fl:List (Nat×AObj)):Prop where
  hts:ts=tsF ops V (fun i=>d.contains i) ts0 ops.size
  hfl:fl=flOf (fun i=>d.contains i) M FO As
  closed:∀i j,bm ms i j=true→d.contains j=true→d.contains i=true
  wr:∀w∈W,(d.contains w=true↔w∉Wrem)
  wsub:∀w∈Wrem,w∈W
  wpw:Wrem.Pairwise (fun w w'=>bm ms w w'=true)
  fo:∀i,d.contains i=false→FO i=none
  mer:∀i,M i=true→d.contains i=true
  old:∀m o,ops[m]?=some o→d.contains m=true→m∉W→∃M0 H0,PC1 P lo ops (bm ms) As id base ts0 V FO M0 H0 m o
  now:∀m o,ops[m]?=some o→d.contains m=true→m∉W→m∉todo→(∀l,last=some l→bm ms m l=false)→PC1 P lo ops (bm ms) As id base ts0 V FO M H m o
theorem contains_cons (m:Nat)(d:List Nat)(i:Nat):(m::d).contains i=(Nat.beq i m||d.contains i):=by
 rw[List.contains_cons]
 have:(i==m)=Nat.beq i m:=by
  rw[Bool.eq_iff_iff,beq_iff_eq]
  exact⟨fun h=>by rw[h];exact Nat.beq_refl m,xfs⟩
 rw[this]
theorem zgb {d:List Nat}{i:Nat}:d.contains i=false↔i∉d:=by
 rw[← Bool.not_eq_true,List.contains_iff_mem]
theorem SI.rd (st:zpy ops (bm ms) W As id (nAof As ops.size)){d Wrem todo:List Nat}{last:Option Nat}{V:Nat→Value}{FO FO':Nat→Option AObj}{M:Nat→Bool}{H:zaa}{ts:Tmps}{fl fl':List (Nat×AObj)}{m:Nat}{o:Oper}{v:Value}
  (s:SI P lo ops ms W As base ts0 d Wrem todo last V FO M H ts fl) (ho:ops[m]?=some o) (hd:d.contains m=false) (hp:∀j,bm ms j m=true→d.contains j=true) (hW:m∉W)
  (hFO:∀j,j≠m→FO' j=FO j) (hfl:fl'=flOf (fun i=>(m::d).contains i) M FO' As) (h:PC1 P lo ops (bm ms) As id base ts0 (upd V m v) FO' M H m o) :
  SI P lo ops ms W As base ts0 (m::d) Wrem todo last (upd V m v) FO' M H (aput ts o.dst v) fl':=by
 have hne:∀j,d.contains j=true→j≠m:=fun j hj h=>by subst h;rw[hd] at hj;cases hj
 have hVd:∀j,d.contains j=true→upd V m v j=V j:=fun j hj=>zgw (hne j hj)
 have hFd:∀j,d.contains j=true→FO' j=FO j:=fun j hj=>hFO j (hne j hj)
 have hcongr:∀M0 H0 k ok,d.contains k=true→PC1 P lo ops (bm ms) As id base ts0 V FO M0 H0 k ok→PC1 P lo ops (bm ms) As id base ts0 (upd V m v) FO' M0 H0 k ok:=fun M0 H0 k ok hk hpc=>
  hpc.congr (fun j hj=>hVd j (s.closed j k hj hk)) (hVd k hk) (fun j hj=>hFd j (s.closed j k hj hk)) (hFd k hk)
 have hcl:∀i j,bm ms i j=true→(m::d).contains j=true→(m::d).contains i=true:=fun i j hb hj=>by
  rw[contains_cons,Bool.or_eq_true] at hj ⊢
  rcases hj with hj|hj
  ·rw[xfs hj] at hb;exact .inr (hp i hb)
  exact .inr (s.closed i j hb hj)
 refine⟨?_,hfl,hcl,fun w hw=>?_,s.wsub,s.wpw,fun i hi=>?_,fun i hi=>?_,fun k ok hok hk hkW=>?_,fun k ok hok hk hkW ht hl=>?_⟩
 ·have e:(fun i=>(m::d).contains i)=fun i=>d.contains i||Nat.beq i m:=by funext i;rw[contains_cons,Bool.or_comm]
  rw[e,zo9 st ho hd s.closed,zgi]
  rw[ze8 (V':=V) (S':=fun i=>d.contains i) (fun _ _=>rfl) (fun j _ hj=>hVd j hj),← s.hts]
 ·have:w≠m:=by rintro rfl;exact hW hw
  rw[contains_cons,ze2 this,Bool.false_or];exact s.wr w hw
 ·rw[contains_cons,Bool.or_eq_false_iff] at hi
  have hne:i≠m:=fun h=>by subst h;rw[Nat.beq_refl] at hi;exact absurd hi.1 (by simp)
  rw[hFO i hne];exact s.fo i hi.2
 ·rw[contains_cons,s.mer i hi,Bool.or_true]
 ·rw[contains_cons,Bool.or_eq_true] at hk
  by_cases hkm:k=m
  ·subst hkm;rw[ho] at hok;injection hok with hok;subst hok;exact⟨M,H,h⟩
  have hk:d.contains k=true:=hk.resolve_left (by rw[ze2 hkm];simp)
  obtain⟨M0,H0,h0⟩:=s.old k ok hok hk hkW
  exact⟨M0,H0,hcongr M0 H0 k ok hk h0⟩
 rw[contains_cons,Bool.or_eq_true] at hk
 by_cases hkm:k=m
 ·subst hkm;rw[ho] at hok;injection hok with hok;subst hok;exact h
 have hk:d.contains k=true:=hk.resolve_left (by rw[ze2 hkm];simp)
 exact hcongr M H k ok hk (s.now k ok hok hk hkW ht hl)
theorem zvn (st:zpy ops (bm ms) W As id (nAof As ops.size)){V:Nat→Value}{L:Nat→Bool}{m:Nat}{o:Oper}{t:Nat}{v:Value}(ho:ops[m]?=some o)(hs:zm8 ops ms m o=true)(hd:o.dst=some t)(hL:L m=true)
  (hv:(tsF ops V L ts0 ops.size)[t]?=some v):v=V m:=by
 have hlt:m<ops.size:=(Array.getElem?_eq_some_iff.1 ho).1
 have key:∀n,m<n→n≤ops.size→(tsF ops V L ts0 n)[t]?=some v→v=V m:=by
  intro n
  induction n with
  |zero=>intro h;omega
  |succ n ih=>
   intro hmn hn hv
   simp only[tsF] at hv
   by_cases hmn':m=n
   ·subst hmn'
    rw[hL] at hv
    have:zki ops m=some t:=by simp[zki,ho,hd]
    rw[this] at hv
    simp only[xfp,aput,List.getElem?_set,if_true] at hv
    split at hv
    ·injection hv with hv;exact hv.symm
    cases hv
   refine ih (by omega) (by omega) ?_
   cases hl:L n with
   |false=>rw[hl] at hv;exact hv
   |true=>
    rw[hl] at hv
    simp only[xfp] at hv
    rw[zf8] at hv
    ·exact hv
    intro hdn
    simp only[zm8,List.all_eq_true,List.mem_range] at hs
    have:=hs n (by omega)
    have hdn':(ops[n]?).bind (·.dst)=some t:=hdn
    rw[hdn'] at this
    simp only[ze2 (show n≠m by omega),xfq,hd,beq_self_eq_true,Bool.or_true,Bool.not_true,Bool.or_false] at this
    have:=st.lt _ _ this
    omega
 exact key ops.size hlt (Nat.le_refl _) hv
theorem zr3 {V:Nat→Value}{L:Nat→Bool}{m:Nat}{o:Oper}(ho:ops[m]?=some o)(hs:zm8 ops ms m o=true)(hL:L m=true)(hc:∀i j,bm ms i j=true→L j=true→L i=true) :
  zn7 ops o (tsF ops V L ts0 ops.size) (tsF ops V (fun j=>bm ms j m) ts0 ops.size):=by
 intro t ht
 refine zp6 fun j hj hd=>?_
 suffices h:L j=bm ms j m by exact⟨h,fun _=>rfl⟩
 simp only[zm8,List.all_eq_true,List.mem_range] at hs
 have:=hs j hj
 have hd':(ops[j]?).bind (·.dst)=some t:=hd
 rw[hd'] at this
 have hct:(o.looksAt ops).contains t=true:=by rw[List.contains_iff_mem];exact ht
 by_cases hjm:j=m
 ·subst hjm
  simp only[Nat.beq_refl,xfp,hct,Bool.not_true] at this
  cases this
 simp only[ze2 hjm,xfq,hct,Bool.true_or,Bool.not_true,Bool.or_false] at this
 rw[this];exact hc j m this hL
theorem zoq (st:zpy ops (bm ms) W As id (nAof As ops.size))(hdec:znw As=true):∀(items:List zfl) (d Wrem todo:List Nat) (last:Option Nat) (V:Nat→Value) (FO:Nat→Option AObj) (M:Nat→Bool) (H:zaa) (ts:Tmps) (fl:List (Nat×AObj)),
  zhn ops ms W As d Wrem todo items=true→SI P lo ops ms W As base ts0 d Wrem todo last V FO M H ts fl→Scr P lo ops base ms W As (Q .normal) items ts fl H→
  ∃V' FO',(∀i,d.contains i=true→V' i=V i∧FO' i=FO i)∧DR P lo ops (bm ms) W As id base ts0 Q Wrem last V' FO' M H
 |[],d,Wrem,todo,last,V,FO,M,H,ts,fl,hc,s,hs=>by
  simp only[zhn,xfr,List.isEmpty_iff,List.all_eq_true,List.mem_range] at hc
  obtain⟨⟨rfl,rfl⟩,hall⟩:=hc
  refine⟨V,FO,fun _ _=>⟨rfl,rfl⟩,fun m o ho hW _ hl=>s.now m o ho (hall m (Array.getElem?_eq_some_iff.1 ho).1) hW (by simp) hl,?_⟩
  have e1:tsF ops V (fun _=>true) ts0 ops.size=ts:=by rw[s.hts];exact ze8 (fun i hi=>(hall i hi).symm) (fun _ _ _=>rfl)
  have e2:addF base id FO (fun i=>!M i) As H=zcw base (fun _=>true) fl H:=by
   rw[s.hfl,zir]
   refine zeq fun k hk=>?_
   rw[hall k (st.alt k hk)];simp
  rw[e1,e2];exact hs
 |.op m::r,d,Wrem,todo,last,V,FO,M,H,ts,fl,hc,s,hs=>by
  obtain⟨o,ho,hs⟩:=hs
  simp only[zhn,ho,xfr,Bool.not_eq_true',List.all_eq_true,List.mem_range,Bool.or_eq_true] at hc
  obtain⟨⟨hdm,hpre⟩,hc⟩:=hc
  have hp:∀j,bm ms j m=true→d.contains j=true:=fun j hj=>by
   rcases hpre j (st.lt j m hj) with h|h
   ·rw[hj] at h;cases h
   exact h
  have hlt:m<ops.size:=(Array.getElem?_eq_some_iff.1 ho).1
  have hag:zn7 ops o ts (tsF ops V (fun j=>bm ms j m) ts0 ops.size):=by
   have:=ztp (ts0:=ts0) (V:=V) (L:=fun i=>d.contains i) st ho hdm hp s.closed
   rw[← s.hts] at this;exact this
  have heq:∀FO1:Nat→Option AObj,(∀j,d.contains j=true→FO1 j=FO j)→addF base id FO1 (fun i=>bm ms i m&&!M i) As H=zcw base (fun i=>bm ms i m) fl H:=fun FO1 h1=>by
   rw[s.hfl,zir]
   refine zeq fun k _=>?_
   cases hb:bm ms k m with
   |false=>rfl
   |true=>rw[hp k hb,h1 k (hp k hb)];simp
  have hne:∀j,d.contains j=true→j≠m:=fun j hj h=>by subst h;rw[hdm] at hj;cases hj
  have hMm:M m=false:=by
   cases hm:M m with
   |false=>rfl
   |true=>rw[s.mer m hm] at hdm;cases hdm
  have htsm:∀v,tsF ops (upd V m v) (fun j=>bm ms j m) ts0 ops.size=tsF ops V (fun j=>bm ms j m) ts0 ops.size:=fun v=>ze8 (fun _ _=>rfl) (fun j _ hj=>zgw (hne j (hp j hj)))
  have lift:∀(v:Value) (FO1:Nat→Option AObj),(∀j,j≠m→FO1 j=FO j)→(∃V' FO',(∀i,(m::d).contains i=true→V' i=upd V m v i∧FO' i=FO1 i)∧DR P lo ops (bm ms) W As id base ts0 Q Wrem last V' FO' M H)→
    ∃V' FO',(∀i,d.contains i=true→V' i=V i∧FO' i=FO i)∧DR P lo ops (bm ms) W As id base ts0 Q Wrem last V' FO' M H:=by
   rintro v FO1 hF ⟨V',FO',h1,h2⟩
   refine⟨V',FO',fun i hi=>?_,h2⟩
   obtain⟨h3,h4⟩:=h1 i (by rw[contains_cons,hi,Bool.or_true])
   exact⟨by rw[h3,zgw (hne i hi)],by rw[h4,hF i (hne i hi)]⟩
  by_cases hWm:W.contains m=true
  · -- a writer
   have hWm':m∈W:=by rwa [List.contains_iff_mem] at hWm
   simp only[hWm,xfp,xfr,List.isEmpty_iff] at hc hs
   obtain⟨rfl,hc⟩:=hc
   cases Wrem with
   |nil=>cases hc
   |cons w Wr=>
    simp only[xfr,List.all_eq_true,List.mem_range,Bool.or_eq_true,List.any_eq_true] at hc
    obtain⟨⟨hw,hknown⟩,hc⟩:=hc
    have hw:=xfs hw
    subst hw
    have hind:∀k,k<ops.size→k∉W→(∀w'∈w::Wr,bm ms w' k=false)→d.contains k=true:=fun k hk hkW hkn=>by
     rcases hknown k hk with (h|h)|⟨w',hw',h⟩
     ·exact h
     ·rw[List.contains_iff_mem] at h;exact absurd h hkW
     rw[hkn w' hw'] at h;cases h
    have hpc:PC P lo ops (bm ms) W As id base ts0 (w::Wr) last V FO M H:=fun k ok hok hkW hkn hl=>
     s.now k ok hok (hind k (Array.getElem?_eq_some_iff.1 hok).1 hkW hkn) hkW (by simp) hl
    have hnodup:w∉Wr:=by
     intro hin
     have:=st.lt _ _ ((List.pairwise_cons.1 s.wpw).1 w hin)
     omega
    have next:∀(v:Value) (h':zaa) (M':Nat→Bool) (fl':List (Nat×AObj)),(∀i,M' i=true→M i=true∨bm ms i w=true)→fl'=flOf (fun i=>(w::d).contains i) M' FO As→
      Scr P lo ops base ms W As (Q .normal) r (aput ts o.dst v) fl' h'→
      ∃V' FO',Ext ops (bm ms) (w::Wr) V V' FO FO'∧V' w=v∧DR P lo ops (bm ms) W As id base ts0 Q Wr (some w) V' FO' M' h':=by
     intro v h' M' fl' hM' hfl' hscr
     have hVd:∀j,d.contains j=true→upd V w v j=V j:=fun j hj=>zgw (hne j hj)
     have hcongr:∀M0 H0 k ok,d.contains k=true→PC1 P lo ops (bm ms) As id base ts0 V FO M0 H0 k ok→PC1 P lo ops (bm ms) As id base ts0 (upd V w v) FO M0 H0 k ok:=fun M0 H0 k ok hk hpc=>
      hpc.congr (fun j hj=>hVd j (s.closed j k hj hk)) (hVd k hk) (fun _ _=>rfl) rfl
     have hdk:∀k,(w::d).contains k=true→k∉W→d.contains k=true:=fun k hk hkW=>by
      rw[contains_cons,Bool.or_eq_true] at hk
      refine hk.resolve_left ?_
      have:k≠w:=by rintro rfl;exact hkW hWm'
      rw[ze2 this];simp
     have hsi:SI P lo ops ms W As base ts0 (w::d) Wr (d.filter fun k=>!W.contains k&&!As.contains k&&!bm ms k w&&match ops[k]? with|none=>true|some ok=>!isP ok.op) (some w) (upd V w v) FO M' h' (aput ts o.dst v) fl':=by
      refine⟨?_,hfl',?_,fun w' hw'=>?_,fun w' hw'=>s.wsub w' (List.mem_cons_of_mem _ hw'),(List.pairwise_cons.1 s.wpw).2,fun i hi=>?_,fun i hi=>?_,fun k ok hok hk hkW=>?_,fun k ok hok hk hkW htodo hl=>?_⟩
      ·have e:(fun i=>(w::d).contains i)=fun i=>d.contains i||Nat.beq i w:=by funext i;rw[contains_cons,Bool.or_comm]
       rw[e,zo9 st ho hdm s.closed,zgi]
       rw[ze8 (V':=V) (S':=fun i=>d.contains i) (fun _ _=>rfl) (fun j _ hj=>hVd j hj),← s.hts]
      ·intro i j hb hj
       rw[contains_cons,Bool.or_eq_true] at hj ⊢
       rcases hj with hj|hj
       ·rw[xfs hj] at hb;exact .inr (hp i hb)
       exact .inr (s.closed i j hb hj)
      ·by_cases hww:w'=w
       ·subst hww
        rw[contains_cons,Nat.beq_refl,Bool.true_or]
        exact⟨fun _=>hnodup,fun _=>rfl⟩
       rw[contains_cons,ze2 hww,Bool.false_or,s.wr w' hw',List.mem_cons]
       exact⟨fun h h2=>h (.inr h2),fun h h2=>h2.elim hww h⟩
      ·rw[contains_cons,Bool.or_eq_false_iff] at hi
       exact s.fo i hi.2
      ·rw[contains_cons]
       rcases hM' i hi with h|h
       ·rw[s.mer i h,Bool.or_true]
       rw[hp i h,Bool.or_true]
      ·have hk:=hdk k hk hkW
       obtain⟨M0,H0,h0⟩:=s.old k ok hok hk hkW
       exact⟨M0,H0,hcongr M0 H0 k ok hk h0⟩
      have hk:=hdk k hk hkW
      obtain⟨M0,H0,h0⟩:=s.old k ok hok hk hkW
      refine(hcongr M0 H0 k ok hk h0).pure ?_
      have hb:=hl w rfl
      by_cases hA:k∈As
      ·exact .inr hA
      left
      have hkd:k∈d:=by rwa [List.contains_iff_mem] at hk
      have hkWc:W.contains k=false:=zgb.2 hkW
      have hkAc:As.contains k=false:=zgb.2 hA
      rw[List.mem_filter] at htodo
      simp only[hkd,hkWc,hkAc,hb,hok,Bool.not_false,Bool.and_self,Bool.true_and,true_and,Bool.not_eq_true',Bool.not_eq_false] at htodo
      exact htodo
     obtain⟨V',FO',h1,h2⟩:=zoq st hdec r (w::d) Wr _ (some w) (upd V w v) FO M' h' (aput ts o.dst v) fl' hc hsi hscr
     refine⟨V',FO',fun i hi hiW hik=>?_,by rw[(h1 w (by rw[contains_cons,Nat.beq_refl];rfl)).1,zgi],h2⟩
     have hid:d.contains i=true:=by
      by_cases hiw:i∈W
      ·exact(s.wr i hiw).2 hiW
      exact hind i hi hiw hik
     obtain⟨h3,h4⟩:=h1 i (by rw[contains_cons,hid,Bool.or_true])
     exact⟨by rw[h3,hVd i hid],h4⟩
    refine⟨V,FO,fun _ _=>⟨rfl,rfl⟩,hpc,fun o2 ho2=>?_⟩
    rw[ho] at ho2;injection ho2 with ho2;subst ho2
    rw[← hag.wanted]
    constructor
    ·intro hwt ts1 hag1
     rw[hwt] at hs
     simp only[xfp] at hs
     rw[heq FO (fun _ _=>rfl)]
     refine(hs ts1 (fun t ht=>(hag1 t ht).trans (hag t ht).symm)).mono fun ts' h' hq=>?_
     obtain⟨v,rfl,hscr⟩:=hq
     obtain⟨V',FO',k1,k2,k3⟩:=next v h' (fun i=>M i||bm ms i w) _ (fun i hi=>by simpa using hi) (by
      rw[s.hfl,zmb (c:=fun i=>bm ms i w)]
      refine zgv fun i hi=>?_
      have:i≠w:=by rintro rfl;exact st.aw i hi hWm'
      rw[contains_cons,ze2 this,Bool.false_or]) hscr
     exact⟨V',FO',k1,by rw[k2],k3⟩
    intro hwt
    rw[hwt] at hs
    simp only[xfq] at hs
    exact next Go.undef H M fl (fun i hi=>.inl hi) (by
     rw[s.hfl]
     refine zgv fun i hi=>?_
     have:i≠w:=by rintro rfl;exact st.aw i hi hWm'
     rw[contains_cons,ze2 this,Bool.false_or]) hs
  have hWm':m∉W:=by rwa [List.contains_iff_mem] at hWm
  have hWc:W.contains m=false:=zgb.2 hWm'
  simp only[hWc,xfq,xfr] at hc hs
  obtain⟨hc1,hc2⟩:=hc
  have hsame:FO m=none:=s.fo m hdm
  have hflsame:fl=flOf (fun i=>(m::d).contains i) M FO As:=by
   rw[s.hfl]
   refine zgv fun i hi=>?_
   by_cases him:i=m
   ·subst him;rw[hsame];cases (d.contains i&&!M i)<;>cases ((i::d).contains i&&!M i)<;>rfl
   rw[contains_cons,ze2 him,Bool.false_or]
  by_cases hwt:Region.wanted o (za2 ops ts)=true
  ·have hwt':=hwt
   rw[hag.wanted] at hwt'
   simp only[hwt,xfp] at hs
   by_cases hA:As.contains m=true
   ·have hA':m∈As:=by rwa [List.contains_iff_mem] at hA
    simp only[hA,xfp,List.all_eq_true,Bool.or_eq_true,Bool.not_eq_true'] at hc1 hs
    obtain⟨v,x,ha,hscr⟩:=hs
    have hfo:∀j,j≠m→upd FO m (some x) j=FO j:=fun j hj=>zgw hj
    refine lift v (upd FO m (some x)) hfo (zoq st hdec r (m::d) Wrem todo last _ _ M H _ _ hc2 (s.rd st ho hdm hp hWm' hfo ?_ ?_) hscr)
    ·have e:(fun i=>(m::d).contains i)=fun i=>Nat.beq i m||d.contains i:=by funext i;rw[contains_cons]
     rw[e,ztr hdec hA' (fun k hk=>(hc1 k hk).imp (fun h=>xfo h) (fun h=>h)) hdm hMm,← s.hfl]
    refine .inl ⟨?_,.inr ⟨x,hA',zgi _ _ _,?_⟩⟩
    ·rw[htsm];exact hwt'
    rw[htsm,zgi,← zol hag.eval];exact ha
   have hA':m∉As:=by rwa [List.contains_iff_mem] at hA
   have hAc:As.contains m=false:=zgb.2 hA'
   simp only[hAc,xfq] at hc1 hs
   obtain⟨v,h1,ha,hscr⟩:=hs
   refine lift v FO (fun _ _=>rfl) (zoq st hdec r (m::d) Wrem todo last _ _ M H _ _ hc2 (s.rd st ho hdm hp hWm' (fun _ _=>rfl) hflsame ?_) hscr)
   refine .inl ⟨?_,.inl ⟨hc1,hA',hsame,h1,?_⟩⟩
   ·rw[htsm];exact hwt'
   rw[htsm,zgi,heq FO (fun _ _=>rfl),← zfp hag.eval];exact ha
  have hwt:Region.wanted o (za2 ops ts)=false:=by rwa [Bool.not_eq_true] at hwt
  have hwt':=hwt
  rw[hag.wanted] at hwt'
  simp only[hwt,xfq] at hs
  refine lift Go.undef FO (fun _ _=>rfl) (zoq st hdec r (m::d) Wrem todo last _ _ M H _ _ hc2 (s.rd st ho hdm hp hWm' (fun _ _=>rfl) hflsame ?_) hs)
  refine .inr ⟨?_,zgi _ _ _,hsame⟩
  rw[htsm];exact hwt'
 |.ck m::r,d,Wrem,todo,last,V,FO,M,H,ts,fl,hc,s,hs=>by
  obtain⟨o,t,ho,hdst,hck,hs⟩:=hs
  simp only[zhn,ho,xfr] at hc
  obtain⟨⟨_,hst⟩,hc⟩:=hc
  refine zoq st hdec r d Wrem _ last V FO M H ts fl hc ⟨s.hts,s.hfl,s.closed,s.wr,s.wsub,s.wpw,s.fo,s.mer,s.old,fun k ok hok hk hkW htodo hl=>?_⟩ hs
  by_cases hkm:k=m
  ·subst hkm
   rw[ho] at hok;injection hok with hok;subst hok
   obtain⟨M0,H0,h0⟩:=s.old k o ho hk hkW
   have hag:=zr3 (ts0:=ts0) (V:=V) (L:=fun i=>d.contains i) ho hst hk s.closed
   rw[← s.hts] at hag
   have hp:∀j,bm ms j k=true→d.contains j=true:=fun j hj=>s.closed j k hj hk
   have heq:addF base id FO (fun i=>bm ms i k&&!M i) As H=zcw base (fun i=>bm ms i k) fl H:=by
    rw[s.hfl,zir]
    refine zeq fun j _=>?_
    cases hb:bm ms j k with
    |false=>rfl
    |true=>rw[hp j hb];simp
   rcases h0 with⟨hw,⟨h1,h2,h3,h4,ha⟩|hA⟩|h0
   ·obtain⟨v,h5,hv,ha2⟩:=hck (by rw[hag.wanted];exact hw)
    rw[s.hts] at hv
    have hvm:=zvn (ts0:=ts0) st (V:=V) (L:=fun i=>d.contains i) ho hst hdst hk hv
    subst hvm
    exact .inl ⟨hw,.inl ⟨h1,h2,h3,h5,by rw[heq,← zfp hag.eval];exact ha2⟩⟩
   ·exact .inl ⟨hw,.inr hA⟩
   exact .inr h0
  refine s.now k ok hok hk hkW (fun h=>htodo ?_) hl
  rw[List.mem_filter]
  exact⟨h,by rw[ze2 hkm];rfl⟩
theorem AW.sched {id:Nat}{ts:Tmps}{h:zaa}{items:List zfl}(hm:P.follows .mixedOrders=true)(hst:zsd ops ms W As=true)(hdec:znw As=true)(hc:zhn ops ms W As [] W [] items=true)
  (hs:Scr P lo ops h.next ms W As (Q .normal) items ts [] (zaa.zbi (nAof As ops.size) h)):AW P lo (.region id ops true) Q ts h:=by
 have st:=zv6 hst
 have e1:tsF ops (fun _=>Go.undef) (fun _=>false) ts ops.size=ts:=by
  have:∀n,tsF ops (fun _=>Go.undef) (fun _=>false) ts n=ts:=by
   intro n
   induction n with
   |zero=>rfl
   |succ n ih=>simp only[tsF,xfq];exact ih
  exact this _
 have e2:[]=flOf (fun _=>false) (fun _=>false) (fun _=>none) As:=by
  have:∀as,flOf (fun _=>false) (fun _=>false) (fun _=>none) as=[]:=by
   intro as
   induction as with
   |nil=>rfl
   |cons a r ih=>rw[zjw rfl];exact ih
  exact(this As).symm
 obtain⟨V',FO',_,hD⟩:=zoq (P:=P) (lo:=lo) (base:=h.next) (ts0:=ts) (Q:=Q) st hdec items [] W [] none (fun _=>Go.undef) (fun _=>none) (fun _=>false) (zaa.zbi (nAof As ops.size) h) ts [] hc
  ⟨e1.symm,e2,fun _ _ _ h=>(by cases h),fun w hw=>⟨fun h=>(by cases h),fun h=>absurd hw h⟩,fun _ h=>h,st.chain,fun _ _=>rfl,fun _ h=>(by cases h),fun _ _ _ h=>(by cases h),fun _ _ _ h=>(by cases h)⟩ hs
 exact AW.drawn hm st hD
end
end Go.Am
end
/-
 The abstract machine, part R: ranges over functions; parts of the heap that are not written.
-/
section
namespace Go.Am
section
variable {P:Program} {lo:Nat} {Q:zev} {ts:Tmps} {h:zaa}
theorem Rel.kill {μ:Mu}{w:World}(r:Rel μ lo h w)(l:Nat)(hl:l<h.next):Rel μ lo (h.put l none) w:=
 r.sub (Nat.le_refl _) (fun o x hx=>by
  rw[zaa.zaw _ _ _ _ hl] at hx
  by_cases ho:o=l
  ·simp[ho] at hx
  simpa[ho] using hx) (Nat.le_refl _) r.lole
theorem Frame.kill {μ μ':Mu}{h':zaa}{w w':World}(f:Frame lo μ h w μ' h' w')(l:Nat)(hl:l<h'.next)(hlo:lo≤l):Frame lo μ h w μ' (h'.put l none) w' where
  le:=f.le
  size:=f.size
  next:=f.next
  kept:=f.kept
  own b hb:=by
    rintro⟨o,x,a,C,h1,h2,h3⟩
    rw[zaa.zaw _ _ _ _ hl] at h2
    by_cases ho:o=l
    · simp[ho] at h2
    exact f.own b hb ⟨o,x,a,C,h1,by simpa[ho] using h2,h3⟩
  low o ho:=by rw[zaa.zaw _ _ _ _ hl,if_neg (by omega)];exact f.low o ho
  old:=f.old
  born o ho hn:=by
    rw[zaa.zaw _ _ _ _ hl]
    by_cases hol:o=l
    · simp[hol]
    simpa[hol] using f.born o ho hn
  calm:=f.calm
theorem zu9 {μ:Mu}{w:World}(r:Rel μ lo h w){l b a C:Nat}{x:AObj}(hlo:lo≤l)(hx:h.get l=some x)(hm:μ l=some (b,a,C)):Unm μ (h.put l none) b:=by
 intro o y a' C' hy hm'
 rw[zaa.zaw _ _ _ _ (zaa.zai hx)] at hy
 by_cases ho:o=l
 ·simp[ho] at hy
 simp[ho] at hy
 exact ho (r.inj l o x y b a C a' C' hlo hx hy hm hm').symm
theorem Rel.zyk {μ:Mu}{w:World}{o:Obj}(r:Rel μ lo h w){l b C:Nat}{x:AObj}(hl:l<h.next)(hm:μ l=some (b,0,C))(u:Unm μ h b)(hx:RelO μ (w.putObj b o) b 0 C x)(hf:∀off,(w.putObj b o).frozen? ⟨b,off,none⟩=false) :
  Rel μ lo (h.put l (some x)) (w.putObj b o):=by
 have r':=zg7 o r u
 refine⟨fun p y hy=>?_,fun p p' y y' b' a C1 a' C2 hlp hy hy' hm1 hm2=>?_,r.dom,fun p y b' a C1 hp hy hm1 off=>?_,r.lole⟩
 ·rw[zaa.zaw _ _ _ _ hl] at hy
  by_cases hpl:p=l
  ·subst hpl;simp at hy;subst hy;exact⟨b,0,C,hm,hx⟩
  exact r'.objs p y (by simpa[hpl] using hy)
 ·rw[zaa.zaw _ _ _ _ hl] at hy hy'
  by_cases hpl:p=l
  ·by_cases hpl':p'=l
   ·rw[hpl,hpl']
   simp[hpl'] at hy'
   subst hpl;rw[hm] at hm1;injection hm1 with hm1;injection hm1 with hm1 _;subst hm1
   exact(u p' y' a' C2 hy' hm2).elim
  simp[hpl] at hy
  by_cases hpl':p'=l
  ·subst hpl';rw[hm] at hm2;injection hm2 with hm2;injection hm2 with hm2 _;subst hm2
   exact(u p y a C1 hy hm1).elim
  simp[hpl'] at hy'
  exact r.inj p p' y y' b' a C1 a' C2 hlp hy hy' hm1 hm2
 rw[zaa.zaw _ _ _ _ hl] at hy
 by_cases hpl:p=l
 ·subst hpl;rw[hm] at hm1;injection hm1 with hm1;injection hm1 with hm1 _;subst hm1;exact hf off
 exact r'.thaw p y b' a C1 hp (by simpa[hpl] using hy) hm1 off
theorem Frame.zyk {μ μ':Mu}{h':zaa}{w w':World}(f:Frame lo μ h w μ' h' w'){l b C:Nat}{x y:AObj}(hl:l<h'.next)(hlo:lo≤l)(hx:h.get l=some x)(hm:μ l=some (b,0,C)):Frame lo μ h w μ' (h'.put l (some y)) w' where
  le:=f.le
  size:=f.size
  next:=f.next
  kept:=f.kept
  own b' hb:=by
    rintro⟨o,z,a,C',h1,h2,h3⟩
    rw[zaa.zaw _ _ _ _ hl] at h2
    by_cases ho:o=l
    · subst ho
      rw[f.le _ _ hm] at h3;injection h3 with h3;injection h3 with h3 _;subst h3
      exact⟨o,x,0,C,hlo,hx,hm⟩
    exact f.own b' hb ⟨o,z,a,C',h1,by simpa[ho] using h2,h3⟩
  low o ho:=by rw[zaa.zaw _ _ _ _ hl,if_neg (by omega)];exact f.low o ho
  old:=f.old
  born o ho hn:=by
    rw[zaa.zaw _ _ _ _ hl,if_neg (by rintro rfl;rw[hx] at hn;cases hn)]
    exact f.born o ho hn
  calm:=f.calm
def zgc (ts:Tmps):List (Tmp×Value)→Tmps
 |[]=>ts
 |(t,v)::r=>zgc (ts.set t v) r
theorem zoj {μ:Mu}:∀(ps:List Tmp) {vs vs':List Value} {ts:Tmps} {tmps:Array Value},zas μ vs vs'→RelT μ ts tmps→
  RelT μ (zgc ts (ps.zip vs)) ((ps.zip vs').foldl (fun tmps (x:Tmp×Value)=>tmps.setIfInBounds x.1 x.2) tmps)
 |[],_,_,_,_,_,ht=>by simpa[zgc] using ht
 |p::ps,[],vs',_,_,hv,ht=>by
  have:=hv.zcd;subst this
  simpa[zgc] using ht
 |p::ps,v::vs,vs',ts,tmps,hv,ht=>by
  obtain⟨v',r',rfl,h1,h2⟩:=hv.zax
  simp only[List.zip_cons_cons,zgc,List.foldl_cons]
  refine zoj ps h2 ?_
  have:=zas.set p ht h1
  simpa[RelT] using this
def zq4 (L:z0v)(l:Nat)(K:Bool→zaa→Prop):zev
 |.normal,_,h=>K true (h.put l (some (.loop L none)))
 |.ret,_,h=>K false (h.put l (some (.loop L (some .ret))))
 |.exit id,_,h=>K false (h.put l (some (.loop L (some (.exit id)))))
 |.goto t,_,h=>K false (h.put l (some (.loop L (some (.goto t)))))
 |_,_,_=>False
theorem zgm.yield {o:Oper}{fo:Operand}{args:Array Operand}{aT:Array TypeId}{l:Nat}{L:z0v}{vs:List Value}{next:Tmps→zaa→Prop}(ho:o.op=.call ⟨.value fo,args,aT⟩)
  (hf:za7 ts fo=some (.func (.yield l) #[] #[])) (hl:zea ts args.toList=some vs) (hg:h.get l=some (.loop L none)) (hlo:lo≤l) (hlen:vs.length=L.params.size)
  (hc:AW P lo L.assign (ziw (AW P lo L.body (zq4 L l fun b h'=>next (aput ts o.dst (.bool b)) h')) (fun _ _ _=>False)) (zgc L.ts (L.params.toList.zip vs)) (h.put l none)):zgm P lo o ts h next:=by
 intro F hF n μ a w Q ht r
 refine⟨zc3 F hF,?_⟩
 rw[Oper.semAt_eq _ _ _ (fun c hc=>by rw[ho] at hc;cases hc)]
 have hfr:=zan ht hf
 generalize hfe:a.eval fo=fv at hfr
 cases hfr with
 |yieldV _ b C hm=>
  obtain⟨b',a',C',hm',hobj⟩:=r.objs l _ hg
  rw[hm] at hm';injection hm' with hm';injection hm' with e1 e2;injection e2 with e2 e3;subst e1;subst e2;subst e3
  obtain⟨_,rec,hrec,hst,hpend,hpar,has,hbo,hts⟩:=hobj
  have hb:=zbm hrec
  have hvs:=zf1 ht hl
  have hsz:(#[]++args.map a.eval:Array Value).size=rec.params.size:=by
   have:=hvs.1
   rw[hpar,← hlen,this];simp
  have hrun:(execOp a.eval o).run P w=.ok (.round b rec.fn ((rec.params.zip (#[]++args.map a.eval)).foldl (fun tmps (t,a)=>tmps.setIfInBounds t a) rec.tmps) rec.assign rec.body) w:=by
   simp only[execOp,ho,resolve,hfe,Deferred.ofValue,Sem.run_bind,Sem.run_pure,Result.andThen_ok,invoke,run_yield hrec hsz]
  rw[hrun]
  refine⟨hF.one n,?_⟩
  refine roundIn_of_wpIn (hF.fn _) ?_
  have hll:=zaa.zai hg
  have hown:Own μ lo h b:=⟨l,_,0,C,hlo,hg,hm⟩
  have hu:=zu9 r hlo hg hm
  have rk:=r.kill l hll
  have fk:Frame lo μ h w μ (h.put l none) w:=(Frame.refl lo μ h w).kill l hll hlo
  have htm:RelT μ (zgc L.ts (L.params.toList.zip vs)) ((rec.params.zip (#[]++args.map a.eval)).foldl (fun tmps (t,a)=>tmps.setIfInBounds t a) rec.tmps):=by
   have:=zoj L.params.toList (μ:=μ) (vs:=vs) (vs':=(args.map a.eval).toList) (by simpa using hvs) hts
   rw[← Array.foldl_toList,hpar]
   simpa using this
  rw[has]
  refine wpIn_mono (hc (F.inRound b) (hF.inRound b) (n - 1) μ { tmps:=_,defers:=[] } w htm rk (fun l' hl'=>?_)) fun e a1 w1 hl1=>?_
  ·have:b=l':=by simpa[Fence.inRound] using hl'
   subst this;exact⟨rec,hrec,hu⟩
  obtain⟨ts1,h1,μ1,ms1,ht1,r1,f1,hd1,_,hq⟩:=hl1
  cases e with
  |normal=>
   have hrec1:w1.heap[b]?=some (.loop rec):=by rw[f1.kept b hb hu.own];exact hrec
   have hu1:=hu.frame hb f1
   refine⟨_,run_beginRound hrec1 (by rw[hst];rfl),?_⟩
   rw[← hbo] at hq
   have hb1:=zbm hrec1
   have r2:=zg7 (.loop { rec with state:=.busy }) r1 hu1
   have f2:=zfr (.loop { rec with state:=.busy }) (fk.trans f1) (.inr hown)
   have hrec2:(w1.putObj b (.loop { rec with state:=.busy })).heap[b]?=some (.loop { rec with state:=.busy }):=World.putObj_heap_same hb1
   refine wpIn_mono (hq (F.inRound b) (hF.inRound b) (n - 1) μ1 a1 _ ht1 r2 (fun l' hl'=>?_)) fun e a2 w3 hl2=>?_
   ·have:b=l':=by simpa[Fence.inRound] using hl'
    subst this;exact⟨_,hrec2,hu1⟩
   obtain⟨ts3,h3,μ3,ms3,ht3,r3,f3,hd3,_,hq3⟩:=hl2
   have hb2:=zbm hrec2
   have hrec3:w3.heap[b]?=some (.loop { rec with state:=.busy }):=by rw[f3.kept b hb2 hu1.own];exact hrec2
   have hb3:=zbm hrec3
   have hu3:=hu1.frame hb2 f3
   have f03:=f2.trans f3
   have hm3:=f03.le _ _ hm
   have hl3:l<h3.next:=Nat.lt_of_lt_of_le hll f03.next
   have fin:∀(jump:Option Code),next (aput ts o.dst (.bool jump.isNone)) (h3.put l (some (.loop L jump)))→
     ∃v w',(Instr.endRound b jump).run P w3=.ok v w'∧Lift lo μ h w a.defers (fun _=>next) .normal (a.put o.dst v) w':=by
    intro jump hn
    refine⟨_,_,run_endRound jump hrec3,aput ts o.dst (.bool jump.isNone),h3.put l (some (.loop L jump)),μ3,zek (ht.mono f03.le) (.bool _) o.dst,?_,?_,put_defers _ _ _,hn⟩
    ·refine r3.zyk hl3 hm3 hu3 ⟨rfl,_,World.putObj_heap_same hb3,rfl,rfl,hpar,has,hbo,hts.mono f03.le⟩ fun off=>?_
     simp only[World.frozen?,World.putObj_heap_same hb3]
    exact(zfr _ f03 (.inr hown)).zyk hl3 hlo hg hm
   cases e with
   |normal=>exact fin none hq3
   |ret=>exact fin (some .ret) hq3
   |exit id=>exact fin (some (.exit id)) hq3
   |goto t=>exact fin (some (.goto t)) hq3
   |panic ch=>exact hq3.elim
   |outgrown=>exact hq3.elim
  |exit id=>exact hq.elim
  |goto l=>exact hq.elim
  |ret=>exact hq.elim
  |panic ch=>exact hq.elim
  |outgrown=>exact hq.elim
theorem zhv {μ:Mu}{w:World}(o:Obj)(r:Rel μ lo h w):Rel μ lo h (w.alloc o)∧Frame lo μ h w μ h (w.alloc o)∧Unm μ h w.heap.size:=by
 have hblk:∀p y b a C',h.get p=some y→μ p=some (b,a,C')→b<w.heap.size:=fun p y b a C' hy hm=>by
  obtain⟨b',a',C'',h1,h2⟩:=r.objs p y hy
  rw[hm] at h1;injection h1 with h1;injection h1 with h1 _;subst h1
  exact h2.zcq
 refine⟨⟨fun p y hy=>?_,r.inj,r.dom,fun p y b a C hl hy hm off=>?_,r.lole⟩,⟨Mu.le_refl _,by simp,Nat.le_refl _,fun b hb _=>heap_alloc_old _ _ hb,fun _ _ h=>h,fun _ _=>rfl,fun _ _=>rfl,fun _ _ h=>h,⟨rfl,rfl⟩⟩,fun p y a C hy hm=>?_⟩
 ·obtain⟨b,a,C,h1,h2⟩:=r.objs p y hy
  exact⟨b,a,C,h1,h2.kept (heap_alloc_old _ _ h2.zcq)⟩
 ·rw[zbn (heap_alloc_old _ _ (hblk p y b a C hy hm))]
  exact r.thaw p y b a C hl hy hm off
 exact Nat.lt_irrefl _ (hblk p y _ a C hy hm)
theorem AW.rangeFunc (tag:Nat){g:Operand}{ps:Array Tmp}{assign body:Code}{f:FuncId}{first captured:Array Value}(hg:za7 ts g=some (.func (.func f) first captured))(hcf:∀as w,(callFunc f as).run P w=.ok (.enter f as) w)
  (hc:zc0 P lo f (first.toList++[.func (.yield h.next) #[] #[]]++captured.toList) (h.alloc (.loop ⟨ps,assign,body,ts,tag⟩ none)) fun _ h'=>
   ∃L jump,h'.get h.next=some (.loop L jump)∧match jump with
    |none=>Q .normal ts (h'.put h.next none)
    |some c=>AW P lo c Q ts (h'.put h.next none)):AW P lo (.rangeFunc g ps assign body) Q ts h:=by
 intro F hF n μ a w ht r ro
 refine wpIn_rangeFunc fun fn hfn=>?_
 have enter:∃mark w' rec,(Instr.enterLoop fn a.tmps ps assign body F.round).run P w=.ok (w'.heap.size,mark) (w'.alloc (.loop rec))∧Rel μ lo h w'∧Frame lo μ h w μ h w'∧zb5 w.heap.size μ h w' mark∧
   rec.state=.ready∧rec.pending=none∧rec.params=ps∧rec.assign=assign∧rec.body=body∧rec.tmps=a.tmps:=by
  cases hro:F.round with
  |none=>
   obtain⟨k1,k2,k3⟩:=zhv (.deferred (some [])) r
   refine⟨[{ target:=.collected w.heap.size,args:=#[] }],w.alloc (.deferred (some [])),{ state:=.ready,pending:=none,fn,tmps:=a.tmps,params:=ps,assign,body,defers:=w.heap.size },?_,k1,k2,
    ⟨⟨w.heap.size,rfl,Nat.le_refl _,by rw[heap_alloc];simp,k3,fun _ h=>(by cases h)⟩,trivial⟩,rfl,rfl,rfl,rfl,rfl,rfl⟩
   rw[run_enterLoop_outer,World.size_alloc]
  |some l0=>
   obtain⟨r0,h1,_⟩:=ro l0 hro
   refine⟨[],w,{ state:=.ready,pending:=none,fn,tmps:=a.tmps,params:=ps,assign,body,defers:=r0.defers },?_,r,Frame.refl _ _ _ _,trivial,rfl,rfl,rfl,rfl,rfl,rfl⟩
   simp only[Instr.enterLoop,Sem.run_bind,run_getLoop h1,Result.andThen_ok,Sem.run_pure,run_newObj_alloc]
 obtain⟨mark,w',rec,hrun,r',f',hmk,hs1,hs2,hs3,hs4,hs5,hs6⟩:=enter
 have hobj:RelO (μ.put h.next (w'.heap.size,0,0)) (w'.alloc (.loop rec)) w'.heap.size 0 0 (.loop ⟨ps,assign,body,ts,tag⟩ none):=
  ⟨rfl,rec,by rw[heap_alloc];simp,hs1,hs2,hs3,hs4,hs5,by rw[hs6];exact ht.mono (r'.zjq _)⟩
 obtain⟨r1,f1⟩:=zmz r' (.loop rec) 0 (.loop ⟨ps,assign,body,ts,tag⟩ none) hobj (fun off=>by simp only[World.frozen?,heap_alloc];simp)
 have hfr:=zan ht hg
 generalize hfe:a.eval g=fv at hfr
 cases hfr with
 |func _ _ _ first' captured' hx hy rx ry=>
  refine⟨w'.heap.size,mark,w'.alloc (.loop rec),{ target:=.fn (.func f) captured',args:=first'++#[.func (.yield w'.heap.size) #[] #[]] },w'.alloc (.loop rec),f,first'++#[.func (.yield w'.heap.size) #[] #[]]++captured',w'.alloc (.loop rec),hrun,?_,fun f' _=>hF.fn f',by simp only[invoke];exact hcf _ _,hF.one n,?_⟩
  ·have hev:Array.map a.eval #[Operand.const (.func (.yield w'.heap.size) #[] #[])]=#[.func (.yield w'.heap.size) #[] #[]]:=by simp[Act.eval]
   simp only[resolve,hfe,Deferred.ofValue,Sem.run_pure,hev]
  have hpl:Wide F.plain:=⟨hF.fn,hF.depth,hF.alive⟩
  have hargs:zas (μ.put h.next (w'.heap.size,0,0)) (first.toList++[Value.func (.yield h.next) #[] #[]]++captured.toList) (first'++#[Value.func (.yield w'.heap.size) #[] #[]]++captured').toList:=by
   simp only[Array.toList_append]
   exact(((zba.2 ⟨hx,rx⟩).mono (r'.zjq _)).append (.cons (.yieldV _ _ 0 (Mu.zaf _ _ _)) (.nil _))).append ((zba.2 ⟨hy,ry⟩).mono (r'.zjq _))
  have hcall:CallsIn F (n - 1) P f (first'++#[.func (.yield w'.heap.size) #[] #[]]++captured') (w'.alloc (.loop rec)) _:=hc F.plain hpl rfl (n - 1) _ _ _ hargs r1
  refine hcall.mono fun e w3 ⟨r2,v,h',μ',e1,e2,r3,f3,L,jump,hj,hq⟩=>?_
  subst e1
  obtain⟨b,a',C',hm',hob⟩:=r3.objs h.next _ hj
  rw[f3.le _ _ (Mu.zaf _ _ _)] at hm'
  injection hm' with hm';injection hm' with k1 k2;injection k2 with k2 k3;subst k1;subst k2;subst k3
  obtain⟨_,rec',hrec',hst',hpend',_⟩:=hob
  have hnb:rec'.state≠.busy:=by rw[hst'];cases jump<;>simp
  have hu:=zu9 r3 r.lole hj (f3.le _ _ (Mu.zaf _ _ _))
  have hlt:=zaa.zai hj
  have hlole:=r.lole
  have r4:=zg7 (.loop { rec' with state:=.exhausted }) (r3.kill h.next hlt) hu
  have f4:Frame lo μ h w' μ' (h'.put h.next none) (w3.putObj w'.heap.size (.loop { rec' with state:=.exhausted })):=
   zfr _ ((f1.trans f3).kill h.next hlt hlole) (.inl (Nat.le_refl _))
  refine⟨jump,_,(run_endLoop hrec' hnb).trans (congrArg (fun j=>Result.ok j _) hpend'),?_⟩
  cases jump with
  |none=>exact⟨ts,_,μ',mark,ht.mono f4.le,r4,f'.trans f4,rfl,hmk.frame f4,hq⟩
  |some c=>
   have:=hq F hF n μ' { a with defers:=mark++a.defers } _ (ht.mono f4.le) r4 (ro.frame (f'.trans f4))
   exact wpIn_mono this fun _ _ _ hl=>hl.trans (f'.trans f4) (hmk.frame f4)
theorem zff {b:Go.Frame}{a:Act}{k:List Item}{cs:List Go.Frame}{w:World}{c:Code}:step P (lone (b.atR a (.code (.scope c)::k)) cs w)=.next (lone (b.atR a (.code c::.inScope c::k)) cs w):=
 step_lone_go (by simp[stepG,stepG.exec,Frame.atR])
theorem zpg {b:Go.Frame}{a:Act}{k:List Item}{cs:List Go.Frame}{w:World}{c:Code}:step P (lone (b.atR a (.inScope c::k)) cs w)=.next (lone (b.atR a k) cs w):=
 step_lone_go (by simp[stepG,stepG.exec,Frame.atR])
theorem zjj {F:Fence}{n:Nat}{c:Code}{Q:Exit→Act→World→Prop}{a:Act}{w:World}(h:c.wpIn F n P (Exit.noGoto Q) a w):(Code.scope c).wpIn F n P Q a w:=by
 intro b k cs hro hb hr
 have h0:(lone (b.atR a (.code (.scope c)::k)) cs w).fenced P F:=fenced_calm hb hr rfl
 obtain⟨e,a₁,w₁,hq,harr⟩:=h b (.inScope c::k) cs hro hb hr
 cases e with
 |normal=>exact⟨.normal,a₁,w₁,hq,.head h0 zff (StepsIn.trans harr (.one (fenced_calm hb hr rfl) zpg))⟩
 |exit id=>
  have hx:exitTo id (.inScope c::k)=exitTo id k:=by simp[exitTo]
  exact⟨_,a₁,w₁,hq,fun k' hk=>.head h0 zff (harr.1 k' (by rw[hx];exact hk)),
   fun hr' hk=>let ⟨k₁,h1,h2⟩:=harr.2 hr' (by rw[hx];exact hk);⟨k₁,h1,.head h0 zff h2⟩⟩
 |goto l=>exact hq.elim
 |ret=>exact⟨_,a₁,w₁,hq,.of_steps (.one h0 zff) harr⟩
 |panic ch=>exact⟨_,a₁,w₁,hq,.of_steps (.one h0 zff) harr⟩
 |outgrown=>exact⟨_,a₁,w₁,hq,.of_steps (.one h0 zff) harr⟩
def z4w (Q:zev):zev
 |.goto _,_,_=>False
 |e,ts,h=>Q e ts h
theorem AW.scope {c:Code}(hc:AW P lo c (z4w Q) ts h):AW P lo (.scope c) Q ts h:=by
 intro F hF n μ a w ht r ro
 refine zjj (wpIn_mono (hc F hF n μ a w ht r ro) fun e a' w' hl=>?_)
 cases e with
 |goto l=>obtain⟨_,_,_,_,_,_,_,_,_,h⟩:=hl;exact h.elim
 |normal=>exact hl
 |exit id=>exact hl
 |ret=>exact hl
 |panic ch=>exact hl
 |outgrown=>exact hl
theorem zng {μ μ':Mu}{h':zaa}{w w':World}{lo':Nat}(r:Rel μ lo h w)(hlo:lo≤lo')(r':Rel μ' lo' h' w')(f:Frame lo' μ h w μ' h' w'):Rel μ' lo h' w'∧Frame lo μ h w μ' h' w':=by
 have hsame:∀o x b a C,o<lo'→h'.get o=some x→μ' o=some (b,a,C)→h.get o=some x∧μ o=some (b,a,C):=fun o x b a C ho hx hm=>by
  rw[f.low o ho] at hx
  exact⟨hx,by rw[← f.old o (zaa.zai hx)];exact hm⟩
 have hno:∀o x b a C,o<lo'→h.get o=some x→μ o=some (b,a,C)→¬Own μ lo' h b:=fun o x b a C ho hx hm=>by
  rintro⟨o',x',a',C',h1,h2,h3⟩
  have:=r.inj o' o x' x b a' C' a C (by omega) h2 hx h3 hm
  omega
 refine⟨⟨r'.objs,fun o o' x x' b a C a' C' hl hx hx' hm hm'=>?_,r'.dom,fun o x b a C hl hx hm off=>?_,Nat.le_trans hlo r'.lole⟩,⟨f.le,f.size,f.next,fun b hb hn=>f.kept b hb (fun⟨o,x,a,C,h1,h2,h3⟩=>hn ⟨o,x,a,C,by omega,h2,h3⟩),fun b hb=>?_,fun o ho=>f.low o (by omega),f.old,f.born,f.calm⟩⟩
 ·by_cases ho:lo'≤o
  ·exact r'.inj o o' x x' b a C a' C' ho hx hx' hm hm'
  by_cases ho':lo'≤o'
  ·exact(r'.inj o' o x' x b a' C' a C ho' hx' hx hm' hm).symm
  obtain⟨g1,g2⟩:=hsame o x b a C (by omega) hx hm
  obtain⟨g3,g4⟩:=hsame o' x' b a' C' (by omega) hx' hm'
  exact r.inj o o' x x' b a C a' C' hl g1 g3 g2 g4
 ·by_cases ho:o<lo'
  ·obtain⟨g1,g2⟩:=hsame o x b a C ho hx hm
   rw[zbn (f.kept b (ze0 r g1 g2).zcq (hno o x b a C ho g1 g2))]
   exact r.thaw o x b a C hl g1 g2 off
  exact r'.thaw o x b a C (by omega) hx hm off
 rintro⟨o,x,a,C,g1,g2,g3⟩
 by_cases ho:o<lo'
 ·obtain⟨k1,k2⟩:=hsame o x b a C ho g2 g3
  exact⟨o,x,a,C,g1,k1,k2⟩
 obtain⟨o2,x2,a2,C2,k1,k2,k3⟩:=f.own b hb ⟨o,x,a,C,by omega,g2,g3⟩
 exact⟨o2,x2,a2,C2,by omega,k2,k3⟩
theorem AW.raise {c:Code}(lo':Nat)(hlo:lo≤lo')(hn:lo'≤h.next)(hc:AW P lo' c Q ts h):AW P lo c (fun e ts' h'=>Q e ts' h'∧∀o,o<lo'→h'.get o=h.get o) ts h:=by
 intro F hF n μ a w ht r ro
 refine wpIn_mono (hc F hF n μ a w ht (r.sub (Nat.le_refl _) (fun _ _ hx=>hx) hlo hn) ro) fun e a' w' ⟨ts',h',μ',ms,h1,h2,h3,h4,h5,h6⟩=>?_
 obtain⟨k1,k2⟩:=zng r hlo h2 h3
 exact⟨ts',h',μ',ms,h1,k1,k2,h4,h5,h6,fun o ho=>h3.low o ho⟩
end
end Go.Am
end
/-
 The abstract machine, part S: an evaluator: operations, by temporaries in a trie.
-/
section
namespace Go.Am
inductive Ps where
  |h
  |o (p:Ps)
  |i (p:Ps)
  deriving DecidableEq
noncomputable def posF (k:Nat):Nat→Ps:=
 Nat.rec (motive:=fun _=>Nat→Ps) (fun _=>.h) (fun _ ih m=>cond (Nat.ble m 1) .h (cond (Nat.beq (m % 2) 0) (.o (ih (m / 2))) (.i (ih (m / 2))))) k
noncomputable def posOf (n:Nat):Ps:=posF (n+1) (n+1)
def Ps.val:Ps→Nat
 |.h=>1
 |.o p=>2*p.val
 |.i p=>2*p.val+1
theorem zpd:∀(k m:Nat),1≤m→m≤k→(posF k m).val=m
 |0,m,h1,h2=>by omega
 |k+1,m,h1,h2=>by
  show (cond (Nat.ble m 1) Ps.h (cond (Nat.beq (m % 2) 0) (.o (posF k (m / 2))) (.i (posF k (m / 2))))).val=m
  cases hb:Nat.ble m 1 with
  |true=>
   have:=xfo hb
   simp only[xfp,Ps.val];omega
  |false=>
   have hm:¬m≤1:=fun h=>by rw[Nat.ble_eq_true_of_le h] at hb;cases hb
   simp only[xfq]
   have ih:=zpd k (m / 2) (by omega) (by omega)
   cases hc:Nat.beq (m % 2) 0 with
   |true=>
    have:=xfs hc
    simp only[xfp,Ps.val,ih];omega
   |false=>
    have:m % 2≠0:=fun h=>by rw[h] at hc;cases hc
    simp only[xfq,Ps.val,ih];omega
theorem zr5 {i j:Nat}(h:posOf i=posOf j):i=j:=by
 have h1:=zpd (i+1) (i+1) (by omega) (Nat.le_refl _)
 have h2:=zpd (j+1) (j+1) (by omega) (Nat.le_refl _)
 unfold posOf at h
 rw[h,h2] at h1
 omega
inductive PT where
  |leaf
  |node (l:PT) (v:Value) (r:PT)
noncomputable def zdo (p:Ps):PT→Value:=
 Ps.rec (motive:=fun _=>PT→Value) (fun t=>PT.rec (motive:=fun _=>Value) Go.undef (fun _ v _ _ _=>v) t)
  (fun _ ih t=>PT.rec (motive:=fun _=>Value) Go.undef (fun l _ _ _ _=>ih l) t) (fun _ ih t=>PT.rec (motive:=fun _=>Value) Go.undef (fun _ _ r _ _=>ih r) t) p
noncomputable def zjb (v:Value)(p:Ps):PT→PT:=
 Ps.rec (motive:=fun _=>PT→PT) (fun t=>PT.rec (motive:=fun _=>PT) (.node .leaf v .leaf) (fun l _ r _ _=>.node l v r) t)
  (fun _ ih t=>PT.rec (motive:=fun _=>PT) (.node (ih .leaf) Go.undef .leaf) (fun l u r _ _=>.node (ih l) u r) t)
  (fun _ ih t=>PT.rec (motive:=fun _=>PT) (.node .leaf Go.undef (ih .leaf)) (fun l u r _ _=>.node l u (ih r)) t) p
theorem zfj (p:Ps):zdo p .leaf=Go.undef:=by cases p<;>rfl
theorem zgq (v:Value):∀(p q:Ps) (t:PT),zdo q (zjb v p t)=if q=p then v else zdo q t
 |.h,.h,t=>by cases t<;>simp[zdo,zjb]
 |.h,.o q,t=>by
  cases t with
  |leaf=>show zdo q .leaf=_;rw[zfj];simp[zdo]
  |node l u r=>simp[zdo,zjb]
 |.h,.i q,t=>by
  cases t with
  |leaf=>show zdo q .leaf=_;rw[zfj];simp[zdo]
  |node l u r=>simp[zdo,zjb]
 |.o p,.h,t=>by cases t<;>simp[zdo,zjb]
 |.i p,.h,t=>by cases t<;>simp[zdo,zjb]
 |.o p,.i q,t=>by
  cases t with
  |leaf=>show zdo q .leaf=_;rw[zfj];simp[zdo]
  |node l u r=>simp[zdo,zjb]
 |.i p,.o q,t=>by
  cases t with
  |leaf=>show zdo q .leaf=_;rw[zfj];simp[zdo]
  |node l u r=>simp[zdo,zjb]
 |.o p,.o q,t=>by
  cases t with
  |leaf=>
   show zdo q (zjb v p .leaf)=_
   rw[zgq v p q .leaf,zfj]
   simp[zdo]
  |node l u r=>
   show zdo q (zjb v p l)=_
   rw[zgq v p q l]
   simp only[Ps.o.injEq];rfl
 |.i p,.i q,t=>by
  cases t with
  |leaf=>
   show zdo q (zjb v p .leaf)=_
   rw[zgq v p q .leaf,zfj]
   simp[zdo]
  |node l u r=>
   show zdo q (zjb v p r)=_
   rw[zgq v p q r]
   simp only[Ps.i.injEq];rfl
def zf5 (n:Nat)(pt:PT)(ts:Tmps):Prop:=ts.length=n∧∀i,zdo (posOf i) pt=ts.getD i Go.undef
noncomputable def pput (pt:PT)(dst:Option Tmp)(v:Value):PT:=match dst with
 |some d=>zjb v (posOf d) pt
 |none=>pt
def dstB (n:Nat)(dst:Option Tmp):Bool:=match dst with
 |some d=>Nat.blt d n
 |none=>true
theorem zf5.put {n:Nat}{pt:PT}{ts:Tmps}(h:zf5 n pt ts){dst:Option Tmp}(hd:dstB n dst=true)(v:Value):zf5 n (pput pt dst v) (aput ts dst v):=by
 cases dst with
 |none=>exact h
 |some d=>
  simp only[dstB,Nat.blt_eq] at hd
  refine⟨by simp[aput,h.1],fun i=>?_⟩
  simp only[pput,aput]
  rw[zgq,List.getD_eq_getElem?_getD,List.getElem?_set]
  by_cases hi:i=d
  ·subst hi
   have:i<ts.length:=by rw[h.1];exact hd
   simp[this]
  have h1:¬posOf i=posOf d:=fun hh=>hi (zr5 hh)
  have h2:¬d=i:=fun hh=>hi hh.symm
  simp only[h1,h2,if_false]
  rw[h.2 i,List.getD_eq_getElem?_getD]
noncomputable def ptOf (l:List Value):Nat→PT→PT:=
 List.rec (motive:=fun _=>Nat→PT→PT) (fun _ t=>t) (fun v _ ih i t=>ih (i+1) (zjb v (posOf i) t)) l
theorem zus:∀(l:List Value) (k:Nat) (t:PT) (i:Nat),zdo (posOf i) (ptOf l k t)=if k≤i∧i<k+l.length then l.getD (i - k) Go.undef else zdo (posOf i) t
 |[],k,t,i=>by
  have:¬(k≤i∧i<k+([]:List Value).length):=by simp only[List.length_nil];omega
  rw[if_neg this];rfl
 |v::r,k,t,i=>by
  show zdo (posOf i) (ptOf r (k+1) (zjb v (posOf k) t))=_
  rw[zus r (k+1),zgq]
  simp only[List.length_cons]
  by_cases h1:k+1≤i∧i<k+1+r.length
  ·have h2:k≤i∧i<k+(r.length+1):=by omega
   rw[if_pos h1,if_pos h2]
   have:i - k=(i - (k+1))+1:=by omega
   rw[this,List.getD_cons_succ]
  rw[if_neg h1]
  by_cases h2:i=k
  ·subst h2
   have h3:i≤i∧i<i+(r.length+1):=by omega
   rw[if_pos rfl,if_pos h3];simp
  have h3:¬posOf i=posOf k:=fun hh=>h2 (zr5 hh)
  have h4:¬(k≤i∧i<k+(r.length+1)):=by omega
  rw[if_neg h3,if_neg h4]
theorem zu5 (l:List Value):zf5 l.length (ptOf l 0 .leaf) l:=by
 refine⟨rfl,fun i=>?_⟩
 rw[zus,zfj]
 by_cases h:i<l.length
 ·rw[if_pos (by omega)];simp
 rw[if_neg (by omega),List.getD_eq_getElem?_getD,List.getElem?_eq_none (by omega)];rfl
noncomputable def ziu (pt:PT):Operand→Option Value
 |.tmp t=>some (zdo (posOf t) pt)
 |.const v=>bif zen v then some v else none
 |.func f=>some (.func (.func f) #[] #[])
 |.global _=>none
theorem z0l {n:Nat}{pt:PT}{ts:Tmps}(h:zf5 n pt ts)(x:Operand):ziu pt x=za7 ts x:=by
 cases x with
 |tmp t=>simp only[ziu,za7,h.2 t]
 |const v=>rfl
 |func f=>rfl
 |global g=>rfl
noncomputable def zku (ρ:Operand→Option Value)(xs:List Operand):Option (List Value):=
 List.rec (motive:=fun _=>Option (List Value)) (some []) (fun x _ ih=>match ρ x,ih with
  |some v,some l=>some (v::l)
  |_,_=>none) xs
noncomputable def znn (ρ:Operand→Option Value)(xs:List (Nat×Operand)):Option (List (Nat×Value)):=
 List.rec (motive:=fun _=>Option (List (Nat×Value))) (some []) (fun x _ ih=>match ρ x.2,ih with
  |some v,some l=>some ((x.1,v)::l)
  |_,_=>none) xs
noncomputable def zpq (ρ:Operand→Option Value):Option Operand→Option (Option Value)
 |none=>some none
 |some x=>(ρ x).map some
noncomputable def aopE (P:Program)(lo:Nat)(ρ:Operand→Option Value)(h:zaa):Op→Option (Value×zaa)
 |.move x=>(ρ x).map (·,h)
 |.assign x=>(ρ x).map (·,h)
 |.pick c a b=>match ρ c with
  |some (.bool true)=>(ρ a).map (·,h)
  |some (.bool false)=>(ρ b).map (·,h)
  |_=>none
 |.alloc t=>zl2 P h t
 |.box _ x=>(ρ x).map (abox h)
 |.build t parts=>match znn ρ parts.toList with
  |some l=>(zmj P t l).map (·,h)
  |none=>none
 |.buildSlice t n parts=>match znn ρ parts.toList with
  |some l=>zdy P h t n l
  |none=>none
 |.load t a=>match ρ a with
  |some p=>(zjd P h t p).map (·,h)
  |none=>none
 |.store t a x=>match ρ a,ρ x with
  |some p,some v=>(zj6 P lo h t p v).map fun h'=>(Go.undef,h')
  |_,_=>none
 |.nilCheck x=>match ρ x with
  |some v=>(zf4 v).map (·,h)
  |none=>none
 |.binOp op t x y _=>match ρ x,ρ y with
  |some a,some b=>(zbv P op t a b).map (·,h)
  |_,_=>none
 |.unOp op _ x=>match ρ x with
  |some a=>(zdl op a).map (·,h)
  |none=>none
 |.convert s d x=>match ρ x with
  |some a=>(za8 P s d a).map (·,h)
  |none=>none
 |.makeFunc (.func f) first captured=>match zku ρ first.toList,zku ρ captured.toList with
  |some xs,some ys=>some (.func (.func f) xs.toArray ys.toArray,h)
  |_,_=>none
 |.makeMap _ none=>some (.map (some h.next),h.alloc (.map []))
 |.makeSlice t l c=>match ρ l,ρ c with
  |some a,some b=>zfh P h t a b
  |_,_=>none
 |.slice t x lo hi mx=>match ρ x,zpq ρ lo,zpq ρ hi,zpq ρ mx with
  |some v,some l,some u,some m=>(zdb P t v l u m).map (·,h)
  |_,_,_,_=>none
 |.fieldAddr s x f=>match ρ x with
  |some p=>(zfg P s p f).map (·,h)
  |none=>none
 |.field s x f=>match ρ x with
  |some p=>(zou P s p f).map (·,h)
  |none=>none
 |.indexAddr t x i=>match ρ x,ρ i with
  |some a,some b=>(zc9 P t a b).map (·,h)
  |_,_=>none
 |.index t x i=>match ρ x,ρ i with
  |some a,some b=>(zll P t a b).map (·,h)
  |_,_=>none
 |.lookup t m k ok=>match ρ m,ρ k with
  |some a,some b=>(zn4 P h t a b ok).map (·,h)
  |_,_=>none
 |.mapUpdate t m k x=>match ρ m,ρ k,ρ x with
  |some a,some b,some c=>(znz P lo h t a b c).map fun h'=>(Go.undef,h')
  |_,_,_=>none
 |.insert t m k x=>match ρ m,ρ k,ρ x with
  |some a,some b,some c=>(znz P lo h t a b c).map fun h'=>(Go.undef,h')
  |_,_,_=>none
 |.extract x i=>match ρ x with
  |some a=>(zhg a i).map (·,h)
  |none=>none
 |.call ⟨.builtin b,args,argTypes⟩=>match zku ρ args.toList with
  |some l=>zcs P lo h b argTypes.toList l
  |none=>none
 |_=>none
noncomputable def zzr (P:Program)(ρ:Operand→Option Value)(id:Nat):Op→Option (Value×AObj)
 |.alloc t=>match zg8 P t with
  |some z=>some (.pointer (some ⟨id,0,none⟩),.cells 0 z)
  |none=>none
 |.box _ x=>match ρ x with
  |some v=>some (.pointer (some ⟨id,0,none⟩),.cells 0 v.cells.toList)
  |none=>none
 |.buildSlice t len parts=>match znn ρ parts.toList,zc8 P t with
  |some l,some (e,n)=>
   match zg8 P e with
   |some z=>
    bif Nat.beq z.length n&&Nat.ble (len*n) 16777216&&Nat.blt 0 n then
     match zj3 (fun i=>some (i*n,n)) (reps z len) l with
     |some cs=>some (.slice (some ⟨id,0,none⟩) len len,.cells 0 cs)
     |none=>none
    else none
   |none=>none
  |_,_=>none
 |.makeSlice t l c=>match ρ l,ρ c,zc8 P t with
  |some (.int .i64 (.ofNat l)),some (.int .i64 (.ofNat c)),some (e,n)=>
   match zg8 P e,(P.info? e).map (·.bytes) with
   |some z,some bytes=>
    bif Nat.beq z.length n&&Nat.ble l c&&Nat.ble (bytes*c) 281474976710656&&Nat.blt 0 n&&Nat.ble c 281474976710656 then
     some (.slice (some ⟨id,0,none⟩) l c,.cells 0 (reps z c))
    else none
   |_,_=>none
  |_,_,_=>none
 |.makeMap _ none=>some (.map (some id),.map [])
 |_=>none
theorem zkx (ts:Tmps):∀xs,zku (za7 ts) xs=zea ts xs
 |[]=>rfl
 |x::r=>by
  have ih:=zkx ts r
  show (match za7 ts x,zku (za7 ts) r with|some v,some l=>some (v::l)|_,_=>none)=_
  rw[ih];rfl
theorem zk0 (ts:Tmps):∀xs,znn (za7 ts) xs=zgg ts xs
 |[]=>rfl
 |(i,x)::r=>by
  have ih:=zk0 ts r
  show (match za7 ts x,znn (za7 ts) r with|some v,some l=>some ((i,v)::l)|_,_=>none)=_
  rw[ih];rfl
theorem zvt (ts:Tmps):∀x,zpq (za7 ts) x=zg3 ts x
 |none=>rfl
 |some _=>rfl
theorem zsz {P:Program}{lo:Nat}{ts:Tmps}{h:zaa}{op:Op}:aopE P lo (za7 ts) h op=aop P lo ts h op:=by
 unfold aopE aop
 simp only[zkx,zk0,zvt]<;>rfl
theorem z0h {P:Program}{ts:Tmps}{id:Nat}{op:Op}:zzr P (za7 ts) id op=aopA P ts id op:=by
 unfold zzr aopA
 simp only[zk0]<;>rfl
theorem zg4 {n:Nat}{pt:PT}{ts:Tmps}(h:zf5 n pt ts):ziu pt=za7 ts:=funext (z0l h)
end Go.Am
end
/-
 The abstract machine, part T: an evaluator, and what it says.
-/
section
namespace Go.Am
structure Orc where
  call:FuncId→List Value→zaa→Option (Value×zaa)
  yld:Nat→List Value→zaa→Option (Value×zaa)
structure DD where
  ms:List Nat
  W:List Nat
  As:List Nat
  items:List zfl
inductive CIt where
  |rd (m:Nat) (o:Oper)
  |al (m:Nat) (o:Oper)
  |wr (m:Nat) (o:Oper)
  |ck (m:Nat) (o:Oper) (d:Tmp)
noncomputable def memN (m:Nat)(l:List Nat):Bool:=List.rec (motive:=fun _=>Bool) false (fun a _ ih=>cond (Nat.beq m a) true ih) l
noncomputable def nthO (l:List Oper):Nat→Option Oper:=
 List.rec (motive:=fun _=>Nat→Option Oper) (fun _=>none) (fun a _ ih n=>Nat.rec (motive:=fun _=>Option Oper) (some a) (fun m _=>ih m) n) l
noncomputable def ztn (l:List Oper)(W As:List Nat):zfl→Option CIt
 |.op m=>match nthO l m with
  |some o=>some (cond (memN m W) (.wr m o) (cond (memN m As) (.al m o) (.rd m o)))
  |none=>none
 |.ck m=>match nthO l m with
  |some o=>match o.dst with
   |some d=>some (.ck m o d)
   |none=>none
  |none=>none
noncomputable def zpr (l:List Oper)(W As:List Nat)(items:List zfl):Option (List CIt):=
 List.rec (motive:=fun _=>Option (List CIt)) (some []) (fun x _ ih=>match ztn l W As x,ih with
  |some c,some r=>some (c::r)
  |_,_=>none) items
section
variable (P:Program) (lo:Nat) (orc:Orc) (n:Nat)
noncomputable def evOp (o:Oper)(pt:PT)(h:zaa):Option (Value×zaa):=
 match o.op with
 |.call ⟨.value fo,args,_⟩=>
  match ziu pt fo,zku (ziu pt) args.toList with
  |some (.func (.func f) first captured),some l=>orc.call f (first.toList++l++captured.toList) h
  |some (.func (.yield y) first captured),some l=>bif first.toList.isEmpty&&captured.toList.isEmpty then orc.yld y l h else none
  |_,_=>none
 |op=>aopE P lo (ziu pt) h op
noncomputable def zpf (ops:Array Oper)(pt:PT)(j:Nat):Option Bool:=
 match nthO ops.toList j with
 |some o=>match o.dst with
  |some d=>match zdo (posOf d) pt with
   |.bool b=>bif Nat.blt d n then some b else none
   |_=>none
  |none=>none
 |none=>none
noncomputable def zft (ops:Array Oper)(o:Oper)(pt:PT):Bool:=
 match o.guard with
 |none=>true
 |some (j,want)=>match zpf n ops pt j with
  |some b=>cond b want (cond want false true)
  |none=>false
noncomputable def zvx (ops:Array Oper)(l:List Oper):PT→zaa→Option (PT×zaa):=
 List.rec (motive:=fun _=>PT→zaa→Option (PT×zaa)) (fun pt h=>some (pt,h))
  (fun o _ ih pt h=>cond (dstB n o.dst)
   (cond (zft n ops o pt)
    (match evOp P lo orc o pt h with
    |some (v,h')=>ih (pput pt o.dst v) h'
    |none=>none)
    (ih (pput pt o.dst Go.undef) h)) none) l
noncomputable def zpu:Value→Value→Bool
 |.int k a,.int k' b=>decide (k=k')&&decide (a=b)
 |.bool a,.bool b=>decide (a=b)
 |.string a,.string b=>decide (a=b)
 |.nilFunc,.nilFunc=>true
 |.nilIface,.nilIface=>true
 |.pointer none,.pointer none=>true
 |.pointer (some ⟨a,b,none⟩),.pointer (some ⟨a',b',none⟩)=>Nat.beq a a'&&Nat.beq b b'
 |.slice none a b,.slice none a' b'=>Nat.beq a a'&&Nat.beq b b'
 |.slice (some ⟨a,b,none⟩) c d,.slice (some ⟨a',b',none⟩) c' d'=>Nat.beq a a'&&Nat.beq b b'&&Nat.beq c c'&&Nat.beq d d'
 |.map none,.map none=>true
 |.map (some a),.map (some b)=>Nat.beq a b
 |_,_=>false
noncomputable def zzh (l:List Value):List Value→Bool:=
 List.rec (motive:=fun _=>List Value→Bool) (fun m=>match m with|[]=>true|_=>false) (fun a _ ih m=>match m with|[]=>false|b::s=>zpu a b&&ih s) l
noncomputable def zn1:Value→Value→Bool
 |.agg x,.agg y=>zzh x.toList y.toList
 |a,b=>zpu a b
theorem zlt {a b:Value}(h:zpu a b=true):a=b:=by
 unfold zpu at h
 split at h
 all_goals first
  |(simp only[xfr,decide_eq_true_eq] at h;rw[h.1,h.2];done)
  |(rw[of_decide_eq_true h];done)
  |rfl
  |(simp only[xfr] at h;rw[xfs h.1.1.1,xfs h.1.1.2,xfs h.1.2,xfs h.2];done)
  |(simp only[xfr] at h;rw[xfs h.1,xfs h.2];done)
  |(rw[xfs h];done)
  |cases h
theorem zps:∀ {l m:List Value},zzh l m=true→l=m
 |[],[],_=>rfl
 |[],_::_,h=>by cases h
 |_::_,[],h=>by cases h
 |a::r,b::s,h=>by
  have h':(zpu a b&&zzh r s)=true:=h
  rw[xfr] at h'
  rw[zlt h'.1,zps h'.2]
theorem zqb {a b:Value}(h:zn1 a b=true):a=b:=by
 unfold zn1 at h
 split at h
 ·rw[Array.ext' (zps h)]
 exact zlt h
noncomputable def zme (base:Nat)(ms:List Nat)(ops:Array Oper)(l:List CIt):PT→List (Nat×AObj)→zaa→Option (PT×zaa):=
 List.rec (motive:=fun _=>PT→List (Nat×AObj)→zaa→Option (PT×zaa)) (fun pt fl h=>some (pt,zcw base (fun _=>true) fl h))
  (fun c _ ih pt fl h=>match c with
   |.rd m o=>cond (dstB n o.dst)
    (cond (zft n ops o pt)
     (match aopE P lo (ziu pt) (zcw base (fun i=>bm ms i m) fl h) o.op with
     |some (v,_)=>ih (pput pt o.dst v) fl h
     |none=>none)
     (ih (pput pt o.dst Go.undef) fl h)) none
   |.al m o=>cond (dstB n o.dst)
    (cond (zft n ops o pt)
     (match zzr P (ziu pt) (base+m) o.op with
     |some (v,x)=>ih (pput pt o.dst v) ((m,x)::fl) h
     |none=>none)
     (ih (pput pt o.dst Go.undef) fl h)) none
   |.wr m o=>cond (dstB n o.dst)
    (cond (zft n ops o pt)
     (match evOp P lo orc o pt (zcw base (fun i=>bm ms i m) fl h) with
     |some (v,h')=>ih (pput pt o.dst v) (fl.filter fun p=>!bm ms p.1 m) h'
     |none=>none)
     (ih (pput pt o.dst Go.undef) fl h)) none
   |.ck m o d=>cond (Nat.blt d n)
    (cond (zft n ops o pt)
     (match aopE P lo (ziu pt) (zcw base (fun i=>bm ms i m) fl h) o.op with
     |some (v,_)=>cond (zn1 (zdo (posOf d) pt) v) (ih pt fl h) none
     |none=>none)
     (ih pt fl h)) none) l
noncomputable def z3a (body:PT→zaa→Option (Exit×PT×zaa))(k:Nat):PT→zaa→Option (Exit×PT×zaa):=
 Nat.rec (motive:=fun _=>PT→zaa→Option (Exit×PT×zaa)) (fun _ _=>none) (fun _ ih pt h=>match body pt h with
  |some (.normal,pt',h')=>ih pt' h'
  |r=>r) k
noncomputable def findD (id:Nat)(l:List (Nat×DD)):Option DD:=List.rec (motive:=fun _=>Option DD) none (fun a _ ih=>cond (Nat.beq id a.1) (some a.2) ih) l
noncomputable def zu2 (k:Nat)(pt:PT):List Value:=(List.range k).map fun i=>zdo (posOf i) pt
noncomputable def evC (fuel tag:Nat)(dd:List (Nat×DD))(c:Code):PT→zaa→Option (Exit×PT×zaa):=
 Code.rec (motive:=fun _=>PT→zaa→Option (Exit×PT×zaa))
  (fun pt h=>some (.normal,pt,h))
  (fun id ops draw pt h=>cond draw
   (match findD id dd with
    |some d=>match zpr ops.toList d.W d.As d.items with
     |some cs=>match zme P lo orc n h.next d.ms ops cs pt [] (zaa.zbi (nAof d.As ops.size) h) with
      |some (pt',h')=>some (.normal,pt',h')
      |none=>none
     |none=>none
    |none=>none)
   (match zvx P lo orc n ops ops.toList pt h with
    |some (pt',h')=>some (.normal,pt',h')
    |none=>none))
  (fun _ _ iha ihb pt h=>match iha pt h with
   |some (.normal,pt',h')=>ihb pt' h'
   |r=>r)
  (fun x _ _ iha ihb pt h=>match ziu pt x with
   |some (.bool b)=>cond b (iha pt h) (ihb pt h)
   |_=>none)
  (fun id _ ih pt h=>match ih pt h with
   |some (.exit j,pt',h')=>cond (Nat.beq j id) (some (.normal,pt',h')) (some (.exit j,pt',h'))
   |r=>r)
  (fun _ ih pt h=>z3a ih fuel pt h)
  (fun g ps assign body _ _ pt h=>match ziu pt g with
   |some (.func (.func f) first captured)=>
    match orc.call f (first.toList++[.func (.yield h.next) #[] #[]]++captured.toList) (h.alloc (.loop ⟨ps,assign,body,zu2 n pt,tag⟩ none)) with
    |some (_,h')=>match h'.get h.next with
     |some (.loop _ none)=>some (.normal,pt,h'.put h.next none)
     |some (.loop _ (some .ret))=>some (.ret,pt,h'.put h.next none)
     |some (.loop _ (some (.exit id)))=>some (.exit id,pt,h'.put h.next none)
     |_=>none
    |none=>none
   |_=>none)
  (fun id pt h=>some (.exit id,pt,h))
  (fun _ ih pt h=>match ih pt h with
   |some (.goto _,_,_)=>none
   |r=>r)
  (fun _ pt h=>some (.normal,pt,h))
  (fun _ _ _=>none)
  (fun pt h=>some (.ret,pt,h))
  (fun _ _ _=>none) c
noncomputable def resE (pt:PT)(h:zaa):ResultVar→Option Value
 |.tmp t=>some (zdo (posOf t) pt)
 |.cell a t=>zjd P h t (zdo (posOf a) pt)
noncomputable def zs7 (pt:PT)(h:zaa)(l:List ResultVar):Option (List Value):=
 List.rec (motive:=fun _=>Option (List Value)) (some []) (fun x _ ih=>match resE P pt h x,ih with
  |some v,some l=>some (v::l)
  |_,_=>none) l
noncomputable def okC (dd:List (Nat×DD))(c:Code):Bool:=
 Code.rec (motive:=fun _=>Bool) true (fun id ops draw=>cond draw (match findD id dd with
   |some d=>zsd ops d.ms d.W d.As&&(znw d.As&&zhn ops d.ms d.W d.As [] d.W [] d.items)
   |none=>true) true)
  (fun _ _ a b=>cond a b false) (fun _ _ _ a b=>cond a b false) (fun _ _ a=>a) (fun _ a=>a) (fun _ _ _ _ _ _=>true) (fun _=>true) (fun _ a=>a) (fun _=>true) (fun _=>true) true (fun _=>true) c
structure FE where
  fn:Func
  body:Code
  dd:List (Nat×DD)
noncomputable def z4m (tab:Nat→Option FE)(spec:Nat→Option (Orc→List Value→zaa→Option (Value×zaa)))(fuel:Nat)(orc:Orc):Orc where
    call:=fun f args h=>match spec f with
      |some g=>g orc args h
      |none=>match tab f with
      | some fe => cond (Nat.ble args.length fe.fn.ntmps)
        (match evC P lo orc fe.fn.ntmps fuel f fe.dd fe.body (ptOf args 0 .leaf) h with
        | some (.normal, pt, h') => match zs7 P pt h' fe.fn.results.toList with
          |some l=>some (zd5 l,h')
          |none=>none
        | some (.ret, pt, h') => match zs7 P pt h' fe.fn.results.toList with
          |some l=>some (zd5 l,h')
          |none=>none
        |_=>none) none
      |none=>none
    yld:=fun y vs h=>match h.get y with
      | some (.loop L none) => match tab L.tag with
        | some fe => cond (Nat.ble lo y && Nat.beq vs.length L.params.size && okC fe.dd L.assign && okC fe.dd L.body)
          (match evC P lo orc L.ts.length fuel L.tag fe.dd L.assign (ptOf (zgc L.ts (L.params.toList.zip vs)) 0 .leaf) (h.put y none) with
          | some (.normal, pt, h1) => match evC P lo orc L.ts.length fuel L.tag fe.dd L.body pt h1 with
            |some (.normal,_,h2)=>some (.bool true,h2.put y (some (.loop L none)))
            |some (.ret,_,h2)=>some (.bool false,h2.put y (some (.loop L (some .ret))))
            |some (.exit id,_,h2)=>some (.bool false,h2.put y (some (.loop L (some (.exit id)))))
            |_=>none
          |_=>none) none
        |none=>none
      |_=>none
noncomputable def evK (tab:Nat→Option FE)(spec:Nat→Option (Orc→List Value→zaa→Option (Value×zaa)))(fuel k:Nat):Orc:=
 Nat.rec (motive:=fun _=>Orc) ⟨fun _ _ _=>none,fun _ _ _=>none⟩ (fun _ orc=>z4m P lo tab spec fuel orc) k
end
end Go.Am
end
/-
 The abstract machine, part U: the evaluator is right.
-/
section
namespace Go.Am
theorem zyu (m:Nat):∀l:List Nat,memN m l=l.contains m
 |[]=>rfl
 |a::r=>by
  show cond (Nat.beq m a) true (memN m r)=_
  rw[zyu m r,List.contains_cons]
  have:(m==a)=Nat.beq m a:=by
   rw[Bool.eq_iff_iff,beq_iff_eq]
   exact⟨fun h=>by rw[h];exact Nat.beq_refl a,xfs⟩
  rw[this]
  cases Nat.beq m a<;>rfl
theorem zo1:∀(l:List Oper) (m:Nat),nthO l m=l[m]?
 |[],m=>rfl
 |a::r,0=>rfl
 |a::r,m+1=>by
  show nthO r m=_
  rw[zo1 r m,List.getElem?_cons_succ]
section
variable {P:Program} {lo:Nat} {orc:Orc} {n:Nat}
theorem zgy {ops:Array Oper}{o:Oper}{pt:PT}{ts:Tmps}(h:zf5 n pt ts):zft n ops o pt=Region.wanted o (za2 ops ts):=by
 unfold zft Region.wanted
 cases hg:o.guard with
 |none=>rfl
 |some gw=>
  obtain⟨j,want⟩:=gw
  have hy:zpf n ops pt j=za2 ops ts j:=by
   unfold zpf za2
   rw[zo1]
   have:ops.toList[j]?=ops[j]?:=by simp
   rw[this]
   cases ops[j]? with
   |none=>rfl
   |some oj=>
    simp only[Option.bind_some]
    cases oj.dst with
    |none=>rfl
    |some d=>
     simp only[Option.bind_some,h.2 d]
     rw[List.getD_eq_getElem?_getD]
     by_cases hd:d<n
     ·have hb:Nat.blt d n=true:=by rw[Nat.blt_eq];exact hd
      have hl:d<ts.length:=by rw[h.1];exact hd
      rw[List.getElem?_eq_getElem hl,Option.getD_some,hb]
      cases ts[d]<;>rfl
     have hl:ts[d]?=none:=List.getElem?_eq_none (by rw[h.1];exact Nat.le_of_not_lt hd)
     rw[hl];rfl
  simp only[hy]
  cases za2 ops ts j with
  |none=>rfl
  |some b=>cases b<;>cases want<;>rfl
structure zkf (P:Program) (lo:Nat) (orc:Orc):Prop where
  call:∀f args h r h',orc.call f args h=some (r,h')→(∀as w,(callFunc f as).run P w=.ok (.enter f as) w)∧zc0 P lo f args h fun r2 h2=>r2=r∧h2=h'
  yld:∀y vs h r h',orc.yld y vs h=some (r,h')→∃L,h.get y=some (.loop L none)∧lo≤y∧vs.length=L.params.size∧
    AW P lo L.assign (ziw (AW P lo L.body (zq4 L y fun b h2=>.bool b=r∧h2=h')) (fun _ _ _=>False)) (zgc L.ts (L.params.toList.zip vs)) (h.put y none)
theorem zsu {L:z0v}{y:Nat}{K K':Bool→zaa→Prop}(hk:∀b h,K b h→K' b h):∀e ts h,zq4 L y K e ts h→zq4 L y K' e ts h:=by
 intro e ts h hr
 cases e<;>simp only[zq4] at hr ⊢ <;> first|exact hk _ _ hr|exact hr
theorem zyw (ok:zkf P lo orc){o:Oper}{pt:PT}{ts ts1:Tmps}{h h':zaa}{v:Value}(ht:zf5 n pt ts)(he:∀x∈o.op.operands,za7 ts1 x=za7 ts x)(hv:evOp P lo orc o pt h=some (v,h')) :
  zgm P lo o ts1 h fun ts' h''=>ts'=aput ts1 o.dst v∧h''=h':=by
 unfold evOp at hv
 rw[zg4 ht] at hv
 split at hv
 ·rename_i fo args aT hop
  have e1:za7 ts1 fo=za7 ts fo:=he fo (by rw[hop];simp[Op.operands,Call.operands])
  have e2:zea ts1 args.toList=zea ts args.toList:=zdx fun x hx=>he x (by rw[hop];simp[Op.operands,Call.operands];exact .inr (by simpa using hx))
  rw[zkx] at hv
  split at hv
  ·rename_i f first captured l hf hl
   obtain⟨hcf,hc⟩:=ok.call _ _ _ _ _ hv
   exact .z1a hop (e1.trans hf) (e2.trans hl) hcf (hc.mono fun r2 h2 ⟨h3,h4⟩=>⟨by rw[h3],h4⟩)
  ·rename_i y first captured l hf hl
   cases hb:(first.toList.isEmpty&&captured.toList.isEmpty) with
   |false=>rw[hb] at hv;cases hv
   |true=>
    rw[hb] at hv
    simp only[xfp] at hv
    simp only[xfr,List.isEmpty_iff] at hb
    have hf0:first=#[]:=Array.ext' (by simpa using hb.1)
    have hc0:captured=#[]:=Array.ext' (by simpa using hb.2)
    subst hf0;subst hc0
    obtain⟨L,h1,h2,h3,h4⟩:=ok.yld _ _ _ _ _ hv
    refine .yield hop (e1.trans hf) (e2.trans hl) h1 h2 h3 (h4.mono fun e ts' h' hq=>?_)
    cases e with
    |normal=>exact AW.mono hq (zsu fun b h2 ⟨h5,h6⟩=>⟨by rw[h5],h6⟩)
    |_=>exact hq
  cases hv
 rw[zsz] at hv
 refine .op (v:=v) (h':=h') ?_ ⟨rfl,rfl⟩
 rw[zfp he];exact hv
theorem zmo (ok:zkf P lo orc){ops:Array Oper}{K:Tmps→zaa→Prop}{tl:List Oper}:∀(l:List Oper) (k:Nat) (pt:PT) (ts:Tmps) (h:zaa) (pt':PT) (h':zaa),ops.toList.drop k=l++tl→zf5 n pt ts→zvx P lo orc n ops l pt h=some (pt',h')→
  (∀ts',zf5 n pt' ts'→K ts' h')→AOps P lo ops K (List.range' k l.length) ts h
 |[],k,pt,ts,h,pt',h',_,ht,hv,hK=>by
  have hv:some (pt,h)=some (pt',h'):=hv
  injection hv with hv;injection hv with h1 h2;subst h1;subst h2
  exact hK ts ht
 |o::r,k,pt,ts,h,pt',h',hd,ht,hv,hK=>by
  have hv:cond (dstB n o.dst) (cond (zft n ops o pt) (match evOp P lo orc o pt h with|some (v,h')=>zvx P lo orc n ops r (pput pt o.dst v) h'|none=>none) (zvx P lo orc n ops r (pput pt o.dst Go.undef) h)) none=some (pt',h'):=hv
  have ho:ops[k]?=some o:=by
   have:(ops.toList.drop k)[0]?=some o:=by rw[hd];rfl
   rw[List.getElem?_drop] at this
   simpa using this
  have hd':ops.toList.drop (k+1)=r++tl:=by rw[← List.drop_drop,hd];rfl
  simp only[List.length_cons,List.range'_succ,AOps,ho]
  cases hdst:dstB n o.dst with
  |false=>rw[hdst] at hv;cases hv
  |true=>
   rw[hdst,xfp,zgy ht] at hv
   cases hw:Region.wanted o (za2 ops ts) with
   |true=>
    rw[hw,xfp] at hv
    simp only[if_true]
    cases he:evOp P lo orc o pt h with
    |none=>rw[he] at hv;cases hv
    |some p=>
     obtain⟨v,h1⟩:=p
     rw[he] at hv
     refine(zyw ok ht (fun _ _=>rfl) he).mono fun ts' h'' ⟨e1,e2⟩=>?_
     subst e1;subst e2
     exact zmo ok r (k+1) _ _ _ pt' h' hd' (ht.put hdst v) hv hK
   |false=>
    rw[hw,xfq] at hv
    simp only[Bool.false_eq_true,if_false]
    exact zmo ok r (k+1) _ _ _ pt' h' hd' (ht.put hdst _) hv hK
theorem zzw (ok:zkf P lo orc){ops:Array Oper}{K:Tmps→zaa→Prop}(l:List Oper)(k:Nat)(pt:PT)(ts:Tmps)(h:zaa)(pt':PT)(h':zaa)(hd:ops.toList.drop k=l)(ht:zf5 n pt ts)(hv:zvx P lo orc n ops l pt h=some (pt',h'))
 (hK:∀ts',zf5 n pt' ts'→K ts' h'):AOps P lo ops K (List.range' k l.length) ts h:=zmo (tl:=[]) ok l k pt ts h pt' h' (by rw[hd,List.append_nil]) ht hv hK
theorem zfw (ok:zkf P lo orc){ops:Array Oper}{base:Nat}{ms W As:List Nat}{K:Tmps→zaa→Prop}:∀(items:List zfl) (cs:List CIt) (pt:PT) (ts:Tmps) (fl:List (Nat×AObj)) (h:zaa) (pt':PT) (h':zaa),
  zpr ops.toList W As items=some cs→zf5 n pt ts→zme P lo orc n base ms ops cs pt fl h=some (pt',h')→(∀ts',zf5 n pt' ts'→K ts' h')→Scr P lo ops base ms W As K items ts fl h
 |[],cs,pt,ts,fl,h,pt',h',hc,ht,hv,hK=>by
  have hc:some []=some cs:=hc
  injection hc with hc;subst hc
  have hv:some (pt,zcw base (fun _=>true) fl h)=some (pt',h'):=hv
  injection hv with hv;injection hv with h1 h2;subst h1;subst h2
  exact hK ts ht
 |it::r,cs,pt,ts,fl,h,pt',h',hc,ht,hv,hK=>by
  have hc:(match ztn ops.toList W As it,zpr ops.toList W As r with|some c,some r=>some (c::r)|_,_=>none)=some cs:=hc
  split at hc
  ·rename_i c rcs h1 h2
   injection hc with hc;subst hc
   cases it with
   |op m=>
    simp only[ztn] at h1
    rw[zo1,show ops.toList[m]?=ops[m]? by simp] at h1
    cases ho:ops[m]? with
    |none=>rw[ho] at h1;cases h1
    |some o=>
     rw[ho] at h1
     simp only[xfm,zyu] at h1
     refine⟨o,ho,?_⟩
     cases hW:W.contains m with
     |true=>
      rw[hW,xfp] at h1;subst h1
      have hv:cond (dstB n o.dst) (cond (zft n ops o pt) (match evOp P lo orc o pt (zcw base (fun i=>bm ms i m) fl h) with|some (v,h')=>zme P lo orc n base ms ops rcs (pput pt o.dst v) (fl.filter fun p=>!bm ms p.1 m) h'|none=>none) (zme P lo orc n base ms ops rcs (pput pt o.dst Go.undef) fl h)) none=some (pt',h'):=hv
      cases hdst:dstB n o.dst with
      |false=>rw[hdst] at hv;cases hv
      |true=>
       rw[hdst,xfp,zgy ht] at hv
       cases hw:Region.wanted o (za2 ops ts) with
       |false=>
        rw[hw,xfq] at hv
        exact zfw ok r rcs _ _ _ _ pt' h' h2 (ht.put hdst _) hv hK
       |true=>
        rw[hw,xfp] at hv
        simp only[xfp]
        cases he:evOp P lo orc o pt (zcw base (fun i=>bm ms i m) fl h) with
        |none=>rw[he] at hv;cases hv
        |some p=>
         obtain⟨v,h3⟩:=p
         rw[he] at hv
         intro ts1 hag
         refine(zyw ok ht (fun x hx=>hag.eval x hx) he).mono fun ts' h'' ⟨e1,e2⟩=>?_
         subst e2
         exact⟨v,e1,zfw ok r rcs _ _ _ _ pt' h' h2 (ht.put hdst v) hv hK⟩
     |false=>
      rw[hW,xfq] at h1
      cases hA:As.contains m with
      |true=>
       rw[hA,xfp] at h1;subst h1
       have hv:cond (dstB n o.dst) (cond (zft n ops o pt) (match zzr P (ziu pt) (base+m) o.op with|some (v,x)=>zme P lo orc n base ms ops rcs (pput pt o.dst v) ((m,x)::fl) h|none=>none) (zme P lo orc n base ms ops rcs (pput pt o.dst Go.undef) fl h)) none=some (pt',h'):=hv
       cases hdst:dstB n o.dst with
       |false=>rw[hdst] at hv;cases hv
       |true=>
        rw[hdst,xfp,zgy ht,zg4 ht,z0h] at hv
        cases hw:Region.wanted o (za2 ops ts) with
        |false=>
         rw[hw,xfq] at hv
         exact zfw ok r rcs _ _ _ _ pt' h' h2 (ht.put hdst _) hv hK
        |true=>
         rw[hw,xfp] at hv
         simp only[xfp,xfq]
         cases he:aopA P ts (base+m) o.op with
         |none=>rw[he] at hv;cases hv
         |some p=>
          obtain⟨v,x⟩:=p
          rw[he] at hv
          exact⟨v,x,rfl,zfw ok r rcs _ _ _ _ pt' h' h2 (ht.put hdst v) hv hK⟩
      |false=>
       rw[hA,xfq] at h1;subst h1
       have hv:cond (dstB n o.dst) (cond (zft n ops o pt) (match aopE P lo (ziu pt) (zcw base (fun i=>bm ms i m) fl h) o.op with|some (v,_)=>zme P lo orc n base ms ops rcs (pput pt o.dst v) fl h|none=>none) (zme P lo orc n base ms ops rcs (pput pt o.dst Go.undef) fl h)) none=some (pt',h'):=hv
       cases hdst:dstB n o.dst with
       |false=>rw[hdst] at hv;cases hv
       |true=>
        rw[hdst,xfp,zgy ht,zg4 ht,zsz] at hv
        cases hw:Region.wanted o (za2 ops ts) with
        |false=>
         rw[hw,xfq] at hv
         exact zfw ok r rcs _ _ _ _ pt' h' h2 (ht.put hdst _) hv hK
        |true=>
         rw[hw,xfp] at hv
         simp only[xfp,xfq]
         cases he:aop P lo ts (zcw base (fun i=>bm ms i m) fl h) o.op with
         |none=>rw[he] at hv;cases hv
         |some p=>
          obtain⟨v,h3⟩:=p
          rw[he] at hv
          exact⟨v,h3,rfl,zfw ok r rcs _ _ _ _ pt' h' h2 (ht.put hdst v) hv hK⟩
   |ck m=>
    simp only[ztn] at h1
    rw[zo1,show ops.toList[m]?=ops[m]? by simp] at h1
    cases ho:ops[m]? with
    |none=>rw[ho] at h1;cases h1
    |some o=>
     rw[ho] at h1
     cases hdst:o.dst with
     |none=>simp only[hdst] at h1;cases h1
     |some d=>
      simp only[hdst,xfm] at h1;subst h1
      have hv:cond (Nat.blt d n) (cond (zft n ops o pt) (match aopE P lo (ziu pt) (zcw base (fun i=>bm ms i m) fl h) o.op with|some (v,_)=>cond (zn1 (zdo (posOf d) pt) v) (zme P lo orc n base ms ops rcs pt fl h) none|none=>none) (zme P lo orc n base ms ops rcs pt fl h)) none=some (pt',h'):=hv
      cases hb:Nat.blt d n with
      |false=>rw[hb] at hv;cases hv
      |true=>
       rw[hb,xfp,zgy ht,zg4 ht,zsz] at hv
       have hd:d<ts.length:=by rw[ht.1];rw[Nat.blt_eq] at hb;exact hb
       refine⟨o,d,ho,hdst,?_,?_⟩
       ·intro hw
        rw[hw,xfp] at hv
        cases he:aop P lo ts (zcw base (fun i=>bm ms i m) fl h) o.op with
        |none=>rw[he] at hv;cases hv
        |some p=>
         obtain⟨v,h3⟩:=p
         rw[he] at hv
         cases hs:zn1 (zdo (posOf d) pt) v with
         |false=>simp only[hs] at hv;cases hv
         |true=>
          refine⟨v,h3,?_,rfl⟩
          rw[← zqb hs,ht.2 d,List.getD_eq_getElem?_getD,List.getElem?_eq_getElem hd];rfl
       cases hw:Region.wanted o (za2 ops ts) with
       |false=>rw[hw,xfq] at hv;exact zfw ok r rcs _ _ _ _ pt' h' h2 ht hv hK
       |true=>
        rw[hw,xfp] at hv
        cases he:aop P lo ts (zcw base (fun i=>bm ms i m) fl h) o.op with
        |none=>rw[he] at hv;cases hv
        |some p=>
         obtain⟨v,h3⟩:=p
         rw[he] at hv
         cases hs:zn1 (zdo (posOf d) pt) v with
         |false=>simp only[hs] at hv;cases hv
         |true=>simp only[hs,xfp] at hv;exact zfw ok r rcs _ _ _ _ pt' h' h2 ht hv hK
  cases hc
theorem zyp {pt:PT}{ts:Tmps}(h:zf5 n pt ts):zu2 n pt=ts:=by
 apply List.ext_getElem?
 intro i
 simp only[zu2,List.getElem?_map]
 by_cases hi:i<n
 ·have hl:i<ts.length:=by rw[h.1];exact hi
  rw[List.getElem?_range hi,Option.map_some,h.2 i,List.getD_eq_getElem?_getD,List.getElem?_eq_getElem hl];rfl
 rw[List.getElem?_eq_none (by simpa using Nat.le_of_not_lt hi),List.getElem?_eq_none (by rw[h.1];exact Nat.le_of_not_lt hi)];rfl
def Ends (n:Nat)(e:Exit)(pt:PT)(h':zaa):zev:=fun e2 ts2 h2=>e2=e∧zf5 n pt ts2∧h2=h'
def z1v (P:Program)(lo:Nat)(n:Nat)(c:Code)(f:PT→zaa→Option (Exit×PT×zaa)):Prop:=
 ∀pt h e pt' h' ts,f pt h=some (e,pt',h')→zf5 n pt ts→AW P lo c (Ends n e pt' h') ts h
theorem zt2 {c:Code}{f:PT→zaa→Option (Exit×PT×zaa)}(hf:z1v P lo n c f):∀(k:Nat) (pt:PT) (h:zaa) (e:Exit) (pt':PT) (h':zaa) (ts:Tmps),
  z3a f k pt h=some (e,pt',h')→zf5 n pt ts→zgo P lo c (Ends n e pt' h') k ts h
 |0,pt,h,e,pt',h',ts,hv,ht=>by cases hv
 |k+1,pt,h,e,pt',h',ts,hv,ht=>by
  have hv:(match f pt h with|some (.normal,pt',h')=>z3a f k pt' h'|r=>r)=some (e,pt',h'):=hv
  split at hv
  ·rename_i pt1 h1 he
   refine(hf _ _ _ _ _ _ he ht).mono fun e2 ts2 h2 ⟨e1,e3,e4⟩=>?_
   subst e1;subst e4
   exact zt2 hf k pt1 h2 e pt' h' ts2 hv e3
  rename_i r hr
  refine(hf _ _ _ _ _ _ hv ht).mono fun e2 ts2 h2 ⟨e1,e3,e4⟩=>?_
  cases e2 with
  |normal=>subst e1;exact(hr _ _ hv).elim
  |exit id=>exact⟨e1,e3,e4⟩
  |goto l=>exact⟨e1,e3,e4⟩
  |ret=>exact⟨e1,e3,e4⟩
  |panic ch=>exact⟨e1,e3,e4⟩
  |outgrown=>exact⟨e1,e3,e4⟩
theorem zk5 {e:Exit}{pt':PT}{h':zaa}{N:Tmps→zaa→Prop}(hn:e=.normal→∀ts,zf5 n pt' ts→N ts h')(Q:zev)(hq:e≠.normal→∀ts,zf5 n pt' ts→Q e ts h') :
  ∀e2 ts2 h2,Ends n e pt' h' e2 ts2 h2→ziw N Q e2 ts2 h2:=by
 rintro e2 ts2 h2 ⟨rfl,h3,rfl⟩
 cases e2 with
 |normal=>exact hn rfl ts2 h3
 |exit id=>exact hq (by simp) ts2 h3
 |goto l=>exact hq (by simp) ts2 h3
 |ret=>exact hq (by simp) ts2 h3
 |panic ch=>exact hq (by simp) ts2 h3
 |outgrown=>exact hq (by simp) ts2 h3
theorem zrx (hm:P.follows .mixedOrders=true)(ok:zkf P lo orc)(fuel tag:Nat)(dd:List (Nat×DD)):∀c:Code,okC dd c=true→z1v P lo n c (evC P lo orc n fuel tag dd c):=by
 intro c
 induction c with
 |skip=>
  intro _ pt h e pt' h' ts hv ht
  have hv:some (Exit.normal,pt,h)=some (e,pt',h'):=hv
  simp only[xfm,xfn] at hv;obtain⟨rfl,rfl,rfl⟩:=hv
  exact .skip ⟨rfl,ht,rfl⟩
 |region id ops draw=>
  intro hok pt h e pt' h' ts hv ht
  cases draw with
  |false=>
   have hv:(match zvx P lo orc n ops ops.toList pt h with|some (pt',h')=>some (Exit.normal,pt',h')|none=>none)=some (e,pt',h'):=hv
   split at hv
   ·rename_i pt1 h1 he
    simp only[xfm,xfn] at hv;obtain⟨rfl,rfl,rfl⟩:=hv
    refine .region ?_
    have:=zzw (K:=Ends n .normal pt1 h1 .normal) ok ops.toList 0 pt ts h pt1 h1 (by simp) ht he (fun ts' ht'=>⟨rfl,ht',rfl⟩)
    rw[List.range_eq_range'];simpa using this
   cases hv
  |true=>
   have hv:(match findD id dd with
    |some d=>match zpr ops.toList d.W d.As d.items with
     |some cs=>match zme P lo orc n h.next d.ms ops cs pt [] (zaa.zbi (nAof d.As ops.size) h) with
      |some (pt',h')=>some (Exit.normal,pt',h')
      |none=>none
     |none=>none
    |none=>none)=some (e,pt',h'):=hv
   have hok:(match findD id dd with
    |some d=>zsd ops d.ms d.W d.As&&(znw d.As&&zhn ops d.ms d.W d.As [] d.W [] d.items)
    |none=>true)=true:=hok
   cases hd:findD id dd with
   |none=>rw[hd] at hv;cases hv
   |some d=>
    rw[hd] at hv hok
    simp only[xfr] at hok
    simp only at hv
    split at hv
    ·rename_i cs hcs
     split at hv
     ·rename_i pt1 h1 he
      simp only[xfm,xfn] at hv;obtain⟨rfl,rfl,rfl⟩:=hv
      exact .sched hm hok.1 hok.2.1 hok.2.2 (zfw (K:=Ends n .normal pt1 h1 .normal) ok d.items cs pt ts [] _ pt1 h1 hcs ht he (fun ts' ht'=>⟨rfl,ht',rfl⟩))
     cases hv
    cases hv
 |seq a b iha ihb=>
  intro hok pt h e pt' h' ts hv ht
  have hok:cond (okC dd a) (okC dd b) false=true:=hok
  cases ha:okC dd a with
  |false=>rw[ha] at hok;cases hok
  |true=>
   rw[ha,xfp] at hok
   have hv:(match evC P lo orc n fuel tag dd a pt h with|some (.normal,pt',h')=>evC P lo orc n fuel tag dd b pt' h'|r=>r)=some (e,pt',h'):=hv
   refine .seq ?_
   split at hv
   ·rename_i pt1 h1 he
    exact(iha ha _ _ _ _ _ _ he ht).mono (zk5 (fun _ ts1 ht1=>ihb hok _ _ _ _ _ _ hv ht1) _ (fun h=>absurd rfl h))
   rename_i r hr
   refine(iha ha _ _ _ _ _ _ hv ht).mono (zk5 (fun h1=>by subst h1;exact(hr _ _ hv).elim) _ (fun _ ts1 ht1=>⟨rfl,ht1,rfl⟩))
 |cond x a b iha ihb=>
  intro hok pt h e pt' h' ts hv ht
  have hok:cond (okC dd a) (okC dd b) false=true:=hok
  cases ha:okC dd a with
  |false=>rw[ha] at hok;cases hok
  |true=>
   rw[ha,xfp] at hok
   have hv:(match ziu pt x with|some (.bool b')=>cond b' (evC P lo orc n fuel tag dd a pt h) (evC P lo orc n fuel tag dd b pt h)|_=>none)=some (e,pt',h'):=hv
   rw[zg4 ht] at hv
   split at hv
   ·rename_i bb hx
    refine .cond hx ?_
    cases bb with
    |true=>exact iha ha _ _ _ _ _ _ hv ht
    |false=>exact ihb hok _ _ _ _ _ _ hv ht
   cases hv
 |block id a ih=>
  intro hok pt h e pt' h' ts hv ht
  have hv:(match evC P lo orc n fuel tag dd a pt h with|some (.exit j,pt',h')=>cond (Nat.beq j id) (some (Exit.normal,pt',h')) (some (.exit j,pt',h'))|r=>r)=some (e,pt',h'):=hv
  refine .block ?_
  split at hv
  ·rename_i j pt1 h1 he
   refine(ih hok _ _ _ _ _ _ he ht).mono fun e2 ts2 h2 ⟨e1,e3,e4⟩=>?_
   subst e1;subst e4
   cases hb:Nat.beq j id with
   |true=>
    rw[hb,xfp] at hv
    simp only[xfm,xfn] at hv;obtain⟨rfl,rfl,rfl⟩:=hv
    have:=xfs hb
    simp only[zb6,this,if_true]
    exact⟨rfl,e3,rfl⟩
   |false=>
    rw[hb,xfq] at hv
    simp only[xfm,xfn] at hv;obtain⟨rfl,rfl,rfl⟩:=hv
    have:¬j=id:=fun h=>by rw[h,Nat.beq_refl] at hb;cases hb
    simp only[zb6,this,if_false]
    exact⟨rfl,e3,rfl⟩
  rename_i r hr
  refine(ih hok _ _ _ _ _ _ hv ht).mono fun e2 ts2 h2 ⟨e1,e3,e4⟩=>?_
  cases e2 with
  |exit j=>subst e1;exact(hr _ _ _ hv).elim
  |normal=>exact⟨e1,e3,e4⟩
  |goto l=>exact⟨e1,e3,e4⟩
  |ret=>exact⟨e1,e3,e4⟩
  |panic ch=>exact⟨e1,e3,e4⟩
  |outgrown=>exact⟨e1,e3,e4⟩
 |loop a ih=>
  intro hok pt h e pt' h' ts hv ht
  exact .zm7 fuel (zt2 (ih hok) fuel pt h e pt' h' ts hv ht)
 |rangeFunc g ps assign body _ _=>
  intro hok pt h e pt' h' ts hv ht
  have hv:(match ziu pt g with
   |some (.func (.func f) first captured)=>
    match orc.call f (first.toList++[.func (.yield h.next) #[] #[]]++captured.toList) (h.alloc (.loop ⟨ps,assign,body,zu2 n pt,tag⟩ none)) with
    |some (_,h')=>match h'.get h.next with
     |some (.loop _ none)=>some (Exit.normal,pt,h'.put h.next none)
     |some (.loop _ (some .ret))=>some (.ret,pt,h'.put h.next none)
     |some (.loop _ (some (.exit id)))=>some (.exit id,pt,h'.put h.next none)
     |_=>none
    |none=>none
   |_=>none)=some (e,pt',h'):=hv
  rw[zg4 ht,zyp ht] at hv
  split at hv
  ·rename_i f first captured hg
   split at hv
   ·rename_i r h1 hcall
    obtain⟨hcf,hc⟩:=ok.call _ _ _ _ _ hcall
    refine .rangeFunc tag hg hcf (hc.mono fun r2 h2 ⟨e1,e2⟩=>?_)
    subst e2
    split at hv
    ·rename_i L hget
     simp only[xfm,xfn] at hv;obtain⟨rfl,rfl,rfl⟩:=hv
     exact⟨L,none,hget,rfl,ht,rfl⟩
    ·rename_i L hget
     simp only[xfm,xfn] at hv;obtain⟨rfl,rfl,rfl⟩:=hv
     exact⟨L,some .ret,hget,.ret ⟨rfl,ht,rfl⟩⟩
    ·rename_i L id hget
     simp only[xfm,xfn] at hv;obtain⟨rfl,rfl,rfl⟩:=hv
     exact⟨L,some (.exit id),hget,.exit ⟨rfl,ht,rfl⟩⟩
    cases hv
   cases hv
  cases hv
 |exit id=>
  intro _ pt h e pt' h' ts hv ht
  have hv:some (Exit.exit id,pt,h)=some (e,pt',h'):=hv
  simp only[xfm,xfn] at hv;obtain⟨rfl,rfl,rfl⟩:=hv
  exact .exit ⟨rfl,ht,rfl⟩
 |scope a ih=>
  intro hok pt h e pt' h' ts hv ht
  have hv:(match evC P lo orc n fuel tag dd a pt h with|some (.goto _,_,_)=>none|r=>r)=some (e,pt',h'):=hv
  refine .scope ?_
  split at hv
  ·cases hv
  rename_i r hr
  refine(ih hok _ _ _ _ _ _ hv ht).mono fun e2 ts2 h2 ⟨e1,e3,e4⟩=>?_
  cases e2 with
  |goto l=>subst e1;exact(hr _ _ _ hv).elim
  |exit j=>exact⟨e1,e3,e4⟩
  |normal=>exact⟨e1,e3,e4⟩
  |ret=>exact⟨e1,e3,e4⟩
  |panic ch=>exact⟨e1,e3,e4⟩
  |outgrown=>exact⟨e1,e3,e4⟩
 |label l=>
  intro _ pt h e pt' h' ts hv ht
  have hv:some (Exit.normal,pt,h)=some (e,pt',h'):=hv
  simp only[xfm,xfn] at hv;obtain⟨rfl,rfl,rfl⟩:=hv
  exact .label ⟨rfl,ht,rfl⟩
 |goto l=>intro _ pt h e pt' h' ts hv ht;cases hv
 |ret=>
  intro _ pt h e pt' h' ts hv ht
  have hv:some (Exit.ret,pt,h)=some (e,pt',h'):=hv
  simp only[xfm,xfn] at hv;obtain⟨rfl,rfl,rfl⟩:=hv
  exact .ret ⟨rfl,ht,rfl⟩
 |refuse why=>intro _ pt h e pt' h' ts hv ht;cases hv
end
end Go.Am
end
/-
 The abstract machine, part V: calls, evaluated.
-/
section
namespace Go.Am
section
variable {P:Program} {lo:Nat}
theorem z2q {n:Nat}{pt:PT}{ts:Tmps}{h:zaa}(ht:zf5 n pt ts)(x:ResultVar):resE P pt h x=zhz P ts h x:=by
 cases x with
 |tmp t=>simp only[resE,zhz,ht.2 t]
 |cell a t=>simp only[resE,zhz,ht.2 a]
theorem zub {n:Nat}{pt:PT}{ts:Tmps}{h:zaa}(ht:zf5 n pt ts):∀l,zs7 P pt h l=zd8 P ts h l
 |[]=>rfl
 |x::r=>by
  have ih:=zub (h:=h) ht r
  show (match resE P pt h x,zs7 P pt h r with|some v,some l=>some (v::l)|_,_=>none)=_
  rw[ih,z2q ht];rfl
structure z2t (P:Program) (tab:Nat→Option FE):Prop where
  fn:∀f fe,tab f=some fe→P.funcs[f]?=some fe.fn
  body:∀f fe,tab f=some fe→fe.fn.body=some fe.body
  ok:∀f fe,tab f=some fe→okC fe.dd fe.body=true
  call:∀f fe,tab f=some fe→∀cs w,(callFunc f cs).run P w=.ok (.enter f cs) w
theorem zxo (args:List Value)(k:Nat):zf5 (args.length+k) (ptOf args 0 .leaf) (args++List.replicate k Go.undef):=by
 refine⟨by simp,fun i=>?_⟩
 rw[(zu5 args).2 i,List.getD_eq_getElem?_getD,List.getD_eq_getElem?_getD]
 by_cases hi:i<args.length
 ·rw[List.getElem?_append_left hi]
 rw[List.getElem?_append_right (Nat.le_of_not_lt hi),List.getElem?_eq_none (Nat.le_of_not_lt hi)]
 by_cases hk:i - args.length<k
 ·rw[List.getElem?_replicate];simp[hk]
 rw[List.getElem?_eq_none (by simpa using Nat.le_of_not_lt hk)]
def zun (P:Program)(lo:Nat)(spec:Nat→Option (Orc→List Value→zaa→Option (Value×zaa))):Prop:=
 ∀orc,zkf P lo orc→∀f g,spec f=some g→∀args h r h',g orc args h=some (r,h')→(∀cs w,(callFunc f cs).run P w=.ok (.enter f cs) w)∧zc0 P lo f args h fun r2 h2=>r2=r∧h2=h'
theorem zvc (hm:P.follows .mixedOrders=true){tab:Nat→Option FE}{spec:Nat→Option (Orc→List Value→zaa→Option (Value×zaa))}(hT:z2t P tab)(hS:zun P lo spec)(fuel:Nat){orc:Orc}(ok:zkf P lo orc):zkf P lo (z4m P lo tab spec fuel orc):=by
 constructor
 ·intro f args h r h' hv
  have hv:(match spec f with
  |some g=>g orc args h
  |none=>match tab f with
  |some fe=>cond (Nat.ble args.length fe.fn.ntmps)
   (match evC P lo orc fe.fn.ntmps fuel f fe.dd fe.body (ptOf args 0 .leaf) h with
   |some (.normal,pt,h')=>match zs7 P pt h' fe.fn.results.toList with
    |some l=>some (zd5 l,h')
    |none=>none
   |some (.ret,pt,h')=>match zs7 P pt h' fe.fn.results.toList with
    |some l=>some (zd5 l,h')
    |none=>none
   |_=>none) none
  |none=>none)=some (r,h'):=hv
  split at hv
  ·rename_i g hg;exact hS orc ok f g hg args h r h' hv
  cases ht:tab f with
  |none=>rw[ht] at hv;cases hv
  |some fe=>
   rw[ht] at hv
   simp only at hv
   cases hb:Nat.ble args.length fe.fn.ntmps with
   |false=>rw[hb] at hv;cases hv
   |true=>
    rw[hb,xfp] at hv
    have hle:=xfo hb
    have hpt:=zxo args (fe.fn.ntmps - args.length)
    rw[Nat.add_sub_cancel' hle] at hpt
    refine⟨hT.call f fe ht,.zah (hT.fn f fe ht) (hT.body f fe ht) ?_⟩
    have fin:∀(e:Exit) (pt:PT) (h1:zaa),(e=.normal∨e=.ret)→evC P lo orc fe.fn.ntmps fuel f fe.dd fe.body (ptOf args 0 .leaf) h=some (e,pt,h1)→
      (match zs7 P pt h1 fe.fn.results.toList with|some l=>some (zd5 l,h1)|none=>none)=some (r,h')→
      AW P lo fe.body (retA P fe.fn fun r2 h2=>r2=r∧h2=h') (args++List.replicate (fe.fn.ntmps - args.length) Go.undef) h:=by
     intro e pt h1 he hev hr
     refine(zrx hm ok fuel f fe.dd fe.body (hT.ok f fe ht) _ _ _ _ _ _ hev hpt).mono fun e2 ts2 h2 ⟨e1,e3,e4⟩=>?_
     subst e1;subst e4
     rw[zub e3] at hr
     split at hr
     ·rename_i l hl
      simp only[xfm,xfn] at hr
      rcases he with rfl|rfl
      ·exact⟨l,hl,hr.1,hr.2⟩
      exact⟨l,hl,hr.1,hr.2⟩
     cases hr
    split at hv
    ·rename_i pt h1 hev;exact fin _ _ _ (.inl rfl) hev hv
    ·rename_i pt h1 hev;exact fin _ _ _ (.inr rfl) hev hv
    cases hv
 intro y vs h r h' hv
 have hv:(match h.get y with
 |some (.loop L none)=>match tab L.tag with
  |some fe=>cond (Nat.ble lo y&&Nat.beq vs.length L.params.size&&okC fe.dd L.assign&&okC fe.dd L.body)
   (match evC P lo orc L.ts.length fuel L.tag fe.dd L.assign (ptOf (zgc L.ts (L.params.toList.zip vs)) 0 .leaf) (h.put y none) with
   |some (.normal,pt,h1)=>match evC P lo orc L.ts.length fuel L.tag fe.dd L.body pt h1 with
    |some (.normal,_,h2)=>some (.bool true,h2.put y (some (.loop L none)))
    |some (.ret,_,h2)=>some (.bool false,h2.put y (some (.loop L (some .ret))))
    |some (.exit id,_,h2)=>some (.bool false,h2.put y (some (.loop L (some (.exit id)))))
    |_=>none
   |_=>none) none
  |none=>none
 |_=>none)=some (r,h'):=hv
 split at hv
 ·rename_i L hg
  split at hv
  ·rename_i fe ht
   cases hb:(Nat.ble lo y&&Nat.beq vs.length L.params.size&&okC fe.dd L.assign&&okC fe.dd L.body) with
   |false=>rw[hb] at hv;cases hv
   |true=>
    rw[hb,xfp] at hv
    simp only[xfr] at hb
    obtain⟨⟨⟨h1,h2⟩,h3⟩,h4⟩:=hb
    refine⟨L,hg,xfo h1,xfs h2,?_⟩
    have hlen:∀(zs:List (Tmp×Value)) (ts:Tmps),(zgc ts zs).length=ts.length:=by
     intro zs
     induction zs with
     |nil=>intro ts;rfl
     |cons z r ih=>intro ts;rw[show zgc ts (z::r)=zgc (ts.set z.1 z.2) r from rfl,ih];simp
    have hpt:=zu5 (zgc L.ts (L.params.toList.zip vs))
    rw[hlen] at hpt
    split at hv
    ·rename_i pt1 h5 he1
     refine(zrx hm ok fuel L.tag fe.dd L.assign h3 _ _ _ _ _ _ he1 hpt).mono (zk5 (fun _ ts1 ht1=>?_) _ (fun hh=>absurd rfl hh))
     split at hv
     ·rename_i pt2 h6 he2
      simp only[xfm,xfn] at hv
      refine(zrx hm ok fuel L.tag fe.dd L.body h4 _ _ _ _ _ _ he2 ht1).mono fun e2 ts2 h7 ⟨k1,k2,k3⟩=>?_
      subst k1;subst k3;exact hv
     ·rename_i pt2 h6 he2
      simp only[xfm,xfn] at hv
      refine(zrx hm ok fuel L.tag fe.dd L.body h4 _ _ _ _ _ _ he2 ht1).mono fun e2 ts2 h7 ⟨k1,k2,k3⟩=>?_
      subst k1;subst k3;exact hv
     ·rename_i id pt2 h6 he2
      simp only[xfm,xfn] at hv
      refine(zrx hm ok fuel L.tag fe.dd L.body h4 _ _ _ _ _ _ he2 ht1).mono fun e2 ts2 h7 ⟨k1,k2,k3⟩=>?_
      subst k1;subst k3;exact hv
     cases hv
    cases hv
  cases hv
 cases hv
theorem z1m (hm:P.follows .mixedOrders=true){tab:Nat→Option FE}{spec:Nat→Option (Orc→List Value→zaa→Option (Value×zaa))}(hT:z2t P tab)(hS:zun P lo spec)(fuel:Nat):∀k,zkf P lo (evK P lo tab spec fuel k)
 |0=>⟨fun _ _ _ _ _ h=>(by cases h),fun _ _ _ _ _ h=>(by cases h)⟩
 |k+1=>zvc hm hT hS fuel (z1m hm hT hS fuel k)
def z8g (fn:Func):Code:=match fn.body with
 |some c=>c
 |none=>.skip
def feOf (fn:Func)(dd:List (Nat×DD)):FE:=⟨fn,z8g fn,dd⟩
structure FEOK (P:Program) (p:Nat×FE):Prop where
  fn:P.funcs[p.1]?=some p.2.fn
  body:p.2.fn.body=some p.2.body
  ok:okC p.2.dd p.2.body=true
  call:∀as w,(callFunc p.1 as).run P w=.ok (.enter p.1 as) w
noncomputable def zrr (l:List (Nat×FE))(f:Nat):Option FE:=List.rec (motive:=fun _=>Option FE) none (fun a _ ih=>cond (Nat.beq f a.1) (some a.2) ih) l
theorem zgr:∀ {l:List (Nat×FE)} {f:Nat} {fe:FE},zrr l f=some fe→(f,fe)∈l
 |[],_,_,h=>by cases h
 |a::r,f,fe,h=>by
  have h:cond (Nat.beq f a.1) (some a.2) (zrr r f)=some fe:=h
  cases hb:Nat.beq f a.1 with
  |true=>
   rw[hb,xfp] at h
   injection h with h2
   have:=xfs hb
   have:(f,fe)=a:=by rw[this,← h2]
   rw[this]
   exact List.mem_cons_self
  |false=>rw[hb,xfq] at h;exact List.mem_cons_of_mem _ (zgr h)
theorem zuu {l:List (Nat×FE)}(h:∀p∈l,FEOK P p):z2t P (zrr l):=
 ⟨fun _ _ hf=>(h _ (zgr hf)).fn,fun _ _ hf=>(h _ (zgr hf)).body,fun _ _ hf=>(h _ (zgr hf)).ok,fun _ _ hf=>(h _ (zgr hf)).call⟩
theorem z1w {α:Type}{Q:α→Prop}:∀p∈([]:List α),Q p:=fun _ h=>by cases h
theorem zae {α:Type}{Q:α→Prop}{a:α}{l:List α}(ha:Q a)(hl:∀p∈l,Q p):∀p∈a::l,Q p:=fun p hp=>by
 rcases List.mem_cons.1 hp with rfl|hp
 ·exact ha
 exact hl p hp
theorem zc0.closed {f:FuncId}{R:Value→Prop}(hc:zc0 P 0 f [] zaa.empty fun r _=>zen r=true∧R r)(lo:Nat)(h:zaa):zc0 P lo f [] h fun r h'=>R r∧h'=h:=by
 intro F hF hro n μ w cargs ha r
 have e0:∀o x,zaa.empty.get o=some x→False:=fun o x hx=>by rw[zaa.zl5] at hx;cases hx
 have r0:Rel (fun _=>none) 0 zaa.empty w:=⟨fun o x hx=>(e0 o x hx).elim,fun o o' x x' b a C a' C' _ hx=>(e0 o x hx).elim,fun o x hx=>(by cases hx),fun o x b a C _ hx=>(e0 o x hx).elim,Nat.zero_le _⟩
 have ha0:zas (fun _=>none) [] cargs.toList:=by have:=ha.zcd;rw[this];exact .nil _
 refine(hc F hF hro n _ w cargs ha0 r0).mono fun e w' ⟨r',v,h',μ',h1,h2,h3,h4,h5,h6⟩=>?_
 have hv:=zp2 h5 h2
 have hk:∀b,b<w.heap.size→w'.heap[b]?=w.heap[b]?:=fun b hb=>h4.kept b hb (by rintro⟨o,x,a,C,_,hx,_⟩;rw[zaa.zl5] at hx;cases hx)
 refine⟨r',v,h,μ,h1,by rw[hv];exact .zfv h5,⟨fun o x hx=>?_,r.inj,r.dom,fun o x b a C hl hx hm off=>?_,r.lole⟩,⟨Mu.le_refl _,h4.size,Nat.le_refl _,fun b hb _=>hk b hb,fun _ _ h=>h,fun _ _=>rfl,fun _ _=>rfl,fun _ _ h=>h,h4.calm⟩,h6,rfl⟩
 ·obtain⟨b,a,C,k1,k2⟩:=r.objs o x hx
  exact⟨b,a,C,k1,k2.kept (hk b k2.zcq)⟩
 rw[zbn (hk b (ze0 r hx hm).zcq)]
 exact r.thaw o x b a C hl hx hm off
end
end Go.Am
end
/-
  The abstract machine, part Df: a function that defers one call which does nothing where the function returns.
-/
section
namespace Go.Am
section
variable {P:Program} {lo:Nat} {ts:Tmps} {h:zaa}
end
end Go.Am
end
/-
 The abstract machine, part Pc: calls that panic.
-/
section
namespace Go.Am
section
variable {P:Program} {lo:Nat} {Q:zev} {ts:Tmps} {h:zaa} {pv:Value}
end
end Go.Am
end
/-
 The abstract machine, part Me: an entry of a map that is taken (mapEntry) and written later (entryStore).
-/
section
namespace Go.Am
section
variable {P:Program} {lo:Nat} {ts:Tmps} {h:zaa}
end
end Go.Am
end
