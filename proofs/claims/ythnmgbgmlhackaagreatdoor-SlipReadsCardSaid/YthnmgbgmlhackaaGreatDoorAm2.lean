/-
 What is used in the proof of a statement (part Am2); no condition.
-/
import Derived.LoopNIn
import Derived.DefersIn
import Derived.RangeFuncLeaves
import Derived.RangeFuncRecord
import Derived.Scope
import Derived.RecoverIn
import Derived.Test.YthnmgbgmlhackaaGreatDoorAm1
set_option linter.all false
set_option maxHeartbeats 40000000
set_option maxRecDepth 100000
section
namespace Go.Am
variable [bG]
structure gx (F:Fence):Prop where
  fn:∀f,F.fn f
  depth:F.depth=none
  alive:F.alive=false
theorem gx.one {F:Fence}(h:gx F)(n:Nat):F.depth.isSome=true→1≤n:=fun hd=>by rw[h.depth] at hd;cases hd
theorem OI:gx Fence.wide:=⟨fun _=>trivial,rfl,rfl⟩
theorem gx.inRound {F:Fence}(h:gx F)(l:Nat):gx (F.inRound l):=⟨h.fn,h.depth,h.alive⟩
theorem gx.eq {F:Fence}(h:gx F)(hr:F.round=none):F=Fence.wide:=by
 obtain⟨fn,depth,alive,round⟩:=F
 obtain⟨h1,h2,h3⟩:=h
 simp only at h1 h2 h3 hr
 subst h2;subst h3;subst hr
 have:fn=fun _=>True:=funext fun f=>propext ⟨fun _=>trivial,fun _=>h1 f⟩
 subst this
 rfl
abbrev kN:=Exit→aI→ah→Prop
def fF (lo:Nat)(U:Mu)(h:ah)(w:World)(ds:List Deferred)(Q:kN)(e:Exit)(a':Act)(w':World):Prop:=
 ∃bc h' aQ,dj aQ bc a'.tmps∧Rel aQ lo h' w'∧Frame lo U h w aQ h' w'∧a'.defers=ds∧Q e bc h'
theorem fF.trans {lo:Nat}{U mX:Mu}{h h1:ah}{w w1:World}{ds:List Deferred}{Q:kN}{e:Exit}{a':Act}{w':World}(f:Frame lo U h w mX h1 w1)(l:fF lo mX h1 w1 ds Q e a' w'):fF lo U h w ds Q e a' w':=
 let ⟨bc,h',aQ,h2,h3,h4,h5,h6⟩:=l
 ⟨bc,h',aQ,h2,h3,f.trans h4,h5,h6⟩
theorem fF.mono {lo:Nat}{U:Mu}{h:ah}{w:World}{ds:List Deferred}{Q Q':kN}{e e':Exit}{a':Act}{w':World}(l:fF lo U h w ds Q e a' w')(hq:∀ts h,Q e ts h→Q' e' ts h):fF lo U h w ds Q' e' a' w':=
 let ⟨bc,h',aQ,h2,h3,h4,h5,h6⟩:=l
 ⟨bc,h',aQ,h2,h3,h4,h5,hq _ _ h6⟩
def uQ (U:Mu)(h:ah)(b:Nat):Prop:=∀o x a C,h.get o=some x→U o=some (b,a,C)→False
theorem uQ.own {U:Mu}{lo:Nat}{h:ah}{b:Nat}(u:uQ U h b):¬x8 U lo h b:=fun⟨o,x,a,C,_,h2,h3⟩=>u o x a C h2 h3
theorem uQ.frame {lo:Nat}{U aQ:Mu}{h h':ah}{w w':World}{b:Nat}(u:uQ U h b)(hb:b<w.heap.size)(f:Frame lo U h w aQ h' w'):uQ aQ h' b:=by
 intro o x a C hx hm
 by_cases hl:lo≤o
 ·exact u.own (f.own b hb ⟨o,x,a,C,hl,hx,hm⟩)
 rw[f.low o (by omega)] at hx
 rw[f.fS o (ah.fJ hx)] at hm
 exact u o x a C hx hm
def Bj (F:Fence)(U:Mu)(h:ah)(w:World):Prop:=∀l,F.round=some l→∃r:Loop,w.heap[l]?=some (.loop r)∧uQ U h l
theorem Bk {w:World}{b:Nat}{o:Obj}(h:w.heap[b]?=some o):b<w.heap.size:=by
 rcases Nat.lt_or_ge b w.heap.size with h'|h'
 ·exact h'
 rw[Array.getElem?_eq_none h'] at h;cases h
theorem Bj.frame {F:Fence}{lo:Nat}{U aQ:Mu}{h h':ah}{w w':World}(r:Bj F U h w)(f:Frame lo U h w aQ h' w'):Bj F aQ h' w':=fun l hl=>by
 obtain⟨rec,h1,h2⟩:=r l hl
 have hb:=Bk h1
 exact⟨rec,by rw[f.kept l hb h2.own];exact h1,h2.frame hb f⟩
theorem Bj.none {F:Fence}{U:Mu}{h:ah}{w:World}(hF:F.round=none):Bj F U h w:=fun l hl=>by rw[hF] at hl;cases hl
def ng (B:Nat)(U:Mu)(h:ah)(w:World):List Deferred→Prop
 |[]=>True
 |d::ds=>(∃r,d={ target:=.collected r,args:=#[] }∧B≤r∧w.heap[r]?=some (.deferred (some []))∧uQ U h r∧∀d'∈ds,d'≠d)∧ng B U h w ds
theorem ng.frame {B lo:Nat}{U aQ:Mu}{h h':ah}{w w':World}(f:Frame lo U h w aQ h' w'):∀ {ds:List Deferred},ng B U h w ds→ng B aQ h' w' ds
 |[],_=>trivial
 |_::_,⟨⟨r,h1,h2,h3,h4,h5⟩,hr⟩=>
  have hb:=Bk h3
  ⟨⟨r,h1,h2,by rw[f.kept r hb h4.own];exact h3,h4.frame hb f,h5⟩,hr.frame f⟩
theorem ng.lt {B:Nat}{U:Mu}{h:ah}{w:World}:∀ {ds:List Deferred},ng B U h w ds→∀d∈ds,∃r,d={ target:=.collected r,args:=#[] }∧B≤r∧r<w.heap.size
 |[],_,d,hd=>by cases hd
 |_::_,⟨⟨r,h1,h2,h3,_⟩,hr⟩,d,hd=>by
  rcases List.mem_cons.1 hd with rfl|hd
  ·exact⟨r,h1,h2,Bk h3⟩
  exact hr.lt d hd
theorem ng.append {B B':Nat}{U:Mu}{h:ah}{w:World}(hB:B≤B'){ds:List Deferred}(h2:ng B U h w ds)(aY:∀d∈ds,∃r,d={ target:=.collected r,args:=#[] }∧r<B') :
  ∀ {OJ:List Deferred},ng B' U h w OJ→ng B U h w (OJ++ds)
 |[],_=>h2
 | _ :: _, ⟨⟨r, h3, h4, h5, h6, h7⟩, hr⟩ => ⟨⟨r, h3, by omega, h5, h6, fun d' tK => by
   rcases List.mem_append.1 tK with h|h
   ·exact h7 d' h
   obtain⟨r',h8,h9⟩:=aY d' h
   rintro rfl
   rw[h3] at h8
   injection h8 with h8 _;injection h8 with h8
   omega⟩,ng.append hB h2 aY hr⟩
def LiftM (lo:Nat)(U:Mu)(h:ah)(w:World)(ds:List Deferred)(Q:kN)(e:Exit)(a':Act)(w':World):Prop:=
 ∃bc h' aQ ms,dj aQ bc a'.tmps∧Rel aQ lo h' w'∧Frame lo U h w aQ h' w'∧a'.defers=ms++ds∧ng w.heap.size aQ h' w' ms∧Q e bc h'
theorem fF.Dl {lo:Nat}{U:Mu}{h:ah}{w:World}{ds:List Deferred}{Q:kN}{e:Exit}{a':Act}{w':World}(l:fF lo U h w ds Q e a' w'):LiftM lo U h w ds Q e a' w':=
 let ⟨bc,h',aQ,h2,h3,h4,h5,h6⟩:=l
 ⟨bc,h',aQ,[],h2,h3,h4,h5,trivial,h6⟩
theorem LiftM.trans {lo:Nat}{U mX:Mu}{h h1:ah}{w w1:World}{ds ms:List Deferred}{Q:kN}{e:Exit}{a':Act}{w':World}(f:Frame lo U h w mX h1 w1)(hm:ng w.heap.size mX h1 w1 ms)
  (l:LiftM lo mX h1 w1 (ms++ds) Q e a' w'):LiftM lo U h w ds Q e a' w':=by
 obtain⟨bc,h',aQ,J9,h2,h3,h4,h5,h6,h7⟩:=l
 refine⟨bc,h',aQ,J9++ms,h2,h3,f.trans h4,by rw[h5,List.append_assoc],ng.append f.size (hm.frame h4) (fun d hd=>?_) h6,h7⟩
 obtain⟨r,h8,_,h9⟩:=hm.lt d hd
 exact⟨r,h8,h9⟩
theorem LiftM.mono {lo:Nat}{U:Mu}{h:ah}{w:World}{ds:List Deferred}{Q Q':kN}{e e':Exit}{a':Act}{w':World}(l:LiftM lo U h w ds Q e a' w')(hq:∀ts h,Q e ts h→Q' e' ts h):LiftM lo U h w ds Q' e' a' w':=
 let ⟨bc,h',aQ,ms,h2,h3,h4,h5,h6,h7⟩:=l
 ⟨bc,h',aQ,ms,h2,h3,h4,h5,h6,hq _ _ h7⟩
def AW (P:Program)(lo:Nat)(c:Code)(Q:kN)(ts:aI)(h:ah):Prop:=
 ∀F,gx F→∀n U a w,dj U ts a.tmps→Rel U lo h w→Bj F U h w→c.wpIn F n P (LiftM lo U h w a.defers Q) a w
def mG (P:Program)(lo:Nat)(f:FuncId)(args:List Value)(h:ah)(R:Value→ah→Prop):Prop:=
 ∀F,gx F→F.round=none→∀n U w a6,br U args a6.toList→Rel U lo h w→
  CallsIn F n P f a6 w fun e w'=>∃r v h' aQ,e=.returned v∧aj aQ r v∧Rel aQ lo h' w'∧Frame lo U h w aQ h' w'∧R r h'
def oY (P:Program)(lo:Nat)(o:Oper)(ts:aI)(h:ah)(next:aI→ah→Prop):Prop:=
 ∀F,gx F→∀n U a w Q,dj U ts a.tmps→Rel U lo h w→o.wpIn F n P a w (fF lo U h w a.defers (fun _=>next) .normal) Q
section
variable {P:Program} {lo:Nat} {Q Q':kN} {ts:aI} {h:ah}
theorem AW.mono {c:Code}(hc:AW P lo c Q ts h)(hq:∀e ts h,Q e ts h→Q' e ts h):AW P lo c Q' ts h:=
 fun F hF n U a w ht r ro=>wpIn_mono (hc F hF n U a w ht r ro) fun _ _ _ hl=>hl.mono (hq _)
theorem mG.mono {f:FuncId}{args:List Value}{R R':Value→ah→Prop}(hc:mG P lo f args h R)(hr:∀r h,R r h→R' r h):mG P lo f args h R':=
 fun F hF ox n U w a6 ha r=>(hc F hF ox n U w a6 ha r).mono fun _ _ ⟨r,v,h',aQ,h1,h2,h3,h4,h5⟩=>⟨r,v,h',aQ,h1,h2,h3,h4,hr _ _ h5⟩
theorem oY.mono {o:Oper}{next next':aI→ah→Prop}(hc:oY P lo o ts h next)(hn:∀ts h,next ts h→next' ts h):oY P lo o ts h next':=
 fun F hF n U a w Q ht r=>Oper.wpIn_mono (fun _ _ hl=>hl.mono hn) (hc F hF n U a w Q ht r)
theorem fF.refl {U:Mu}{a:Act}{w:World}{e:Exit}(ht:dj U ts a.tmps)(r:Rel U lo h w)(hq:Q e ts h):fF lo U h w a.defers Q e a w:=
 ⟨ts,h,U,ht,r,Frame.refl _ _ _ _,rfl,hq⟩
theorem AW.skip (hq:Q .normal ts h):AW P lo .skip Q ts h:=fun _ _ _ _ _ _ ht r _=>wpIn_skip (fF.refl ht r hq).Dl
theorem AW.label {l:Nat}(hq:Q .normal ts h):AW P lo (.label l) Q ts h:=fun _ _ _ _ _ _ ht r _=>wpIn_label (fF.refl ht r hq).Dl
theorem AW.exit {id:Nat}(hq:Q (.exit id) ts h):AW P lo (.exit id) Q ts h:=fun _ _ _ _ _ _ ht r _=>wpIn_exit (fF.refl ht r hq).Dl
theorem AW.ret (hq:Q .ret ts h):AW P lo .ret Q ts h:=fun _ _ _ _ _ _ ht r _=>wpIn_ret (fF.refl ht r hq).Dl
def HJ (next:aI→ah→Prop)(Q:kN):kN
 |.normal=>next
 |e=>Q e
theorem AW.seq {x y:Code}(hx:AW P lo x (HJ (AW P lo y Q) Q) ts h):AW P lo (.seq x y) Q ts h:=by
 intro F hF n U a w ht r ro
 refine wpIn_seq (wpIn_mono (hx F hF n U a w ht r ro) fun e a' w' hl=>?_)
 obtain⟨bc,h',aQ,ms,h2,h3,h4,h5,h6,h7⟩:=hl
 cases e with
 |normal=>
  have:=h7 F hF n aQ a' w' h2 h3 (ro.frame h4)
  rw[h5] at this
  exact wpIn_mono this fun _ _ _ hl=>hl.trans h4 h6
 |exit id=>exact⟨bc,h',aQ,ms,h2,h3,h4,h5,h6,h7⟩
 |goto l=>exact⟨bc,h',aQ,ms,h2,h3,h4,h5,h6,h7⟩
 |ret=>exact⟨bc,h',aQ,ms,h2,h3,h4,h5,h6,h7⟩
 |panic ch=>exact⟨bc,h',aQ,ms,h2,h3,h4,h5,h6,h7⟩
 |outgrown=>exact⟨bc,h',aQ,ms,h2,h3,h4,h5,h6,h7⟩
theorem AW.cond {c:Operand}{x y:Code}{b:Bool}(hc:cP ts c=some (.bool b))(hb:AW P lo (if b then x else y) Q ts h):AW P lo (.cond c x y) Q ts h:=by
 intro F hF n U a w ht r ro
 have hr:=fE ht hc
 generalize he:a.eval c=v at hr
 cases hr
 exact wpIn_cond he (hb F hF n U a w ht r ro)
def HK (id:Nat)(Q:kN):kN
 |.exit yv=>if yv=id then Q .normal else Q (.exit yv)
 |e=>Q e
theorem AW.block {id:Nat}{c:Code}(hc:AW P lo c (HK id Q) ts h):AW P lo (.block id c) Q ts h:=by
 intro F hF n U a w ht r ro
 refine wpIn_block (wpIn_mono (hc F hF n U a w ht r ro) fun e a' w' hl=>?_)
 obtain⟨bc,h',aQ,ms,h2,h3,h4,h5,h6,h7⟩:=hl
 cases e with
 |normal=>exact⟨bc,h',aQ,ms,h2,h3,h4,h5,h6,h7⟩
 |exit yv=>
  simp only[Exit.inBlock]
  by_cases hi:yv=id
  ·simp only[HK,hi,if_true] at h7 ⊢;exact⟨bc,h',aQ,ms,h2,h3,h4,h5,h6,h7⟩
  simp only[HK,hi,if_false] at h7 ⊢;exact⟨bc,h',aQ,ms,h2,h3,h4,h5,h6,h7⟩
 |goto l=>exact⟨bc,h',aQ,ms,h2,h3,h4,h5,h6,h7⟩
 |ret=>exact⟨bc,h',aQ,ms,h2,h3,h4,h5,h6,h7⟩
 |panic ch=>exact⟨bc,h',aQ,ms,h2,h3,h4,h5,h6,h7⟩
 |outgrown=>exact⟨bc,h',aQ,ms,h2,h3,h4,h5,h6,h7⟩
def yx (P:Program)(lo:Nat)(c:Code)(Q:kN):Nat→aI→ah→Prop
 |0,_,_=>False
 |m+1,ts,h=>AW P lo c (HJ (yx P lo c Q m) Q) ts h
theorem yx.mono {c:Code}:∀ {m m':Nat} {ts:aI} {h:ah},m≤m'→yx P lo c Q m ts h→yx P lo c Q m' ts h
 |0,_,_,_,_,hr=>hr.elim
 |m+1,0,_,_,hle,_=>by omega
 |m+1,m'+1,ts,h,hle,hr=>AW.mono hr fun e ts h hq=>by
  cases e with
  |normal=>exact yx.mono (Nat.le_of_succ_le_succ hle) hq
  |_=>exact hq
theorem OK {c:Code}{F:Fence}(hF:gx F){n:Nat}:∀(m:Nat) (ts:aI) (h:ah) (iM:Mu) (h0:ah) (w0:World) (ds ms:List Deferred) (U:Mu) (a:Act) (w:World),dj U ts a.tmps→Rel U lo h w→Bj F iM h0 w0→Frame lo iM h0 w0 U h w→
  a.defers=ms++ds→ng w0.heap.size U h w ms→yx P lo c Q m ts h→Code.roundsIn F n P c (LiftM lo iM h0 w0 ds Q) m a w
 |0,_,_,_,_,_,_,_,_,_,_,_,_,_,_,_,_,hr=>hr.elim
 |m+1,ts,h,iM,h0,w0,ds,ms,U,a,w,ht,r,ro,f,hd,hm,hr=>by
  refine wpIn_mono (hr F hF n U a w ht r (ro.frame f)) fun e a' w' hl=>?_
  rw[hd] at hl
  have lj:=hl.trans f hm
  cases e with
  |normal=>
   obtain⟨bc,h',aQ,J9,h2,h3,h4,h5,h6,h7⟩:=lj
   exact OK (n:=n) hF m bc h' iM h0 w0 ds J9 aQ a' w' h2 h3 ro h4 h5 h6 h7
  |exit id=>exact lj
  |goto l=>exact lj
  |ret=>exact lj
  |panic ch=>exact lj
  |outgrown=>exact lj
theorem AW.V5 {c:Code}(m:Nat)(hr:yx P lo c Q m ts h):AW P lo (.loop c) Q ts h:=
 fun _ hF _ U a w ht r ro=>wpIn_loop_rounds m (OK hF m ts h U h w a.defers [] U a w ht r ro (Frame.refl _ _ _ _) rfl trivial hr)
theorem AW.loop {c:Code}(I:Nat→aI→ah→Prop)(m:Nat)(h0:I m ts h)(round:∀m ts h,I m ts h→AW P lo c (HJ (fun bc h'=>∃m',m'<m∧I m' bc h') Q) ts h):AW P lo (.loop c) Q ts h:=by
 have key:∀(m:Nat) (ts:aI) (h:ah),I m ts h→yx P lo c Q (m+1) ts h:=by
  intro m
  induction m using Nat.strongRecOn with
  |_ m ih=>
   intro ts h hI
   refine AW.mono (round m ts h hI) fun e bc h' hq=>?_
   cases e with
   |normal=>
    obtain⟨m',aY,V6⟩:=hq
    exact yx.mono (by omega) (ih m' aY bc h' V6)
   |_=>exact hq
 exact .V5 (m+1) (key m ts h h0)
def bA (ts:aI)(dst:Option Tmp)(v:Value):aI:=
 match dst with
 |some d=>ts.set d v
 |none=>ts
theorem Bl {U:Mu}{a:Act}{v v':Value}(ht:dj U ts a.tmps)(hv:aj U v v')(dst:Option Tmp):dj U (bA ts dst v) (a.put dst v').tmps:=by
 cases dst with
 |none=>exact ht
 |some d=>
  have:=br.set d ht hv
  simpa[dj,bA,Act.put] using this
theorem put_defers (a:Act)(dst:Option Tmp)(v:Value):(a.put dst v).defers=a.defers:=by cases dst<;>rfl
theorem Bm {o:Oper}{w:World}{ρ:Operand→Value}(F:Fence)(hF:gx F):∀f,o.about P w ρ=some f→F.fn f:=fun f _=>hF.fn f
theorem oY.op {o:Oper}{v:Value}{h':ah}{next:aI→ah→Prop}(ha:ct P lo ts h o.op=some (v,h'))(hn:next (bA ts o.dst v) h'):oY P lo o ts h next:=by
 intro F hF n U a w Q ht r
 refine⟨Bm F hF,?_⟩
 have Ka:∀c,o.op≠.defer c:=fun c hc=>by rw[hc] at ha;simp[ct] at ha
 rw[Oper.semAt_eq _ _ _ Ka]
 obtain⟨nx,v',w',aQ,h1,h2,h3,h4,h5⟩:=V3 (P:=P) r ht ha
 rw[h1]
 have hl:fF lo U h w a.defers (fun _=>next) .normal (a.put o.dst v') w':=
  ⟨_,h',aQ,Bl (ht.mono h5.le) h3 o.dst,h4,h5,put_defers _ _ _,hn⟩
 rcases h2 with rfl|⟨rfl,rfl⟩
 ·exact hl
 exact hl
theorem oY.call {o:Oper}{fo:Operand}{args:Array Operand}{aT:Array TypeId}{f:FuncId}{first captured:Array Value}{l:List Value}{next:aI→ah→Prop}(ho:o.op=.call ⟨.value fo,args,aT⟩)
  (hf:cP ts fo=some (.func (.func f) first captured)) (hl:nK ts args.toList=some l) (dR:∀as w,(callFunc f as).run P w=.ok (.enter f as) w)
  (hc:∀F,gx F→F.round=none→∀n U w a6,br U (first.toList++l++captured.toList) a6.toList→Rel U lo h w→
   CallsIn F n P f a6 w fun e w'=>∃r v h' aQ,e=.returned v∧aj aQ r v∧Rel aQ lo h' w'∧Frame lo U h w aQ h' w'∧next (bA ts o.dst r) h'):oY P lo o ts h next:=by
 intro F hF n U a w Q ht r
 refine⟨Bm F hF,?_⟩
 rw[Oper.semAt_eq _ _ _ (fun c hc=>by rw[ho] at hc;cases hc)]
 have pK:=fE ht hf
 generalize ra:a.eval fo=fv at pK
 cases pK with
 |func _ _ _ gI dy hx hy rx ry=>
  have eR:(execOp a.eval o).run P w=.ok (.enter f (gI++args.map a.eval++dy)) w:=by
   simp only[execOp,ho,resolve,ra,Deferred.ofValue,Sem.run_bind,Sem.run_pure,Result.andThen_ok,invoke,dR]
  rw[eR]
  refine⟨hF.one n,?_⟩
  have gJ:br U (first.toList++l++captured.toList) (gI++args.map a.eval++dy).toList:=by
   simp only[Array.toList_append,Array.toList_map]
   exact((p8.2 ⟨hx,rx⟩).append (Di ht hl)).append (p8.2 ⟨hy,ry⟩)
  have il:gx F.plain:=⟨hF.fn,hF.depth,hF.alive⟩
  have uR:CallsIn F (n - 1) P f (gI++args.map a.eval++dy) w _:=hc F.plain il rfl (n - 1) U w _ gJ r
  refine uR.mono fun e w' ⟨r',v,h',aQ,h1,h2,h3,h4,h5⟩=>?_
  subst h1
  exact⟨_,h',aQ,Bl (ht.mono h4.le) h2 o.dst,h3,h4,put_defers _ _ _,h5⟩
theorem oY.Kc {o:Oper}{fo:Operand}{args:Array Operand}{aT:Array TypeId}{f:FuncId}{first captured:Array Value}{l:List Value}{next:aI→ah→Prop}(ho:o.op=.call ⟨.value fo,args,aT⟩)
  (hf:cP ts fo=some (.func (.func f) first captured)) (hl:nK ts args.toList=some l) (dR:∀as w,(callFunc f as).run P w=.ok (.enter f as) w)
  (hc:mG P lo f (first.toList++l++captured.toList) h fun r h'=>next (bA ts o.dst r) h'):oY P lo o ts h next:=
 .call ho hf hl dR hc
def ml (ops:Array Oper)(ts:aI)(j:Nat):Option Bool:=
 match ((ops[j]?).bind (·.dst)).bind (ts[·]?) with
 |some (.bool b)=>some b
 |_=>none
theorem OL {U:Mu}{a:Act}{ops:Array Oper}(ht:dj U ts a.tmps)(j:Nat):yielded ops a.tmps j=ml ops ts j:=by
 unfold yielded ml
 cases hd:(ops[j]?).bind (·.dst) with
 |none=>rfl
 |some d=>
  simp only[Option.bind_some]
  cases nL:ts[d]? with
  |none=>
   have:a.tmps[d]?=none:=by
    rw[Array.getElem?_eq_none]
    have:=ht.1
    rw[List.getElem?_eq_none_iff] at nL
    simp at this;omega
   rw[this]
  |some v=>
   obtain⟨v',h1,h2⟩:=ht.2 d v nL
   have nF:a.tmps[d]?=some v':=by simpa using h1
   rw[nF]
   cases h2<;>rfl
def oZ (P:Program)(lo:Nat)(ops:Array Oper)(K:aI→ah→Prop):List Nat→aI→ah→Prop
 |[],ts,h=>K ts h
 |i::rest,ts,h=>
  match ops[i]? with
  |none=>oZ P lo ops K rest ts h
  |some o=>if Region.wanted o (ml ops ts) then oY P lo o ts h (oZ P lo ops K rest) else oZ P lo ops K rest (bA ts o.dst Go.undef) h
theorem HL {ops:Array Oper}{F:Fence}(hF:gx F){n:Nat}:∀(l:List Nat) (ts:aI) (h:ah) (iM:Mu) (h0:ah) (w0:World) (U:Mu) (a:Act) (w:World),dj U ts a.tmps→Rel U lo h w→Frame lo iM h0 w0 U h w→
  oZ P lo ops (Q .normal) l ts h→wpOpsIn F n P ops (fF lo iM h0 w0 a.defers Q) l a w
 |[],ts,h,iM,h0,w0,U,a,w,ht,r,f,hk=>⟨ts,h,U,ht,r,f,rfl,hk⟩
 |i::rest,ts,h,iM,h0,w0,U,a,w,ht,r,f,hk=>by
  simp only[oZ] at hk
  simp only[wpOpsIn]
  cases ho:ops[i]? with
  |none=>simp only[ho] at hk ⊢;exact HL hF rest ts h iM h0 w0 U a w ht r f hk
  |some o=>
   simp only[ho] at hk ⊢
   have hy:yielded ops a.tmps=ml ops ts:=funext (OL ht)
   rw[hy]
   by_cases hw:Region.wanted o (ml ops ts)=true
   ·simp only[hw,if_true] at hk ⊢
    refine Oper.wpIn_mono (fun a' w' hl=>?_) (hk F hF n U a w _ ht r)
    obtain⟨bc,h',aQ,h2,h3,h4,h5,h6⟩:=hl.trans f
    have:=HL (n:=n) hF rest bc h' iM h0 w0 aQ a' w' h2 h3 h4 h6
    rw[h5] at this
    exact this
   simp only[hw,if_false,Bool.false_eq_true] at hk ⊢
   refine⟨Bm F hF,?_⟩
   have:=HL (n:=n) hF rest (bA ts o.dst Go.undef) h iM h0 w0 U (a.put o.dst Go.undef) w (Bl ht .undef o.dst) r f hk
   rw[put_defers] at this
   exact this
theorem AW.region {id:Nat}{ops:Array Oper}(hk:oZ P lo ops (Q .normal) (List.range ops.size) ts h):AW P lo (.region id ops false) Q ts h:=
 fun _ hF _ U a w ht r _=>wpIn_mono (wpIn_region (HL hF _ ts h U h w U a w ht r (Frame.refl _ _ _ _) hk)) fun _ _ _ hl=>hl.Dl
def EK (P:Program)(ts:aI)(h:ah):ResultVar→Option Value
 |.tmp t=>some (ts.getD t Go.undef)
 |.cell a t=>rT P h t (ts.getD a Go.undef)
def r7 (P:Program)(ts:aI)(h:ah):List ResultVar→Option (List Value)
 |[]=>some []
 |x::r=>match EK P ts h x,r7 P ts h r with
  |some v,some l=>some (v::l)
  |_,_=>none
def z6 (l:List Value):Value:=
 match l with
 |[v]=>v
 |l=>.tuple l.toArray
def EL (tmps:Array Value):ResultVar→Sem Value
 |.tmp t=>pure (tmps.getD t Go.undef)
 |.cell c t=>asAddr (tmps.getD c Go.undef) >>= fun ad=>loadVar t ad
theorem V7 (fn:Func)(tmps:Array Value):results fn tmps=(fn.results.mapM (EL tmps) >>= fun vs=>pure (if h:vs.size=1 then vs[0] else .tuple vs)):=by
 unfold results
 congr 1
theorem OM {U:Mu}{a:Act}{w:World}(ht:dj U ts a.tmps)(r:Rel U lo h w):∀ {rs:List ResultVar} {l:List Value},r7 P ts h rs=some l→
  ∃l',(rs.mapM (EL a.tmps)).run P w=.ok l' w∧br U l l'
 |[],l,hl=>by simp only[r7,az] at hl;subst hl;exact⟨[],rfl,br.nil U⟩
 |x::rs,l,hl=>by
  simp only[r7] at hl
  split at hl
  ·rename_i v l1 h1 h2
   simp only[az] at hl;subst hl
   obtain⟨l',g1,g2⟩:=OM ht r h2
   cases x with
   |tmp t=>
    simp only[EK,az] at h1;subst h1
    exact⟨_::l',by simp only[List.mapM_cons,EL,Sem.run_bind,Sem.run_pure,Result.andThen_ok,g1],.cons (ht.getD t) g2⟩
   |cell c t=>
    simp only[EK] at h1
    obtain⟨v',w',aQ,e1,e2,e3,e4⟩:=JB (P:=P) r (ht.getD c) h1
    have tJ:=ht.getD c
    generalize hP:a.tmps.getD c Go.undef=cv at tJ e1
    have Kd:=h1
    unfold rT at Kd
    split at Kd
    ·rename_i o off heq
     rw[heq] at tJ
     cases tJ with
     |ptr _ _ b a0 C hm=>
      simp only[Instr.loadAt,Instr.sureAddr,Sem.run_bind,Sem.run_pure,Result.andThen_ok] at e1
      have ho:=JB (P:=P) r (aj.ptr o off b a0 C hm) (heq▸h1)
      obtain⟨v2,w2,zM,q1,q2,q3,q4⟩:=ho
      have ev:∃v3,(loadVar t ⟨b,a0+off,none⟩).run P w=.ok v3 w∧aj U v v3:=by
       rw[heq] at h1
       unfold rT at h1
       simp only at h1
       split at h1
       ·rename_i s cs hx
        have oT:=mZ r hx hm
        split at h1
        ·rename_i hg
         split at h1
         ·rename_i nn hn
          cases hle:Nat.ble (off+nn) cs.length with
          |false=>simp[hle] at h1
          |true=>
           simp only[hle,aM,az] at h1;subst h1
           obtain⟨ar,k1,k2,k3⟩:=Hp oT off nn (by simpa using hle)
           have hl:=run_loadCells_list (P:=P) w _ ar k3
           rw[k2] at hl
           exact⟨.agg ar.toArray,by simp[loadVar,C5 hg,mE hn,hl],.j7 k1⟩
         simp at h1
        ·rename_i hg
         obtain⟨v',k1,k2⟩:=oT.2.1 off v h1
         exact⟨v',by simp[loadVar,C5 hg,k1],k2⟩
        simp at h1
       simp at h1
      obtain⟨v3,k1,k2⟩:=ev
      have hA:asAddr (.pointer (some ⟨b,a0+off,none⟩))=(pure ⟨b,a0+off,none⟩:Sem Addr):=rfl
      exact⟨v3::l',by simp only[List.mapM_cons,EL,Sem.run_bind,hP,hA,Sem.run_pure,Result.andThen_ok,k1,g1],.cons k2 g2⟩
    simp at Kd
  simp at hl
theorem V8 {U:Mu}{a:Act}{w:World}{fn:Func}{l:List Value}(ht:dj U ts a.tmps)(r:Rel U lo h w)(hl:r7 P ts h fn.results.toList=some l) :
  ∃v,(results fn a.tmps).run P w=.ok v w∧aj U (z6 l) v:=by
 obtain⟨l',h1,h2⟩:=OM (P:=P) ht r hl
 have he:(fn.results.mapM (EL a.tmps)).run P w=.ok l'.toArray w:=by
  rw[Array.mapM_eq_mapM_toList,Sem.run_map,h1,Result.andThen_ok]
 have eR:(results fn a.tmps).run P w=.ok (if hs:l'.toArray.size=1 then l'.toArray[0] else .tuple l'.toArray) w:=by
  rw[V7,Sem.run_bind,he,Result.andThen_ok,Sem.run_pure]
 refine⟨_,eR,?_⟩
 cases l with
 |nil=>have:=h2.iW;subst this;exact .tuple #[] #[] rfl (fun i h=>by simp at h)
 |cons v1 r1=>
  obtain⟨v1',r1',rfl,hv,hr⟩:=h2.dw
  cases r1 with
  |nil=>have:=hr.iW;subst this;simpa[z6] using hv
  |cons v2 r2=>
   obtain⟨v2',r2',rfl,eT,jb⟩:=hr.dw
   simpa[z6] using aj.p9 h2
def Ke (P:Program)(fn:Func)(R:Value→ah→Prop):kN
 |.normal,ts,h=>∃l,r7 P ts h fn.results.toList=some l∧R (z6 l) h
 |.ret,ts,h=>∃l,r7 P ts h fn.results.toList=some l∧R (z6 l) h
 |_,_,_=>False
theorem HM {U:Mu}{w:World}{b:Nat}(o:Obj)(r:Rel U lo h w)(u:uQ U h b)(hb:bG.K≤b):Rel U lo h (w.putObj b o):=by
 have hk:∀o' x b' a C,h.get o'=some x→U o'=some (b',a,C)→(w.putObj b o).heap[b']?=w.heap[b']?:=fun o' x b' a C hx hm=>
  World.putObj_heap_other (by rintro rfl;exact u o' x a C hx hm)
 refine⟨fun o' x hx=>?_,r.inj,r.nE,fun o' x b' a C hl hx hm off=>?_,r.bI,⟨fun b' oO=>by rw[World.putObj_heap_other (by omega)];exact r.jE.gl b' oO,by rw[World.putObj_size];exact r.jE.ks,r.jE.hi⟩⟩
 ·obtain⟨b',a,C,h1,h2⟩:=r.bg o' x hx
  exact⟨b',a,C,h1,h2.kept (hk o' x b' a C hx h1)⟩
 rw[x9 (hk o' x b' a C hx hm)]
 exact r.eI o' x b' a C hl hx hm off
theorem HN {U aQ:Mu}{h':ah}{w w':World}{b:Nat}(o:Obj)(f:Frame lo U h w aQ h' w')(hb:w.heap.size≤b∨x8 U lo h b):Frame lo U h w aQ h' (w'.putObj b o):=
 ⟨f.le,by rw[World.putObj_size];exact f.size,f.next,fun b' oO hn=>by
  rw[World.putObj_heap_other (by rintro rfl;exact hb.elim (fun h=>absurd oO (by omega)) hn)]
  exact f.kept b' oO hn,f.own,f.low,f.fS,f.born,⟨f.calm.1,f.calm.2,f.calm.3,f.calm.4⟩⟩
theorem ng.putObj {B:Nat}{U:Mu}{w:World}{b:Nat}(o:Obj):∀ {ds:List Deferred},(∀d∈ds,d≠{ target:=.collected b,args:=#[] })→ng B U h w ds→ng B U h (w.putObj b o) ds
 |[],_,_=>trivial
 | d :: ds, hd, ⟨⟨r, h1, h2, h3, h4, h5⟩, hr⟩ => ⟨⟨r, h1, h2, by
  rw[World.putObj_heap_other (by rintro rfl;exact hd d (by simp) h1)];exact h3,h4,h5⟩,hr.putObj o (fun d' tK=>hd d' (List.mem_cons_of_mem _ tK))⟩
theorem ON {F:Fence}{n:Nat}{fn:Func}{iM U:Mu}{h0:ah}{w0:World}{tmps:Array Value}{R:Ending→World→Prop}(hK:bG.K≤w0.heap.size):∀(ms:List Deferred) (w:World),ng w0.heap.size U h w ms→Rel U lo h w→Frame lo iM h0 w0 U h w→
  (∀w',Rel U lo h w'→Frame lo iM h0 w0 U h w'→∃v,(results fn tmps).run P w'=.ok v w'∧R (.returned v) w')→LeavesInM F n P fn tmps R ms .returning w
 |[],w,_,r,f,hf=>hf w r f
 |d::ds,w,⟨⟨b,h1,h2,h3,h4,h5⟩,hr⟩,r,f,hf=>by
  refine⟨by simp,.inl ⟨b,w.putObj b (.deferred none),by rw[h1],run_takeDeferred h3,?_⟩⟩
  exact ON hK ds _ (hr.putObj _ (fun d' tK=>by rw[← h1];exact h5 d' tK)) (HM _ r h4 (Nat.le_trans hK h2)) (HN _ f (.inl h2)) hf
theorem mG.bP {f:FuncId}{fn:Func}{c:Code}{args:List Value}{R:Value→ah→Prop}(hf:P.funcs[f]?=some fn)(hb:fn.body=some c)
  (hc:AW P lo c (Ke P fn R) (args++List.replicate (fn.ntmps - args.length) Go.undef) h):mG P lo f args h R:=by
 intro F hF ox n U w a6 ha r
 have hlen:a6.size=args.length:=by have:=ha.1;simp at this;omega
 have ht:dj U (args++List.replicate (fn.ntmps - args.length) Go.undef) (a6++Array.replicate (fn.ntmps - a6.size) Go.undef):=by
  rw[hlen]
  simp only[dj,Array.toList_append,Array.toList_replicate]
  refine ha.append ⟨by simp,fun i v hv=>⟨Go.undef,?_,?_⟩⟩
  ·have hi:i<fn.ntmps - args.length:=by
    rcases Nat.lt_or_ge i (fn.ntmps - args.length) with h|h
    ·exact h
    rw[List.getElem?_eq_none (by simpa using h)] at hv;simp at hv
   simp[hi]
  have:=List.mem_of_getElem? hv
  rw[List.mem_replicate] at this
  rw[this.2];exact .undef
 refine callsIn_of_wp_marks hf hb (hF.fn f) ?_ ox
 refine wpIn_mono (hc F hF n U { tmps:=a6++Array.replicate (fn.ntmps - a6.size) Go.undef,defers:=[] } w ht r (.none ox)) fun e a' w' hl=>?_
 obtain⟨bc,h',aQ,ms,h2,h3,h4,h5,h6,h7⟩:=hl
 have h5:a'.defers=ms:=by rw[h5,List.append_nil]
 have fin:(∃l,r7 P bc h' fn.results.toList=some l∧R (z6 l) h')→LeavesInM F n P fn a'.tmps (fun e w'=>∃r v h' aQ,e=.returned v∧aj aQ r v∧Rel aQ lo h' w'∧Frame lo U h w aQ h' w'∧R r h') a'.defers .returning w':=by
  rintro⟨l,hl,hR⟩
  rw[h5]
  refine ON r.jE.ks ms w' h6 h3 h4 fun w2 r2 f2=>?_
  obtain⟨v,k1,k2⟩:=V8 (P:=P) h2 r2 hl
  exact⟨v,k1,_,v,h',aQ,rfl,k2,r2,f2,hR⟩
 cases e with
 |normal=>exact fin h7
 |ret=>exact fin h7
 |exit id=>exact h7.elim
 |goto l=>exact h7.elim
 |panic ch=>exact h7.elim
 |outgrown=>exact h7.elim
theorem OO {U:Mu}{v v':Value}(hs:tu v=true)(h:aj U v v'):v'=v:=by
 unfold tu at hs
 split at hs<;>first|cases hs;done|(cases h;rfl)
theorem OP {U:Mu}{l l':List Value}(hs:l.all tu=true)(h:br U l l'):l'=l:=by
 apply List.ext_getElem?
 intro i
 cases hi:l[i]? with
 |none=>
  rw[List.getElem?_eq_none_iff] at hi ⊢
  rw[← h.1];exact hi
 |some v=>
  obtain⟨v',h1,h2⟩:=h.2 i v hi
  rw[List.all_eq_true] at hs
  rw[h1,OO (hs v (List.mem_of_getElem? hi)) h2]
theorem EM {U:Mu}{v v':Value}(hs:kK v=true)(h:aj U v v'):v'=v:=by
 unfold kK at hs
 split at hs
 ·obtain⟨ar,rfl,hc⟩:=h.C3
  rw[Array.ext' (OP hs hc)]
 ·obtain⟨ar,rfl,hc⟩:=h.Oa
  rw[Array.ext' (OP hs hc)]
 exact OO hs h
end
def OQ (P:Program)(s:Sem Value)(U:Mu)(w:World)(id:Nat)(v:Value)(x:a7):Prop:=
 ∃ob v' C,s.run P w=.ok v' (w.alloc ob)∧(∀off,(w.alloc ob).frozen? ⟨w.heap.size,off,none⟩=false)∧
  ∀ν,U.le ν→ν id=some (w.heap.size,0,C)→aj ν v v'∧fD ν (w.alloc ob) w.heap.size 0 C x
theorem Kf {ν:Mu}{w:World}{t:TypeId}{arr:Array Value}{cs:List Value}(h:br ν cs arr.toList):fD ν (w.alloc (.cells arr t)) w.heap.size 0 0 (.cells 0 cs):=by
 refine⟨by simp,fun i v hv=>?_,fun h0=>by omega⟩
 obtain⟨v',h1,h2⟩:=h.2 i v hv
 exact⟨v',by simpa using h1,h2⟩
def ix (P:Program)(ts:aI)(id:Nat):Op→Option (Value×a7)
 |.alloc t=>match oP P t with
  |some z=>some (.pointer (some ⟨id,0,none⟩),.cells 0 z)
  |none=>none
 |.box _ x=>match cP ts x with
  |some v=>some (.pointer (some ⟨id,0,none⟩),.cells 0 v.cells.toList)
  |none=>none
 |.buildSlice t len parts=>match tG ts parts.toList,fT P t with
  |some l,some (e,n)=>
   match oP P e with
   |some z=>
    bif Nat.beq z.length n&&Nat.ble (len*n) 16777216&&Nat.blt 0 n then
     match tA (fun i=>some (i*n,n)) (cR z len) l with
     |some cs=>some (.slice (some ⟨id,0,none⟩) len len,.cells 0 cs)
     |none=>none
    else none
   |none=>none
  |_,_=>none
 |.makeSlice t l c=>match cP ts l,cP ts c,fT P t with
  |some (.int .i64 (.ofNat l)),some (.int .i64 (.ofNat c)),some (e,n)=>
   match oP P e,(P.info? e).map (·.bytes) with
   |some z,some bytes=>
    bif Nat.beq z.length n&&Nat.ble l c&&Nat.ble (bytes*c) 281474976710656&&Nat.blt 0 n&&Nat.ble c 281474976710656 then
     some (.slice (some ⟨id,0,none⟩) l c,.cells 0 (cR z c))
    else none
   |_,_=>none
  |_,_,_=>none
 |.makeMap _ none=>some (.map (some id),.map [])
 |_=>none
def EN:Op→Bool
 |.alloc _|.box .. | .buildSlice .. | .makeSlice .. | .makeMap ..=>true
 |_=>false
theorem OR {P:Program}{U:Mu}{w:World}{id:Nat}{t:TypeId}{v v':Value}{s:Sem Value}(hs:s.run P w=.ok (.pointer (some ⟨w.heap.size,0,none⟩)) (w.alloc (.cells v'.cells t)))(hv:aj U v v') :
  OQ P s U w id (.pointer (some ⟨id,0,none⟩)) (.cells 0 v.cells.toList):=by
 refine⟨_,_,0,hs,fun off=>by simp,fun ν yn hid=>⟨?_,Kf (hv.cells.mono yn)⟩⟩
 have:=aj.ptr id 0 w.heap.size 0 0 hid
 simpa using this
theorem V9 {P:Program}{U:Mu}{w:World}{ts:aI}{a:Act}{id:Nat}{o:Oper}{v:Value}{x:a7}(ht:dj U ts a.tmps)(ha:ix P ts id o.op=some (v,x)) :
  ∃s:Sem Value,execOp a.eval o=(do pure (.value (← s)))∧OQ P s U w id v x:=by
 unfold ix at ha
 split at ha
 all_goals (rename_i J8;try unfold execOp;try rw[J8])
 ·rename_i t
  split at ha
  ·rename_i z hz
   simp only[az,bO] at ha;obtain⟨rfl,rfl⟩:=ha
   obtain⟨zv,h1,h2,h3⟩:=yc hz w
   refine⟨_,rfl,?_⟩
   have:=OR (P:=P) (U:=U) (w:=w) (id:=id) (t:=t) (v:=zv) (v':=zv) (s:=Instr.alloc t true (.tuple #[])) (by simp[Instr.alloc,h1,newVar,newRow]) (.yb h3)
   rwa [h2] at this
  simp at ha
 ·rename_i t y
  split at ha
  ·rename_i u hu
   simp only[az,bO] at ha;obtain⟨rfl,rfl⟩:=ha
   exact⟨_,rfl,OR (t:=t) (v':=a.eval y) (by simp[Instr.box,newVar,newRow]) (fE ht hu)⟩
  simp at ha
 ·rename_i t len parts
  split at ha
  ·rename_i l e n hl he
   obtain⟨hu,hn⟩:=tz he
   split at ha
   ·rename_i z hz
    obtain⟨zv,h1,h2,h3⟩:=yc hz w
    cases hc:(Nat.beq z.length n&&Nat.ble (len*n) 16777216&&Nat.blt 0 n) with
    |false=>rw[hc] at ha;simp at ha
    |true=>
     rw[hc] at ha
     simp only[aM] at ha
     simp only[bV] at hc
     obtain⟨⟨gZ,fV⟩,im⟩:=hc
     have gZ:z.length=n:=by simpa using gZ
     have fV:len*n≤16777216:=by simpa using fV
     have im:0<n:=by rw[Nat.blt_eq] at im;exact im
     split at ha
     ·rename_i cs hf
      simp only[az,bO] at ha
      obtain⟨rfl,rfl⟩:=ha
      have zN:zv.cells.size=n:=by rw[← gZ,← h2];simp
      have hlen:len≤16777216:=Nat.le_trans (Nat.le_mul_of_pos_right len im) fV
      have qb:br U (cR z len) ((Array.range (len*n)).map (zv.cells[· % zv.cells.size]!)).toList:=by
       have:=range_zero zv.cells len
       rw[zN] at this ⊢
       rw[this,h2]
       exact Db (h2▸AZ h3) len
      have hp:uE U l (parts.map fun (i,y)=>(i,a.eval y)).toList:=by simpa using HI ht hl
      obtain⟨out,h4,h5⟩:=Hr (U:=U) (fun i=>some (i*n,n)) l _ (cR z len) _ cs hp qb hf
      have fK:len=gj 0 len:=by rw[nG];unfold ay;omega
      refine⟨_,rfl,.cells out e,.slice (some ⟨w.heap.size,0,none⟩) len len,0,?_,fun off=>by simp,fun ν yn hid=>⟨?_,Kf (h5.mono yn)⟩⟩
      ·have fW:¬(len*n > 2 ^ 24):=by omega
       by_cases h0:len*n=0
       ·have mh:len=0:=by
         rcases Nat.mul_eq_zero.1 h0 with h|h
         ·exact h
         omega
        subst mh
        have nb:Array.range 0=#[]:=rfl
        rw[Nat.zero_mul,nb] at h4
        simp only[List.map_toArray,List.map_nil,Array.toList_map] at h4
        simp[Instr.buildSlice,run_underlying hu,mE hn,nb,h4,newRow]
       simp only[Array.toList_map] at h4
       simp[Instr.buildSlice,run_underlying hu,mE hn,fW,h0,h1,h4,newRow]
      have:=aj.slice id 0 len len w.heap.size 0 0 hid (Nat.le_of_eq fK) (by unfold dI;omega)
      rwa [← fK] at this
     simp at ha
   simp at ha
  simp at ha
 ·rename_i t l0 c0
  split at ha
  ·rename_i l c e n hl gq he
   obtain⟨hu,hn⟩:=tz he
   have uS:=fE ht hl
   have tJ:=fE ht gq
   generalize hle:a.eval l0=lv at uS
   generalize hP:a.eval c0=cv at tJ
   cases uS
   cases tJ
   split at ha
   ·rename_i z bytes hz hb
    obtain⟨zv,h1,h2,h3⟩:=yc hz w
    cases hc:(Nat.beq z.length n&&Nat.ble l c&&Nat.ble (bytes*c) 281474976710656&&Nat.blt 0 n&&Nat.ble c 281474976710656) with
    |false=>rw[hc] at ha;simp at ha
    |true=>
     rw[hc] at ha
     simp only[aM,az,bO] at ha
     obtain⟨rfl,rfl⟩:=ha
     simp only[bV] at hc
     obtain⟨⟨⟨⟨gZ,fV⟩,im⟩,A1⟩,A2⟩:=hc
     have gZ:z.length=n:=by simpa using gZ
     have fV:l≤c:=by simpa using fV
     have im:bytes*c≤281474976710656:=by simpa using im
     have A1:0<n:=by rw[Nat.blt_eq] at A1;exact A1
     have A2:c≤281474976710656:=by simpa using A2
     have zN:zv.cells.size=n:=by rw[← gZ,← h2];simp
     have Hu:IntKind.i64.wrap (c:Int)=c:=Ht A2
     have qc:IntKind.i64.wrap (l:Int)=l:=Ht (by omega)
     have qb:br U (cR z c) ((Array.range (c*n)).map (zv.cells[· % zv.cells.size]!)).toList:=by
      have:=range_zero zv.cells c
      rw[zN] at this ⊢
      rw[this,h2]
      exact Db (h2▸AZ h3) c
     have fK:c=gj 0 c:=by rw[nG];unfold ay;omega
     refine⟨_,rfl,.cells ((Array.range (c*n)).map (zv.cells[· % zv.cells.size]!)) e,.slice (some ⟨w.heap.size,0,none⟩) l c,0,?_,fun off=>by simp,fun ν yn hid=>⟨?_,Kf (qb.mono yn)⟩⟩
     ·rw[hle,hP]
      cases hi:P.info? e with
      |none=>simp[hi] at hb
      |some i=>
       simp only[hi,Option.map_some,az] at hb
       subst hb
       have Ew:(typeInfo e).run P w=.ok i w:=by simp[typeInfo,hi]
       have Ex:¬((281474976710656:Int)<(i.bytes:Int)*(c:Int)):=by
        have:((i.bytes*c:Nat):Int)≤((281474976710656:Nat):Int):=Int.ofNat_le.2 im
        rw[Int.natCast_mul] at this
        exact Int.not_lt.2 this
       have zO:¬((c:Int)<(l:Int)):=by omega
       by_cases h0:c*n=0
       ·have zP:c=0:=by
         rcases Nat.mul_eq_zero.1 h0 with h|h
         ·exact h
         omega
        subst zP
        have mh:l=0:=by omega
        subst mh
        have nb:Array.range 0=#[]:=rfl
        have w6:IntKind.i64.wrap 0=0:=by decide
        simp[Instr.makeSlice,run_underlying hu,asInt,asIntOf,Ew,mE hn,w6,nb,newRow]
       simp[Instr.makeSlice,run_underlying hu,asInt,asIntOf,Ew,mE hn,Hu,qc,zO,h0,h1,newRow]
       rintro ((hh|hh)|hh)
       ·omega
       ·exact absurd hh Ex
       omega
     have:=aj.slice id 0 l c w.heap.size 0 0 hid (by rw[← fK];exact fV) (by unfold dI;omega)
     rwa [← fK] at this
   simp at ha
  simp at ha
 ·rename_i t
  simp only[az,bO] at ha;obtain⟨rfl,rfl⟩:=ha
  refine⟨_,rfl,.map #[] 0,.map (some w.heap.size),0,by simp[Instr.makeMap],fun off=>by simp only[World.frozen?,heap_alloc];simp,fun ν yn hid=>⟨.map id _ _ hid,rfl,#[],0,by rw[heap_alloc];simp,⟨[],.nil,by simp,rfl,fun i p e h=>by simp at h,by simp,fun e h=>by simp at h⟩⟩⟩
 simp at ha
theorem Dm {ts bc:aI}:∀ {xs:List Operand},(∀x∈xs,cP ts x=cP bc x)→nK ts xs=nK bc xs
 |[],_=>rfl
 |x::r,h=>by simp only[nK,h x (by simp),Dm (fun y hy=>h y (List.mem_cons_of_mem _ hy))]
theorem HO {ts bc:aI}:∀ {xs:List (Nat×Operand)},(∀x∈xs.map (·.2),cP ts x=cP bc x)→tG ts xs=tG bc xs
 |[],_=>rfl
 |(i,x)::r,h=>by simp only[tG,h x (by simp),HO (xs:=r) (fun y hy=>h y (by simp only[List.map_cons];exact List.mem_cons_of_mem _ hy))]
theorem Kg {ts bc:aI}{x:Option Operand}(h:∀y∈x.toArray,cP ts y=cP bc y):tH ts x=tH bc x:=by
 cases x with
 |none=>rfl
 |some x=>simp only[tH,h x (by simp)]
theorem Bn {P:Program}{lo:Nat}{ts bc:aI}{h:ah}{op:Op}(he:∀x∈op.operands,cP ts x=cP bc x):ct P lo ts h op=ct P lo bc h op:=by
 cases op<;>simp only[Op.operands] at he<;>try rfl
 case move x=>simp only[ct,he x (by simp)]
 case assign x=>simp only[ct,he x (by simp)]
 case pick c a b=>simp only[ct,he c (by simp),he a (by simp),he b (by simp)]
 case box t x=>simp only[ct,he x (by simp)]
 case build t ps=>simp only[ct,HO (ts:=ts) (bc:=bc) (xs:=ps.toList) (fun x hx=>he x (by simpa using hx))]
 case buildSlice t n ps=>simp only[ct,HO (ts:=ts) (bc:=bc) (xs:=ps.toList) (fun x hx=>he x (by simpa using hx))]
 case load t x=>simp only[ct,he x (by simp)]
 case store t x y=>simp only[ct,he x (by simp),he y (by simp)]
 case nilCheck x=>simp only[ct,he x (by simp)]
 case binOp o t x y u=>simp only[ct,he x (by simp),he y (by simp)]
 case unOp o t x=>simp only[ct,he x (by simp)]
 case convert s d x=>simp only[ct,he x (by simp)]
 case makeFunc fn a b=>
  cases fn<;>try rfl
  simp only[ct,Dm (ts:=ts) (bc:=bc) (xs:=a.toList) (fun x hx=>he x (by simp at hx ⊢;exact .inl hx)),Dm (ts:=ts) (bc:=bc) (xs:=b.toList) (fun x hx=>he x (by simp at hx ⊢;exact .inr hx))]
 case makeMap t r=>cases r<;>rfl
 case makeSlice t x y=>simp only[ct,he x (by simp),he y (by simp)]
 case slice t x l u m=>
  simp only[ct,he x (by simp),Kg (ts:=ts) (bc:=bc) (x:=l) (fun y hy=>he y (by simp at hy ⊢;simp[hy])),Kg (ts:=ts) (bc:=bc) (x:=u) (fun y hy=>he y (by simp at hy ⊢;simp[hy])),
   Kg (ts:=ts) (bc:=bc) (x:=m) (fun y hy=>he y (by simp at hy ⊢;simp[hy]))]
 case fieldAddr s x f=>simp only[ct,he x (by simp)]
 case field s x f=>simp only[ct,he x (by simp)]
 case indexAddr t x y=>simp only[ct,he x (by simp),he y (by simp)]
 case index t x y=>simp only[ct,he x (by simp),he y (by simp)]
 case lookup t x y ok=>simp only[ct,he x (by simp),he y (by simp)]
 case mapUpdate t x y z=>simp only[ct,he x (by simp),he y (by simp),he z (by simp)]
 case insert t x y z=>simp only[ct,he x (by simp),he y (by simp),he z (by simp)]
 case extract x i=>simp only[ct,he x (by simp)]
 case call c=>
  obtain⟨callee,args,aT⟩:=c
  cases callee<;>try rfl
  simp only[ct,Dm (ts:=ts) (bc:=bc) (xs:=args.toList) (fun x hx=>he x (by simp[Call.operands];simpa using hx))]
theorem OS {P:Program}{ts bc:aI}{id:Nat}{op:Op}(he:∀x∈op.operands,cP ts x=cP bc x):ix P ts id op=ix P bc id op:=by
 cases op<;>simp only[Op.operands] at he<;>try rfl
 case box t x=>simp only[ix,he x (by simp)]
 case buildSlice t n ps=>simp only[ix,HO (ts:=ts) (bc:=bc) (xs:=ps.toList) (fun x hx=>he x (by simpa using hx))]
 case makeMap t r=>cases r<;>rfl
 case makeSlice t x y=>simp only[ix,he x (by simp),he y (by simp)]
def tL:Op→Bool
 |.move _|.assign _|.pick .. | .build .. | .load .. | .nilCheck _|.binOp .. | .unOp .. | .convert .. | .makeFunc .. | .slice .. | .fieldAddr .. | .field .. | .indexAddr .. | .index .. | .lookup .. | .extract ..=>true
 |.call ⟨.builtin .len,_,_⟩|.call ⟨.builtin .cap,_,_⟩|.call ⟨.builtin .max,_,_⟩|.call ⟨.builtin .min,_,_⟩=>true
 |_=>false
def ah.sub (h h':ah):Prop:=∀o x,h.get o=some x→h'.get o=some x
theorem Wa {P:Program}{h h':ah}(hs:h.sub h'){t:TypeId}{p v:Value}(ha:rT P h t p=some v):rT P h' t p=some v:=by
 unfold rT at ha ⊢
 split at ha
 ·split at ha
  ·rename_i hx;rw[hs _ _ hx];exact ha
  simp at ha
 simp at ha
theorem Wb {P:Program}{h h':ah}(hs:h.sub h'){t:TypeId}{m k v:Value}{ok:Bool}(ha:tD P h t m k ok=some v):tD P h' t m k ok=some v:=by
 unfold tD at ha ⊢
 split at ha
 ·split at ha
  ·cases m<;>try exact ha
   rename_i r
   cases r with
   |none=>exact ha
   |some o=>
    cases ho:h.get o with
    |none=>simp[ho] at ha
    |some x=>
     simp only[ho,hs o x ho] at ha ⊢
     exact ha
  simp at ha
 simp at ha
theorem Wc {P:Program}{h h':ah}(hs:h.sub h'){t:TypeId}{m v:Value}{xs:Array Value}{ok:Bool}(ha:yt P h t m xs ok=some v):yt P h' t m xs ok=some v:=by
 unfold yt at ha ⊢
 split at ha
 ·rename_i kT e n hk
  cases hb:(!(gr xs.toList&&Nat.beq xs.toList.length n)) with
  |true=>rw[hb] at ha;cases ha
  |false=>
   rw[hb] at ha
   simp only[bq] at ha ⊢
   split at ha
   ·cases m<;>try exact ha
    rename_i r
    cases r with
    |none=>exact ha
    |some o=>
     cases ho:h.get o with
     |none=>simp[ho] at ha
     |some x=>
      simp only[ho,hs o x ho] at ha ⊢
      exact ha
   simp at ha
 simp at ha
theorem Wd {P:Program}{h h':ah}(hs:h.sub h'){t:TypeId}{m k v:Value}{ok:Bool}(ha:tF P h t m k ok=some v):tF P h' t m k ok=some v:=by
 unfold tF at ha ⊢
 split at ha
 ·exact Wc hs ha
 exact Wb hs ha
theorem We {P:Program}{h h':ah}(hs:h.sub h'){t:TypeId}{x v:Value}(ha:mi P h t x=some v):mi P h' t x=some v:=by
 unfold mi at ha ⊢
 cases hu:P.underlying t with
 |none=>rw[hu] at ha;cases x<;>simp at ha
 |some d=>
  rw[hu] at ha
  cases d<;>cases x<;>try exact ha
  rename_i r
  cases r with
  |none=>exact ha
  |some o=>
   simp only at ha ⊢
   cases ho:h.get o with
   |none=>simp[ho] at ha
   |some y=>simp only[ho,hs o y ho] at ha ⊢;exact ha
theorem Wf {P:Program}{lo:Nat}{h:ah}{b:Builtin}{aT:List TypeId}{l:List Value}{v:Value}{h1:ah}(hb:b=.len∨b=.cap∨b=.max∨b=.min)(ha:ow P lo h b aT l=some (v,h1)) :
  h1=h∧∀h2,h.sub h2→ow P lo h2 b aT l=some (v,h2):=by
 have cI:∀ {o:Option Value},o.map (·,h)=some (v,h1)→h1=h∧∀h2:ah,h.sub h2→o.map (·,h2)=some (v,h2):=fun {o} hm=>by
  obtain⟨u,h3,h4⟩:=dd hm
  simp only[bO] at h4
  obtain⟨rfl,rfl⟩:=h4
  exact⟨rfl,fun h2 _=>by rw[h3];rfl⟩
 rcases hb with rfl|rfl|rfl|rfl
 ·rcases aT with _|⟨t,_|⟨u,r⟩⟩<;>rcases l with _|⟨x,_|⟨y,s⟩⟩<;>simp only[ow] at ha ⊢ <;> try (simp at ha;done)
  obtain⟨u,h3,h4⟩:=dd ha
  simp only[bO] at h4
  obtain⟨rfl,rfl⟩:=h4
  exact⟨rfl,fun h2 hs=>by rw[We hs h3];rfl⟩
 ·rcases aT with _|⟨t,_|⟨u,r⟩⟩<;>rcases l with _|⟨x,_|⟨y,s⟩⟩<;>simp only[ow] at ha ⊢ <;> try (simp at ha;done)
  exact cI ha
 ·rcases l with _|⟨x,s⟩<;>simp only[ow] at ha ⊢ <;> try (simp at ha;done)
  exact cI ha
 rcases l with _|⟨x,s⟩<;>simp only[ow] at ha ⊢ <;> try (simp at ha;done)
 exact cI ha
theorem z7 {P:Program}{lo:Nat}{ts:aI}{h:ah}{op:Op}{v:Value}{h1:ah}(hr:tL op=true)(ha:ct P lo ts h op=some (v,h1)):h1=h∧∀h2,h.sub h2→ct P lo ts h2 op=some (v,h2):=by
 have fin:∀ {f:ah→Option Value},(∀h2,h.sub h2→∀u,f h=some u→f h2=some u)→(f h).map (·,h)=some (v,h1)→h1=h∧∀h2,h.sub h2→(f h2).map (·,h2)=some (v,h2):=by
  intro f hf hm
  obtain⟨u,h3,h4⟩:=dd hm
  simp only[bO] at h4
  obtain⟨rfl,rfl⟩:=h4
  exact⟨rfl,fun h2 hs=>by rw[hf h2 hs u h3];rfl⟩
 have cI:∀ {o:Option Value},o.map (·,h)=some (v,h1)→h1=h∧∀h2,h.sub h2→o.map (·,h2)=some (v,h2):=fun {o} hm=>fin (f:=fun _=>o) (fun _ _ _ hu=>hu) hm
 cases op<;>simp only[tL,Bool.false_eq_true] at hr<;>simp only[ct] at ha ⊢
 case move x=>exact cI ha
 case assign x=>exact cI ha
 case pick c a b=>
  split at ha
  ·exact cI ha
  ·exact cI ha
  simp at ha
 case build t ps=>
  split at ha
  ·exact cI ha
  simp at ha
 case load t x=>
  split at ha
  ·exact fin (fun h2 hs u hu=>Wa hs hu) ha
  simp at ha
 case nilCheck x=>
  split at ha
  ·exact cI ha
  simp at ha
 case binOp o t x y u=>
  split at ha
  ·exact cI ha
  simp at ha
 case unOp o t x=>
  split at ha
  ·exact cI ha
  simp at ha
 case convert s d x=>
  split at ha
  ·exact cI ha
  simp at ha
 case makeFunc fn a b=>
  cases fn<;>simp only at ha ⊢ <;> try (simp at ha)
  split at ha
  ·simp only[az,bO] at ha;obtain⟨rfl,rfl⟩:=ha
   exact⟨rfl,fun h2 _=>rfl⟩
  simp at ha
 case slice t x l u m=>
  split at ha
  ·exact cI ha
  simp at ha
 case fieldAddr s x f=>
  split at ha
  ·exact cI ha
  simp at ha
 case field s x f=>
  split at ha
  ·exact cI ha
  simp at ha
 case indexAddr t x y=>
  split at ha
  ·exact cI ha
  simp at ha
 case index t x y=>
  split at ha
  ·exact cI ha
  simp at ha
 case lookup t x y ok=>
  split at ha
  ·exact fin (fun h2 hs u hu=>Wd hs hu) ha
  simp at ha
 case extract x i=>
  split at ha
  ·exact cI ha
  simp at ha
 case call c=>
  obtain⟨callee,args,aT⟩:=c
  cases callee with
  |builtin b=>
   simp only[ct] at ha ⊢
   split at ha
   ·rename_i l hl
    refine Wf ?_ ha
    cases b<;>simp only[Bool.false_eq_true] at hr<;>simp
   simp at ha
  |value f=>simp at hr
  |invoke r m=>simp at hr
def ah.nj:Nat→ah→ah
 |0,h=>h
 |k+1,h=>let g:=ah.nj k h;⟨g.next+1,g.tr.set none (g.next+1) g.next⟩
theorem ah.Bo:∀(k:Nat) (h:ah),(ah.nj k h).next=h.next+k
 |0,_=>rfl
 |k+1,h=>by simp only[ah.nj,ah.Bo k h];omega
theorem ah.uT:∀(k:Nat) (h:ah) (o:Nat),(ah.nj k h).get o=h.get o
 |0,_,_=>rfl
 |k+1,h,o=>by
  have ih:=ah.uT k h o
  have hn:=ah.Bo k h
  rw[← ih]
  simp only[ah.nj,ah.get_eq]
  rw[Tr.Js _ _ _ _ _ (by omega)]
  by_cases ho:o=(ah.nj k h).next
  ·subst ho;simp
  by_cases hl:o<(ah.nj k h).next
  ·have:o<(ah.nj k h).next+1:=by omega
   simp[ho,hl,this]
  have:¬o<(ah.nj k h).next+1:=by omega
  simp[hl,this]
theorem Rel.nj {U:Mu}{lo:Nat}{h:ah}{w:World}(r:Rel U lo h w)(k:Nat):Rel U lo (ah.nj k h) w:=by
 refine⟨fun o x hx=>r.bg o x (by rwa [ah.uT] at hx),fun o o' x x' b a C a' C' hl hx tt=>r.inj o o' x x' b a C a' C' hl (by rwa [ah.uT] at hx) (by rwa [ah.uT] at tt),fun o x hx=>?_,
  fun o x b a C hl hx=>r.eI o x b a C hl (by rwa [ah.uT] at hx),?_,r.jE.same rfl fun o x h1 h2=>⟨h1,x,by rwa [ah.uT] at h2⟩⟩
 ·have:=r.nE o x hx;rw[ah.Bo];omega
 have:=r.bI;rw[ah.Bo];omega
theorem Frame.nj {U:Mu}{lo:Nat}{h:ah}{w:World}(k:Nat):Frame lo U h w U (ah.nj k h) w:=by
 refine⟨Mu.le_refl _,Nat.le_refl _,by rw[ah.Bo];omega,fun _ _ _=>rfl,fun b _=>?_,fun o _=>ah.uT k h o,fun _ _=>rfl,fun o _ hn=>by rw[ah.uT];exact hn,.refl w⟩
 rintro⟨o,x,a,C,h1,h2,h3⟩
 exact⟨o,x,a,C,h1,by rwa [ah.uT] at h2,h3⟩
section
variable (base:Nat) (sl:Nat→Nat) (FO:Nat→Option a7) (S:Nat→Bool)
def bJ:List Nat→ah→ah
 |[],h=>h
 | i :: r, h => bif S i then match FO i with
   |some x=>(bJ r h).put (base+sl i) (some x)
   |none=>bJ r h
  else bJ r h
variable {base sl FO S}
theorem nM:∀(as:List Nat) (h:ah),(bJ base sl FO S as h).next=h.next
 |[],_=>rfl
 |i::r,h=>by
  simp only[bJ]
  cases S i with
  |false=>exact nM r h
  |true=>
   cases FO i with
   |none=>exact nM r h
   |some x=>exact nM r h
theorem w9 {as:List Nat}{h:ah}{o:Nat}(hb:∀i∈as,base+sl i<h.next)(hm:∀i∈as,S i=true→FO i≠none→o≠base+sl i):(bJ base sl FO S as h).get o=h.get o:=by
 induction as with
 |nil=>rfl
 |cons i r ih=>
  have ih:=ih (fun j hj=>hb j (List.mem_cons_of_mem _ hj)) (fun j hj=>hm j (List.mem_cons_of_mem _ hj))
  simp only[bJ]
  cases hs:S i with
  |false=>exact ih
  |true=>
   cases hf:FO i with
   |none=>exact ih
   |some x=>
    simp only[aM]
    rw[ah.dH _ _ _ _ (by rw[nM];exact hb i (by simp)),if_neg (hm i (by simp) hs (by simp[hf]))]
    exact ih
theorem z8 {as:List Nat}{h:ah}{i:Nat}{x:a7}(hb:∀i∈as,base+sl i<h.next)(yy:∀i∈as,∀j∈as,sl i=sl j→i=j)(hi:i∈as)(hs:S i=true)(hf:FO i=some x) :
  (bJ base sl FO S as h).get (base+sl i)=some x:=by
 induction as with
 |nil=>cases hi
 |cons j r ih=>
  have ih:=ih (fun j hj=>hb j (List.mem_cons_of_mem _ hj)) (fun j hj k hk=>yy j (List.mem_cons_of_mem _ hj) k (List.mem_cons_of_mem _ hk))
  simp only[bJ]
  by_cases e8:i=j
  ·subst e8
   simp only[hs,hf,aM]
   rw[ah.dH _ _ _ _ (by rw[nM];exact hb i (by simp)),if_pos rfl]
  have dJ:i∈r:=(List.mem_cons.1 hi).resolve_left e8
  cases hsj:S j with
  |false=>exact ih dJ
  |true=>
   cases xc:FO j with
   |none=>exact ih dJ
   |some y=>
    simp only[aM]
    rw[ah.dH _ _ _ _ (by rw[nM];exact hb j (by simp)),if_neg]
    ·exact ih dJ
    intro h
    exact e8 (yy i hi j (by simp) (by omega))
theorem OT {as:List Nat}{h:ah}{o:Nat}{x:a7}(hb:∀i∈as,base+sl i<h.next)(yy:∀i∈as,∀j∈as,sl i=sl j→i=j)(hx:(bJ base sl FO S as h).get o=some x) :
  (∃i∈as,S i=true∧o=base+sl i∧FO i=some x)∨(h.get o=some x∧∀i∈as,S i=true→FO i≠none→o≠base+sl i):=by
 by_cases he:∃i∈as,S i=true∧FO i≠none∧o=base+sl i
 ·obtain⟨i,hi,hs,hf,rfl⟩:=he
  cases pL:FO i with
  |none=>exact absurd pL hf
  |some y=>
   rw[z8 hb yy hi hs pL] at hx
   exact .inl ⟨i,hi,hs,rfl,by rw[pL,hx]⟩
 have hm:∀i∈as,S i=true→FO i≠none→o≠base+sl i:=fun i hi hs hf ho=>he ⟨i,hi,hs,hf,ho⟩
 rw[w9 hb hm] at hx
 exact .inr ⟨hx,hm⟩
end
theorem Wg (ts:aI)(d:Option Tmp)(v:Value):(bA ts d v).length=ts.length:=by cases d<;>simp[bA]
theorem EO {ts:aI}{d:Option Tmp}{v:Value}{t:Nat}(h:d≠some t):(bA ts d v)[t]?=ts[t]?:=by
 cases d with
 |none=>rfl
 |some d=>simp only[bA];rw[List.getElem?_set_ne];intro hh;exact h (by rw[hh])
theorem Wh {ts bc:aI}{d:Option Tmp}{v v':Value}{t:Nat}(hl:ts.length=bc.length)(h:ts[t]?=bc[t]?)(hv:d=some t→v=v'):(bA ts d v)[t]?=(bA bc d v')[t]?:=by
 by_cases hd:d=some t
 ·subst hd
  rw[hv rfl]
  simp only[bA,List.getElem?_set,if_true,hl]
 rw[EO hd,EO hd];exact h
theorem Wi (ts:aI){d e:Option Tmp}(v u:Value)(h:∀t,d=some t→e≠some t):bA (bA ts d v) e u=bA (bA ts e u) d v:=by
 cases d with
 |none=>rfl
 |some d=>
  cases e with
  |none=>rfl
  |some e=>
   have:d≠e:=fun hh=>h d rfl (by rw[hh])
   simp only[bA]
   rw[List.set_comm _ _ this]
def r8 (ops:Array Oper)(i:Nat):Option Tmp:=(ops[i]?).bind (·.dst)
def eP (ops:Array Oper)(V:Nat→Value)(S:Nat→Bool)(b6:aI):Nat→aI
 |0=>b6
 |n+1=>bif S n then bA (eP ops V S b6 n) (r8 ops n) (V n) else eP ops V S b6 n
section
variable {ops:Array Oper} {V V':Nat→Value} {S S':Nat→Bool} {b6:aI}
theorem Kh:∀n,(eP ops V S b6 n).length=b6.length
 |0=>rfl
 |n+1=>by simp only[eP];cases S n<;>simp[Wg,Kh n]
theorem yz:∀ {n},(∀i<n,S i=S' i)→(∀i<n,S i=true→V i=V' i)→eP ops V S b6 n=eP ops V' S' b6 n
 |0,_,_=>rfl
 |n+1,h,hv=>by
  simp only[eP]
  rw[← h n (by omega),yz (fun i hi=>h i (by omega)) (fun i hi=>hv i (by omega))]
  cases hs:S n with
  |false=>rfl
  |true=>rw[hv n (by omega) hs]
theorem Ki {t:Nat}:∀ {n},(∀j<n,r8 ops j=some t→S j=S' j∧(S j=true→V j=V' j))→(eP ops V S b6 n)[t]?=(eP ops V' S' b6 n)[t]?
 |0,_=>rfl
 |n+1,h=>by
  have ih:=Ki (n:=n) (fun j hj=>h j (by omega))
  simp only[eP]
  by_cases hd:r8 ops n=some t
  ·obtain⟨h1,h2⟩:=h n (by omega) hd
   rw[← h1]
   cases hs:S n with
   |false=>exact ih
   |true=>exact Wh (by rw[Kh,Kh]) ih (fun _=>h2 hs)
  have e:∀(b:Bool) (v:Value) (ts:aI),(bif b then bA ts (r8 ops n) v else ts)[t]?=ts[t]?:=fun b v ts=>by
   cases b
   ·rfl
   exact EO hd
  rw[e,e];exact ih
theorem OU {i:Nat}:∀ {n},i<n→S i=false→(∀j,i<j→j<n→S j=true→∀t,r8 ops i=some t→r8 ops j≠some t)→
  eP ops V (fun j=>S j||Nat.beq j i) b6 n=bA (eP ops V S b6 n) (r8 ops i) (V i)
 |0,h,_,_=>by omega
 |n+1,h,hs,hd=>by
  simp only[eP]
  by_cases hi:i=n
  ·subst hi
   have:eP ops V (fun j=>S j||Nat.beq j i) b6 i=eP ops V S b6 i:=by
    refine yz (fun j hj=>?_) (fun _ _ _=>rfl)
    have:Nat.beq j i=false:=by rw[Bool.eq_false_iff];intro hh;have:=rQ hh;omega
    simp[this]
   rw[this,hs]
   simp
  have hb:Nat.beq n i=false:=by rw[Bool.eq_false_iff];intro hh;have:=rQ hh;omega
  rw[OU (n:=n) (by omega) hs (fun j h1 h2=>hd j h1 (by omega)),hb,Bool.or_false]
  cases gy:S n with
  |false=>rfl
  |true=>exact Wi _ _ _ (hd n (by omega) (by omega) gy)
end
def xd (ops:Array Oper)(o:Oper)(ts bc:aI):Prop:=∀t∈o.looksAt ops,ts[t]?=bc[t]?
theorem xd.eval {ops:Array Oper}{o:Oper}{ts bc:aI}(h:xd ops o ts bc):∀x∈o.op.operands,cP ts x=cP bc x:=by
 intro x hx
 cases x with
 |tmp t=>
  have:=h t (List.mem_append_left _ (List.mem_filterMap.2 ⟨.tmp t,by simpa using hx,rfl⟩))
  simp only[cP,List.getD_eq_getElem?_getD,this]
 |_=>rfl
theorem xd.wanted {ops:Array Oper}{o:Oper}{ts bc:aI}(h:xd ops o ts bc):Region.wanted o (ml ops ts)=Region.wanted o (ml ops bc):=by
 unfold Region.wanted
 cases hg:o.guard with
 |none=>rfl
 |some gw=>
  obtain⟨g,wt⟩:=gw
  have:ml ops ts g=ml ops bc g:=by
   unfold ml
   cases hd:(ops[g]?).bind (·.dst) with
   |none=>rfl
   |some d=>
    simp only[Option.bind_some]
    rw[h d (List.mem_append_right _ (by simp[hg,hd]))]
  simp only[this]
theorem Frame.ext {lo:Nat}{U aQ:Mu}{h h1 h2:ah}{w w':World}(f:Frame lo U h w aQ h1 w')(hg:∀o,h2.get o=h1.get o)(hn:h1.next=h2.next):Frame lo U h w aQ h2 w' where
  le:=f.le
  size:=f.size
  next:=hn▸f.next
  kept:=f.kept
  own b hb:=by
    rintro⟨o,x,a,C,k1,k2,k3⟩
    exact f.own b hb ⟨o,x,a,C,k1,by rw[← hg];exact k2,k3⟩
  low o ho:=by rw[hg,f.low o ho]
  fS:=f.fS
  born o ho hx:=by rw[hg,f.born o ho hx]
  calm:=f.calm
theorem Rel.ext {U:Mu}{lo:Nat}{h h':ah}{w:World}(r:Rel U lo h w)(hg:∀o,h'.get o=h.get o)(hn:h.next=h'.next):Rel U lo h' w:=
 r.sub (Nat.le_of_eq hn) (fun o x hx=>by rw[← hg];exact hx) (Nat.le_refl _) (hn▸r.bI)
theorem Wj {U:Mu}{lo:Nat}{h:ah}{w:World}(r:Rel U lo h w){id:Nat}(hid:id<h.next)(hl:lo≤id)(hg:h.get id=none)(hm:U id=none)(ob:Obj)(C:Nat)(x:a7)
  (hx:fD (U.put id (w.heap.size,0,C)) (w.alloc ob) w.heap.size 0 C x) (hf:∀off,(w.alloc ob).frozen? ⟨w.heap.size,off,none⟩=false) :
  U.le (U.put id (w.heap.size,0,C))∧Rel (U.put id (w.heap.size,0,C)) lo (h.put id (some x)) (w.alloc ob)∧
  ∀iM h0 w0,Frame lo iM h0 w0 U h w→h0.next≤id→Frame lo iM h0 w0 (U.put id (w.heap.size,0,C)) (h.put id (some x)) (w.alloc ob):=by
 have hle:U.le (U.put id (w.heap.size,0,C)):=by
  intro o y hy
  have:o≠id:=by intro ho;subst ho;rw[hm] at hy;cases hy
  rw[Mu.iX _ this];exact hy
 have hblk:∀o y b a C',h.get o=some y→U o=some (b,a,C')→b<w.heap.size:=fun o y b a C' hy hm=>by
  obtain⟨b',a',oL,h1,h2⟩:=r.bg o y hy
  rw[hm] at h1;injection h1 with h1;injection h1 with h1 _;subst h1
  exact h2.qW
 refine⟨hle,⟨?_,?_,?_,?_,?_,?_⟩,fun iM h0 w0 f hb=>?_⟩
 ·intro o y hy
  rw[ah.dH _ _ _ _ hid] at hy
  by_cases ho:o=id
  ·subst ho
   simp at hy;subst hy
   exact⟨_,_,_,Mu.cz _ _ _,hx⟩
  simp[ho] at hy
  obtain⟨b,a,C',h1,h2⟩:=r.bg o y hy
  exact⟨b,a,C',by rw[Mu.iX _ ho];exact h1,(h2.mono hle).kept (heap_alloc_old _ _ h2.qW)⟩
 ·intro o o' y y' b a C' a' oL hl hy oM hm eu
  rw[ah.dH _ _ _ _ hid] at hy oM
  by_cases ho:o=id
  ·by_cases lE:o'=id
   ·rw[ho,lE]
   simp[lE] at oM
   rw[Mu.iX _ lE] at eu
   have:=hblk o' y' _ _ _ oM eu
   subst ho;rw[Mu.cz] at hm;injection hm with hm;injection hm with hm _;omega
  simp[ho] at hy
  rw[Mu.iX _ ho] at hm
  have h1:=hblk o y _ _ _ hy hm
  by_cases lE:o'=id
  ·subst lE;rw[Mu.cz] at eu;injection eu with eu;injection eu with eu _;omega
  simp[lE] at oM
  rw[Mu.iX _ lE] at eu
  exact r.inj o o' y y' b a C' a' oL hl hy oM hm eu
 ·intro o y hy
  by_cases ho:o=id
  ·subst ho;simpa using hid
  rw[Mu.iX _ ho] at hy
  have:=r.nE o y hy
  simpa using this
 ·intro o y b a C' hl hy hm off
  rw[ah.dH _ _ _ _ hid] at hy
  by_cases ho:o=id
  ·subst ho
   rw[Mu.cz] at hm;injection hm with hm;injection hm with hm _;subst hm
   exact hf off
  simp[ho] at hy
  rw[Mu.iX _ ho] at hm
  rw[x9 (heap_alloc_old _ _ (hblk o y _ _ _ hy hm))]
  exact r.eI o y b a C' hl hy hm off
 ·exact r.bI
 ·refine r.jE.step (by simp) (fun b hb _=>heap_alloc_old _ _ hb) fun o y b a C' hl hy hm hb=>?_
  rw[ah.dH _ _ _ _ hid] at hy
  by_cases ho:o=id
  ·subst ho;rw[Mu.cz] at hm;injection hm with hm;injection hm with hm _;omega
  simp[ho] at hy
  rw[Mu.iX _ ho] at hm
  exact⟨o,y,a,C',hl,hy,hm⟩
 refine⟨Mu.le_trans f.le hle,Nat.le_trans f.size (by simp),f.next,fun b hb hn=>?_,fun b hb=>?_,fun o ho=>?_,fun o ho=>?_,fun o ho hn=>?_,⟨f.calm.1,f.calm.2,f.calm.3,f.calm.4⟩⟩
 ·rw[heap_alloc_old _ _ (Nat.lt_of_lt_of_le hb f.size)];exact f.kept b hb hn
 ·rintro⟨o,y,a,C',hl,hy,hm⟩
  rw[ah.dH _ _ _ _ hid] at hy
  by_cases ho:o=id
  ·subst ho;rw[Mu.cz] at hm;injection hm with hm;injection hm with hm _
   have:=f.size;omega
  simp[ho] at hy
  rw[Mu.iX _ ho] at hm
  exact f.own b hb ⟨o,y,a,C',hl,hy,hm⟩
 ·rw[ah.dH _ _ _ _ hid,if_neg (by omega)];exact f.low o ho
 ·rw[Mu.iX _ (by omega)];exact f.fS o ho
 rw[ah.dH _ _ _ _ hid,if_neg (by omega)];exact f.born o ho hn
theorem Wl {U aQ:Mu}{lo:Nat}{h hm h' hj:ah}{w w':World}(r:Rel U lo h w)(hn:hm.next=h.next)(hs:∀o x,hm.get o=some x→h.get o=some x)
  (bD:∀o,o<lo→hm.get o=h.get o)
  (r':Rel aQ lo h' w') (f:Frame lo U hm w aQ h' w') (Kj:hj.next=h'.next)
  (cZ:∀o,hj.get o=h'.get o∨(lo≤o∧hm.get o=none∧∃x,h.get o=some x∧hj.get o=some x)) :
  Rel aQ lo hj w'∧Frame lo U h w aQ hj w':=by
 have aside:∀o x b a C,lo≤o→hm.get o=none→h.get o=some x→U o=some (b,a,C)→¬x8 U lo hm b:=by
  rintro o x b a C cC h0 hx HP ⟨o',x',a',C',k1,k2,k3⟩
  have:=r.inj o o' x x' b a C a' C' cC hx (hs _ _ k2) HP k3
  subst this
  rw[h0] at k2;cases k2
 have Dn:∀ {o x},hj.get o=some x→h'.get o=some x∨(lo≤o∧hm.get o=none∧h.get o=some x):=fun {o x} hx=>by
  rcases cZ o with h1|⟨h1,h2,y,h3,h4⟩
  ·exact .inl (by rw[← h1];exact hx)
  rw[h4] at hx;injection hx with hx;subst hx;exact .inr ⟨h1,h2,h3⟩
 have jx:∀ {o x},lo≤o→hm.get o=none→h.get o=some x→∃b a C,U o=some (b,a,C)∧aQ o=some (b,a,C)∧b<w.heap.size∧w'.heap[b]?=w.heap[b]?∧fD U w b a C x:=fun {o x} h1 h2 h3=>by
  obtain⟨b,a,C,k1,k2⟩:=r.bg o x h3
  exact⟨b,a,C,k1,f.le _ _ k1,k2.qW,f.kept b k2.qW (aside o x b a C h1 h2 h3 k1),k2⟩
 have Aa:∀ {o o' x x' b a C a' C'},h'.get o=some x→lo≤o'→hm.get o'=none→h.get o'=some x'→aQ o=some (b,a,C)→aQ o'=some (b,a',C')→o=o':=fun {o o' x x' b a C a' C'} k1 k2 k3 k4 k5 k6=>by
  obtain⟨b2,a2,C2,g1,g2,g3,g4,_⟩:=jx k2 k3 k4
  rw[k6] at g2
  have Wm:b=b2:=by injection g2 with g2;injection g2
  subst Wm
  by_cases hl:lo≤o
  ·exact absurd (f.own b g3 ⟨o,x,a,C,hl,k1,k5⟩) (aside o' x' b a2 C2 k2 k3 k4 g1)
  have hl:o<lo:=by omega
  have hx:h.get o=some x:=by rw[← bD o hl,← f.low o hl];exact k1
  have aY:=ah.fJ hx
  have kM:U o=some (b,a,C):=by rw[← f.fS o (by omega)];exact k5
  exact(r.inj o' o x' x b a2 C2 a C k2 k4 hx g1 kM).symm
 refine Rel.Ju r (fun o x hx=>?_) (fun o o' x x' b a C a' C' hl hx tt cq gC=>?_) (fun o x hx=>Kj▸r'.nE o x hx) (fun o x b a C hl hx cq off=>?_) (Kj▸r'.bI)
  ⟨f.le,f.size,?_,fun b hb Bp=>f.kept b hb (fun⟨o,x,a,C,k1,k2,k3⟩=>Bp ⟨o,x,a,C,k1,hs _ _ k2,k3⟩),fun b hb=>?_,fun o ho=>?_,fun o ho=>f.fS o (by omega),fun o ho hx=>?_,f.calm⟩
 ·rcases Dn hx with h1|⟨h1,h2,h3⟩
  ·exact r'.bg o x h1
  obtain⟨b,a,C,g1,g2,g3,g4,g5⟩:=jx h1 h2 h3
  exact⟨b,a,C,g2,(g5.mono f.le).kept g4⟩
 ·rcases Dn hx with h1|⟨h1,h2,h3⟩
  ·rcases Dn tt with k1|⟨k1,k2,k3⟩
   ·exact r'.inj o o' x x' b a C a' C' hl h1 k1 cq gC
   exact Aa h1 k1 k2 k3 cq gC
  rcases Dn tt with k1|⟨k1,k2,k3⟩
  ·exact(Aa k1 h1 h2 h3 gC cq).symm
  obtain⟨b1,a1,C1,g1,g2,_⟩:=jx h1 h2 h3
  obtain⟨b2,a2,C2,l1,l2,_⟩:=jx k1 k2 k3
  rw[cq] at g2;rw[gC] at l2
  injection g2 with g2;injection g2 with g2 _
  injection l2 with l2;injection l2 with l2 _
  subst g2;subst l2
  exact r.inj o o' x x' b a1 C1 a2 C2 hl h3 k3 g1 l1
 ·rcases Dn hx with h1|⟨h1,h2,h3⟩
  ·exact r'.eI o x b a C hl h1 cq off
  obtain⟨b1,a1,C1,g1,g2,g3,g4,g5⟩:=jx h1 h2 h3
  rw[cq] at g2;injection g2 with g2;injection g2 with g2 _;subst g2
  rw[x9 g4]
  exact r.eI o x b a1 C1 hl h3 g1 off
 ·rw[Kj,← hn];exact f.next
 ·rintro⟨o,x,a,C,k1,k2,k3⟩
  rcases Dn k2 with h1|⟨h1,h2,h3⟩
  ·obtain⟨o2,x2,a2,C2,g1,g2,g3⟩:=f.own b hb ⟨o,x,a,C,k1,h1,k3⟩
   exact⟨o2,x2,a2,C2,g1,hs _ _ g2,g3⟩
  obtain⟨b1,a1,C1,g1,g2,_⟩:=jx h1 h2 h3
  rw[k3] at g2;injection g2 with g2;injection g2 with g2 _;subst g2
  exact⟨o,x,a1,C1,h1,h3,g1⟩
 ·rcases cZ o with h1|⟨h1,_⟩
  ·rw[h1,f.low o ho,bD o ho]
  omega
 rcases cZ o with h1|⟨h1,h2,y,h3,h4⟩
 ·rw[h1]
  refine f.born o (by omega) ?_
  cases hq:hm.get o with
  |none=>rfl
  |some z=>rw[hs _ _ hq] at hx;cases hx
 rw[hx] at h3;cases h3
structure yA (ops:Array Oper) (b:Nat→Nat→Bool) (W As:List Nat) (sl:Nat→Nat) (nA:Nat):Prop where
  lt:∀i j,b i j=true→i<j
  Kk:∀j o,ops[j]?=some o→∀e∈o.after,Region.binds .any e=true→e.on<j
  Wn:∀i j o,ops[j]?=some o→b i j=true→∃e∈o.after,Region.binds .any e=true∧(e.on=i∨b i e.on=true)
  chain:W.Pairwise (fun w w'=>b w w'=true)
  Wo:∀w∈W,w<ops.size
  alt:∀i∈As,i<ops.size
  aw:∀i∈As,i∉W
  Wp:∀i∈As,sl i<nA
  kc:∀i∈As,∀j∈As,sl i=sl j→i=j
  names:∀i j oi oj,ops[i]?=some oi→ops[j]?=some oj→i<j→oi.apart ops oj=true∨b i j=true
section
variable (P:Program) (lo:Nat) (ops:Array Oper) (b:Nat→Nat→Bool) (W As:List Nat) (sl:Nat→Nat) (base:Nat) (b6:aI) (Q:kN)
def pM (V:Nat→Value)(FO:Nat→Option a7)(M:Nat→Bool)(H:ah)(m:Nat)(o:Oper):Prop:=
  let HQ:=eP ops V (fun j=>b j m) b6 ops.size
  (Region.wanted o (ml ops HQ)=true∧
    ((tL o.op=true∧m∉As∧FO m=none∧∃h1,ct P lo HQ (bJ base sl FO (fun i=>b i m&&!M i) As H) o.op=some (V m,h1))∨
     (∃x,m∈As∧FO m=some x∧ix P HQ (base+sl m) o.op=some (V m,x))))∨
  (Region.wanted o (ml ops HQ)=false∧V m=Go.undef∧FO m=none)
def PC (bt:List Nat)(last:Option Nat)(V:Nat→Value)(FO:Nat→Option a7)(M:Nat→Bool)(H:ah):Prop:=
 ∀m o,ops[m]?=some o→m∉W→(∀w∈bt,b w m=false)→(∀l,last=some l→b m l=false)→pM P lo ops b As sl base b6 V FO M H m o
def Ext (bt:List Nat)(V V':Nat→Value)(FO ea:Nat→Option a7):Prop:=
 ∀i,i<ops.size→i∉bt→(∀w∈bt,b w i=false)→V' i=V i∧ea i=FO i
def DR:List Nat→Option Nat→(Nat→Value)→(Nat→Option a7)→(Nat→Bool)→ah→Prop
 |[],last,V,FO,M,H=>PC P lo ops b W As sl base b6 [] last V FO M H∧Q .normal (eP ops V (fun _=>true) b6 ops.size) (bJ base sl FO (fun i=>!M i) As H)
 | wr :: r, last, V, FO, M, H => PC P lo ops b W As sl base b6 (wr :: r) last V FO M H ∧ ∀ o, ops[wr]? = some o →
   (Region.wanted o (ml ops (eP ops V (fun j=>b j wr) b6 ops.size))=true→∀ts,xd ops o ts (eP ops V (fun j=>b j wr) b6 ops.size)→
    oY P lo o ts (bJ base sl FO (fun i=>b i wr&&!M i) As H) (fun bc h'=>∃V' ea,Ext ops b (wr::r) V V' FO ea∧bc=bA ts o.dst (V' wr)∧DR r (some wr) V' ea (fun i=>M i||b i wr) h'))∧
   (Region.wanted o (ml ops (eP ops V (fun j=>b j wr) b6 ops.size))=false→∃V' ea,Ext ops b (wr::r) V V' FO ea∧V' wr=Go.undef∧DR r (some wr) V' ea M H)
def Lf (listed:Array Bool):Nat→Bool:=fun j=>listed.getD j false
structure uU (nA:Nat) (iM:Mu) (h0:ah) (w0:World) (ds:List Deferred) (bt:List Nat) (last:Option Nat) (V:Nat→Value) (FO:Nat→Option a7) (M:Nat→Bool) (H:ah) (listed:Array Bool) (U:Mu) (a:Act) (w:World):Prop where
  sz:listed.size=ops.size
  closed:∀i j,b i j=true→Lf listed j=true→Lf listed i=true
  wr:∃done,done++bt=W∧(∀w∈done,Lf listed w=true)∧(∀w∈bt,Lf listed w=false)
  OV:∀l,last=some l→Lf listed l=true
  Bq:∀i,M i=true→Lf listed i=true
  ht:dj U (eP ops V (Lf listed) b6 ops.size) a.tmps
  hr:Rel U lo (bJ base sl FO (fun i=>Lf listed i&&!M i) As H) w
  fr:Frame lo iM h0 w0 U (bJ base sl FO (fun i=>Lf listed i&&!M i) As H) w
  un:∀i∈As,Lf listed i=false→U (base+sl i)=none
  ds:a.defers=ds
  hn:base+nA≤H.next
  hH:∀i∈As,M i=false→H.get (base+sl i)=none
  cC:lo≤base
  hb:h0.next≤base
end
theorem Wq {listed:Array Bool}{i:Nat}(hi:i<listed.size):Lf (listed.setIfInBounds i true)=fun j=>Lf listed j||Nat.beq j i:=by
 funext j
 unfold Lf
 by_cases h:i=j
 ·subst h;simp[hi]
 rw[getD_set_ne false h]
 have:Nat.beq j i=false:=by rw[Bool.eq_false_iff];intro hh;exact h (rQ hh).symm
 simp[this]
def rb (listed:Array Bool):Nat→Nat
 |0=>0
 |n+1=>(bif listed.getD n true then 0 else 1)+rb listed n
theorem OW {listed:Array Bool}{i:Nat}:∀ {n},i<n→i<listed.size→listed.getD i true=false→rb listed n=rb (listed.setIfInBounds i true) n+1
 |0,h,_,_=>by omega
 |n+1,h,hs,hi=>by
  simp only[rb]
  by_cases dm:i=n
  ·subst dm
   have e:∀m,m≤i→rb (listed.setIfInBounds i true) m=rb listed m:=by
    intro m hm
    induction m with
    |zero=>rfl
    |succ m ih=>simp only[rb];rw[ih (by omega),getD_set_ne true (by omega)]
   rw[e i (Nat.le_refl _),hi]
   have:(listed.setIfInBounds i true).getD i true=true:=by simp[hs]
   rw[this]
   simp only[aM,bq];omega
  rw[OW (n:=n) (by omega) hs hi,getD_set_ne true dm];omega
theorem OX {listed:Array Bool}:∀ {n},rb listed n=0→∀i<n,listed.getD i true=true
 |0,_,i,h=>by omega
 |n+1,h,i,hi=>by
  simp only[rb] at h
  cases hl:listed.getD n true with
  |false=>simp only[hl,bq] at h;omega
  |true=>
   by_cases dm:i=n
   ·subst dm;exact hl
   exact OX (n:=n) (by simp only[hl,aM] at h;omega) i (by omega)
theorem Ab {base:Nat}{sl:Nat→Nat}{FO ea:Nat→Option a7}{S S':Nat→Bool}:∀ {as:List Nat} {h:ah},(∀k∈as,(bif S k then FO k else none)=(bif S' k then ea k else none))→bJ base sl FO S as h=bJ base sl ea S' as h
 |[],_,_=>rfl
 |i::r,h,hc=>by
  have ih:=Ab (base:=base) (sl:=sl) (as:=r) (h:=h) (fun k hk=>hc k (List.mem_cons_of_mem _ hk))
  have h0:=hc i (by simp)
  have e:∀(S:Nat→Bool) (FO:Nat→Option a7),bJ base sl FO S (i::r) h=(match (bif S i then FO i else none) with|some x=>(bJ base sl FO S r h).put (base+sl i) (some x)|none=>bJ base sl FO S r h):=fun S FO=>by
   simp only[bJ]
   cases S i<;>rfl
  rw[e,e,h0,ih]
section
variable {P:Program} {lo:Nat} {ops:Array Oper} {b:Nat→Nat→Bool} {W As:List Nat} {sl:Nat→Nat} {nA base:Nat} {b6:aI} {Q:kN}
theorem DR.pc {bt:List Nat}{last:Option Nat}{V:Nat→Value}{FO:Nat→Option a7}{M:Nat→Bool}{H:ah}(h:DR P lo ops b W As sl base b6 Q bt last V FO M H):PC P lo ops b W As sl base b6 bt last V FO M H:=by
 cases bt with
 |nil=>exact h.1
 |cons _ _=>exact h.1
theorem OY (st:yA ops b W As sl nA){L:Nat→Bool}{V:Nat→Value}{i:Nat}{o:Oper}(ho:ops[i]?=some o)(hi:L i=false)(hp:∀j,b j i=true→L j=true)(hc:∀i j,b i j=true→L j=true→L i=true) :
  xd ops o (eP ops V L b6 ops.size) (eP ops V (fun j=>b j i) b6 ops.size):=by
 intro t ht
 refine Ki fun j hj hd=>?_
 suffices h:L j=b j i by exact⟨h,fun _=>rfl⟩
 obtain⟨oj,Ac⟩:∃oj,ops[j]?=some oj:=⟨ops[j],by simp[hj]⟩
 have xf:oj.dst=some t:=by simpa[r8,Ac] using hd
 rcases Nat.lt_trichotomy j i with h|h|h
 ·have hb:b j i=true:=by
   rcases st.names j i oj o Ac ho h with h1|h1
   ·exact absurd ht ((Oper.apart_spec h1).1 t xf)
   exact h1
  rw[hb,hp j hb]
 ·subst h
  rw[hi]
  cases hb:b j j with
  |false=>rfl
  |true=>have:=st.lt _ _ hb;omega
 have hb:b i j=true:=by
  rcases st.names i j o oj ho Ac h with h1|h1
  ·exact absurd ht ((Oper.apart_spec h1).2.2 t xf)
  exact h1
 have h1:L j=false:=by
  cases hl:L j with
  |false=>rfl
  |true=>rw[hc _ _ hb hl] at hi;cases hi
 rw[h1]
 cases cS:b j i with
 |false=>rfl
 |true=>have:=st.lt _ _ cS;omega
theorem Kl (st:yA ops b W As sl nA){L:Nat→Bool}{V:Nat→Value}{i:Nat}{o:Oper}(ho:ops[i]?=some o)(hi:L i=false)(hc:∀i j,b i j=true→L j=true→L i=true) :
  eP ops V (fun j=>L j||Nat.beq j i) b6 ops.size=bA (eP ops V L b6 ops.size) o.dst (V i):=by
 have aY:i<ops.size:=(Array.getElem?_eq_some_iff.1 ho).1
 have hd:r8 ops i=o.dst:=by simp[r8,ho]
 rw[← hd]
 refine OU aY hi fun j h1 h2 hl t ht Km=>?_
 obtain⟨oj,Ac⟩:∃oj,ops[j]?=some oj:=⟨ops[j],by simp[h2]⟩
 rcases st.names i j o oj ho Ac h1 with h3|h3
 ·exact(Oper.apart_spec h3).2.1 t (by rw[← hd];exact ht) (by simpa[r8,Ac] using Km)
 rw[hc _ _ h3 hl] at hi;cases hi
theorem nN {i j:Nat}(h:j≠i):Nat.beq j i=false:=by
 rw[Bool.eq_false_iff];intro hh;exact h (rQ hh)
theorem uU.advance (st:yA ops b W As sl nA){iM:Mu}{h0:ah}{w0:World}{ds:List Deferred}{bt uV:List Nat}{last uW:Option Nat}{V V':Nat→Value}{FO ea:Nat→Option a7}{M M':Nat→Bool}{H H':ah}{listed:Array Bool}{U aQ:Mu}{a a':Act}{w w':World}{i:Nat}{o:Oper}
  (d:uU lo ops b W As sl base b6 nA iM h0 w0 ds bt last V FO M H listed U a w) (ho:ops[i]?=some o) (hi:Lf listed i=false) (hp:∀j,b j i=true→Lf listed j=true)
  (r9:(uV=bt∧i∉W)∨bt=i::uV) (EP:uW=last∨uW=some i) (hM:∀j,M' j=true→M j=true∨b j i=true) (hV:∀j,Lf listed j=true→V' j=V j)
  (ht:dj aQ (bA (eP ops V (Lf listed) b6 ops.size) o.dst (V' i)) a'.tmps) (uJ:a'.defers=ds)
  (hr:Rel aQ lo (bJ base sl ea (fun j=>(Lf listed j||Nat.beq j i)&&!M' j) As H') w') (fr:Frame lo iM h0 w0 aQ (bJ base sl ea (fun j=>(Lf listed j||Nat.beq j i)&&!M' j) As H') w')
  (un:∀j∈As,Lf listed j=false→j≠i→aQ (base+sl j)=none) (hn:base+nA≤H'.next) (hH:∀j∈As,M' j=false→H'.get (base+sl j)=none) :
  uU lo ops b W As sl base b6 nA iM h0 w0 ds uV uW V' ea M' H' (listed.setIfInBounds i true) aQ a' w':=by
 have aY:i<ops.size:=(Array.getElem?_eq_some_iff.1 ho).1
 have re:=Wq (listed:=listed) (i:=i) (by rw[d.sz];exact aY)
 have uM:Nat.beq i i=true:=Nat.beq_refl i
 obtain⟨done,jK,ke,o0⟩:=d.wr
 refine⟨by simpa using d.sz,fun p q yB hq=>?_,?_,fun l hl=>?_,fun j hj=>?_,?_,by rw[re];exact hr,by rw[re];exact fr,fun j hj hl=>?_,uJ,hn,hH,d.cC,d.hb⟩
 ·rw[re] at hq ⊢
  simp only[Bool.or_eq_true] at hq ⊢
  left
  rcases hq with hq|hq
  ·exact d.closed p q yB hq
  rw[rQ hq] at yB;exact hp p yB
 ·rcases r9 with⟨rfl,uX⟩|r9
  ·refine⟨done,jK,fun w hw=>by rw[re];simp[ke w hw],fun w hw=>?_⟩
   have:w≠i:=by rintro rfl;exact uX (jK▸List.mem_append_right _ hw)
   rw[re];simp[o0 w hw,nN this]
  refine⟨done++[i],by rw[← jK,r9];simp,fun w hw=>?_,fun w hw=>?_⟩
  ·rw[re]
   rcases List.mem_append.1 hw with h|h
   ·simp[ke w h]
   have:w=i:=by simpa using h
   subst this;simp
  have Ad:=st.chain
  rw[← jK,r9,List.pairwise_append] at Ad
  have hb:=(List.pairwise_cons.1 Ad.2.1).1 w hw
  have:=st.lt _ _ hb
  rw[re];simp[o0 w (by rw[r9];exact List.mem_cons_of_mem _ hw),nN (show w≠i by omega)]
 ·rw[re]
  rcases EP with h|h
  ·simp[d.OV l (by rw[← h];exact hl)]
  rw[h] at hl;injection hl with hl;subst hl;simp
 ·rw[re]
  rcases hM j hj with h|h
  ·simp[d.Bq j h]
  simp[hp j h]
 ·rw[re,Kl st ho hi d.closed]
  rw[yz (V':=V) (S':=Lf listed) (fun _ _=>rfl) (fun j _ hl=>hV j hl)]
  exact ht
 rw[re] at hl
 simp only[Bool.or_eq_false_iff] at hl
 exact un j hj hl.1 (by rintro rfl;rw[uM] at hl;cases hl.2)
theorem Ws (st:yA ops b W As sl nA){F:Fence}(hF:gx F){n:Nat}{iM:Mu}{h0:ah}{w0:World}{ds:List Deferred} :
  ∀(fuel:Nat) (listed:Array Bool) (bt:List Nat) (last:Option Nat) (V:Nat→Value) (FO:Nat→Option a7) (M:Nat→Bool) (H:ah) (U:Mu) (a:Act) (w:World),
   uU lo ops b W As sl base b6 nA iM h0 w0 ds bt last V FO M H listed U a w→DR P lo ops b W As sl base b6 Q bt last V FO M H→rb listed ops.size=fuel→
   wpAnyIn F n P .any ops (fF lo iM h0 w0 ds Q) fuel listed a w:=by
 intro fuel
 have fin:∀(listed:Array Bool) (bt:List Nat) (last:Option Nat) (V:Nat→Value) (FO:Nat→Option a7) (M:Nat→Bool) (H:ah) (U:Mu) (a:Act) (w:World),
   uU lo ops b W As sl base b6 nA iM h0 w0 ds bt last V FO M H listed U a w→DR P lo ops b W As sl base b6 Q bt last V FO M H→Region.ready .any ops listed=[]→fF lo iM h0 w0 ds Q .normal a w:=by
  intro listed bt last V FO M H U a w d hD nb
  have bo:∀i,i<ops.size→Lf listed i=true:=by
   intro i
   induction i using Nat.strongRecOn with
   |_ i ih=>
    intro hi
    cases hl:Lf listed i with
    |true=>rfl
    |false=>
     have:i∈Region.ready .any ops listed:=by
      refine mem_ready.2 ⟨?_,ops[i],by simp[hi],fun e he hb=>?_⟩
      ·unfold Lf at hl
       have:i<listed.size:=by rw[d.sz];exact hi
       simp[this] at hl ⊢;exact hl
      have:=st.Kk i ops[i] (by simp[hi]) e he hb
      exact ih e.on this (by omega)
     rw[nb] at this;cases this
  cases bt with
  |cons w1 r=>
   obtain⟨done,jK,ke,o0⟩:=d.wr
   have h1:=o0 w1 (by simp)
   rw[bo w1 (st.Wo w1 (by rw[← jK];simp))] at h1;cases h1
  |nil=>
   have e1:eP ops V (fun _=>true) b6 ops.size=eP ops V (Lf listed) b6 ops.size:=yz (fun i hi=>(bo i hi).symm) (fun _ _ _=>rfl)
   have e2:bJ base sl FO (fun i=>!M i) As H=bJ base sl FO (fun i=>Lf listed i&&!M i) As H:=Ab fun k hk=>by rw[bo k (st.alt k hk)];simp
   refine⟨_,_,U,d.ht,d.hr,d.fr,d.ds,?_⟩
   rw[← e1,← e2];exact hD.2
 induction fuel with
 |zero=>
  intro listed bt last V FO M H U a w d hD hu
  have nb:Region.ready .any ops listed=[]:=by
   rw[List.eq_nil_iff_forall_not_mem]
   intro i hi
   obtain⟨h1,o,ho,_⟩:=mem_ready.1 hi
   rw[OX hu i (Array.getElem?_eq_some_iff.1 ho).1] at h1;cases h1
  exact⟨nb,fin listed bt last V FO M H U a w d hD nb⟩
 |succ fuel ih=>
  intro listed bt last V FO M H U a w d hD hu
  refine⟨fin listed bt last V FO M H U a w d hD,fun i hi=>?_⟩
  obtain⟨yC,o,ho,bo⟩:=mem_ready.1 hi
  have aY:i<ops.size:=(Array.getElem?_eq_some_iff.1 ho).1
  have ER:i<listed.size:=by rw[d.sz];exact aY
  have dx:Lf listed i=false:=by unfold Lf;simp[ER] at yC ⊢;exact yC
  have hp:∀j,b j i=true→Lf listed j=true:=fun j hj=>by
   obtain⟨e,he,hb,h1⟩:=st.Wn j i o ho hj
   rcases h1 with rfl|h1
   ·exact bo e he hb
   exact d.closed j e.on h1 (bo e he hb)
  have qk:rb (listed.setIfInBounds i true) ops.size=fuel:=by have:=OW aY ER yC;omega
  have dZ:=OY (b6:=b6) st (V:=V) ho dx hp d.closed
  have hy:yielded ops a.tmps=ml ops (eP ops V (Lf listed) b6 ops.size):=funext (OL d.ht)
  have mm:∀j∈As,base+sl j<H.next:=fun j hj=>by have:=st.Wp j hj;have:=d.hn;omega
  obtain⟨done,jK,ke,o0⟩:=d.wr
  unfold wpOpIn
  simp only[ho,hy]
  by_cases uX:i∈W
  · -- a writer
   have Ae:i∈bt:=by
    rw[← jK] at uX
    rcases List.mem_append.1 uX with h|h
    ·rw[ke i h] at dx;cases dx
    exact h
   have ES:∃r,bt=i::r:=by
    cases bt with
    |nil=>cases Ae
    |cons w1 r=>
     rcases List.mem_cons.1 Ae with rfl|h
     ·exact⟨r,rfl⟩
     have Ad:=st.chain
     rw[← jK,List.pairwise_append] at Ad
     have:=hp w1 ((List.pairwise_cons.1 Ad.2.1).1 i h)
     rw[o0 w1 (by simp)] at this;cases this
   obtain⟨r,rfl⟩:=ES
   have yD:i∉As:=fun h=>st.aw i h uX
   have HR:∀j,Lf listed j=true→j<ops.size:=fun j hj=>by
    rcases Nat.lt_or_ge j ops.size with h|h
    ·exact h
    unfold Lf at hj
    have:¬j<listed.size:=by rw[d.sz];omega
    simp[this] at hj
   have known:∀j,Lf listed j=true→j∉i::r∧∀w∈i::r,b w j=false:=fun j hj=>by
    refine⟨fun h=>(by rw[o0 j h] at hj;cases hj),fun w hw=>?_⟩
    cases hb:b w j with
    |false=>rfl
    |true=>have:=d.closed w j hb hj;rw[o0 w hw] at this;cases this
   obtain⟨_,ET⟩:=hD
   obtain⟨xg,fU⟩:=ET o ho
   by_cases hw:Region.wanted o (ml ops (eP ops V (Lf listed) b6 ops.size))=true
   ·simp only[hw,if_true]
    rw[dZ.wanted] at hw
    have hA:=xg hw _ dZ
    have uY:∀o' x,(bJ base sl FO (fun k=>b k i&&!M k) As H).get o'=some x→(bJ base sl FO (fun k=>Lf listed k&&!M k) As H).get o'=some x:=by
     intro o' x hx
     rcases OT mm st.kc hx with⟨k,hk,hs,rfl,hf⟩|⟨hx,_⟩
     ·simp only[bV] at hs
      exact z8 mm st.kc hk (by simp only[hp k hs.1,hs.2,Bool.and_self]) hf
     rw[w9 mm];· exact hx
     ·rintro k hk hs _ rfl
      simp only[bV,Bool.not_eq_true'] at hs
      rw[d.hH k hk hs.2] at hx;cases hx
    have Wt:Rel U lo (bJ base sl FO (fun k=>b k i&&!M k) As H) w:=d.hr.sub (by rw[nM,nM];exact Nat.le_refl _) uY (Nat.le_refl _) (by have:=d.hr.bI;rw[nM] at this ⊢;exact this)
    refine Oper.wpIn_mono (fun a' w' hl=>?_) (hA F hF n U a w _ d.ht Wt)
    obtain⟨bc,h',aQ,Kn,oQ,Br,uJ,V',ea,uZ,rfl,cD⟩:=hl
    have bD:∀(S:Nat→Bool) o',o'<lo→(bJ base sl FO S As H).get o'=H.get o':=fun S o' lE=>w9 mm (fun k hk _ _=>by have:=d.cC;omega)
    have nk:H.next≤h'.next:=by have:=Br.next;rwa [nM] at this
    have EU:∀j∈As,base+sl j<h'.next:=fun j hj=>by have:=mm j hj;omega
    have hj:=Wl (hj:=bJ base sl ea (fun j=>(Lf listed j||Nat.beq j i)&&!(M j||b j i)) As h') d.hr (by rw[nM,nM]) uY (fun o' lE=>by rw[bD _ o' lE,bD _ o' lE]) oQ Br (by rw[nM]) (fun o'=>by
     by_cases he:∃j∈As,((Lf listed j||Nat.beq j i)&&!(M j||b j i))=true∧ea j≠none∧o'=base+sl j
     ·obtain⟨j,EV,hs,hf,rfl⟩:=he
      have gY:j≠i:=by rintro rfl;exact yD EV
      cases xc:ea j with
      |none=>exact absurd xc hf
      |some x=>
       have Ko:=z8 (h:=h') (S:=fun j=>(Lf listed j||Nat.beq j i)&&!(M j||b j i)) EU st.kc EV hs xc
       simp only[nN gY,Bool.or_false,bV,Bool.not_eq_true',Bool.or_eq_false_iff] at hs
       have hk:=known j hs.1
       have HS:FO j=some x:=by rw[← (uZ j (HR j hs.1) hk.1 hk.2).2,xc]
       refine .inr ⟨by have:=d.cC;omega,?_,x,z8 mm st.kc EV (by simp only[hs.1,hs.2.1];rfl) HS,Ko⟩
       rw[w9 mm];· exact d.hH j EV hs.2.1
       ·intro k hk ql _ heq
        have:=st.kc j EV k hk (by omega)
        subst this
        simp[hs.2.2] at ql
     exact .inl (w9 EU fun k hk hs hf heq=>he ⟨k,hk,hs,hf,heq⟩))
    refine ih _ r (some i) V' ea (fun j=>M j||b j i) h' aQ a' w' (d.advance st ho dx hp (.inr rfl) (.inr rfl) (fun j hj=>by simpa using hj) (fun j hj=>(uZ j (HR j hj) (known j hj).1 (known j hj).2).1) Kn (by rw[uJ,d.ds]) hj.1 (d.fr.trans hj.2) ?_ (by have:=d.hn;omega) ?_) cD qk
    ·intro j hj hl gY
     rw[Br.fS _ (by rw[nM];exact mm j hj)]
     exact d.un j hj hl
    intro j hj hm
    simp only[Bool.or_eq_false_iff] at hm
    refine Br.born _ (by rw[nM];exact mm j hj) ?_
    rw[w9 mm];· exact d.hH j hj hm.1
    ·intro k hk ql _ heq
     have:=st.kc j hj k hk (by omega)
     subst this
     simp[hm.2] at ql
   simp only[hw,if_false,Bool.false_eq_true]
   rw[dZ.wanted,Bool.not_eq_true] at hw
   obtain⟨V',ea,uZ,hv,cD⟩:=fU hw
   refine⟨Bm F hF,?_⟩
   have e:bJ base sl FO (fun k=>Lf listed k&&!M k) As H=bJ base sl ea (fun j=>(Lf listed j||Nat.beq j i)&&!M j) As H:=Ab fun k hk=>by
    have mH:k≠i:=by rintro rfl;exact yD hk
    simp only[nN mH,Bool.or_false]
    cases hl:Lf listed k with
    |false=>rfl
    |true=>rw[(uZ k (HR k hl) (known k hl).1 (known k hl).2).2]
   refine ih _ r (some i) V' ea M H U _ w (d.advance st ho dx hp (.inr rfl) (.inr rfl) (fun j hj=>.inl hj) (fun j hj=>(uZ j (HR j hj) (known j hj).1 (known j hj).2).1) ?_ (by rw[put_defers];exact d.ds) (e▸d.hr) (e▸d.fr) (fun j hj hl _=>d.un j hj hl) d.hn d.hH) cD qk
   rw[hv];exact Bl d.ht .undef o.dst
  · -- no writer
   have lp:∀w∈bt,b w i=false:=fun w1 np=>by
    cases hb:b w1 i with
    |false=>rfl
    |true=>have:=hp w1 hb;rw[o0 w1 np] at this;cases this
   have ja:∀l,last=some l→b i l=false:=fun l hl=>by
    cases hb:b i l with
    |false=>rfl
    |true=>rw[d.closed i l hb (d.OV l hl)] at dx;cases dx
   have Bs:=hD.pc i o ho uX lp ja
   have same:FO i=none→bJ base sl FO (fun k=>Lf listed k&&!M k) As H=bJ base sl FO (fun j=>(Lf listed j||Nat.beq j i)&&!M j) As H:=fun hf=>Ab fun k hk=>by
    by_cases mH:k=i
    ·subst mH
     rw[hf]
     cases (Lf listed k&&!M k)<;>cases ((Lf listed k||Nat.beq k k)&&!M k)<;>rfl
    simp only[nN mH,Bool.or_false]
   have Kq:M i=false:=by
    cases hm:M i with
    |false=>rfl
    |true=>rw[d.Bq i hm] at dx;cases dx
   rcases Bs with⟨hw,hk⟩|⟨hw,hv,hf⟩
   ·rw[← dZ.wanted] at hw
    simp only[hw,if_true]
    rcases hk with⟨hR,_,hf,h1,ha⟩|⟨x,yD,hf,ha⟩
    ·obtain⟨_,cJ⟩:=z7 hR ha
     have lF:ct P lo (eP ops V (Lf listed) b6 ops.size) (bJ base sl FO (fun k=>Lf listed k&&!M k) As H) o.op=some (V i,bJ base sl FO (fun k=>Lf listed k&&!M k) As H):=by
      rw[Bn dZ.eval]
      refine cJ _ fun o' x hx=>?_
      rcases OT mm st.kc hx with⟨k,hk,hs,rfl,hf⟩|⟨hx,_⟩
      ·simp only[bV] at hs
       exact z8 mm st.kc hk (by simp only[hp k hs.1,hs.2,Bool.and_self]) hf
      rw[w9 mm];· exact hx
      ·rintro k hk hs _ rfl
       simp only[bV,Bool.not_eq_true'] at hs
       rw[d.hH k hk hs.2] at hx;cases hx
     have dB:=oY.op (o:=o) (next:=fun bc h'=>bc=bA (eP ops V (Lf listed) b6 ops.size) o.dst (V i)∧h'=bJ base sl FO (fun k=>Lf listed k&&!M k) As H) lF ⟨rfl,rfl⟩
     refine Oper.wpIn_mono (fun a' w' hl=>?_) (dB F hF n U a w _ d.ht d.hr)
     obtain⟨bc,h',aQ,Kn,oQ,Br,uJ,rfl,rfl⟩:=hl
     refine ih _ bt last V FO M H aQ a' w' (d.advance st ho dx hp (.inl ⟨rfl,uX⟩) (.inl rfl) (fun j hj=>.inl hj) (fun _ _=>rfl) Kn (by rw[uJ,d.ds]) (same hf▸oQ) (same hf▸d.fr.trans Br) (fun j hj hl _=>?_) d.hn d.hH) hD qk
     rw[Br.fS _ (by rw[nM];exact mm j hj)]
     exact d.un j hj hl
    have JO:ix P (eP ops V (Lf listed) b6 ops.size) (base+sl i) o.op=some (V i,x):=by rw[OS dZ.eval];exact ha
    obtain⟨s,xg,ob,v',C,fU,rR,rX⟩:=V9 (w:=w) d.ht JO
    have Ka:∀c,o.op≠.defer c:=fun c hc=>by rw[hc] at ha;simp[ix] at ha
    have lI:base+sl i<(bJ base sl FO (fun k=>Lf listed k&&!M k) As H).next:=by rw[nM];exact mm i yD
    have EW:(bJ base sl FO (fun k=>Lf listed k&&!M k) As H).get (base+sl i)=none:=by
     rw[w9 mm];· exact d.hH i yD Kq
     ·intro k hk ql _ heq
      have:=st.kc i yD k hk (by omega)
      subst this
      simp[dx] at ql
    have HP:=d.un i yD dx
    have hle:U.le (U.put (base+sl i) (w.heap.size,0,C)):=by
     intro o y hy
     have:o≠base+sl i:=by intro ho;subst ho;rw[HP] at hy;cases hy
     rw[Mu.iX _ this];exact hy
    obtain⟨Wu,ox⟩:=rX _ hle (Mu.cz _ _ _)
    obtain⟨_,g1,g2⟩:=Wj d.hr lI (by have:=d.cC;omega) EW HP ob C x ox rR
    refine⟨Bm F hF,?_⟩
    rw[Oper.semAt_eq _ _ _ Ka,xg]
    have eR:(do pure (Next.value (← s)):Sem Next).run P w=.ok (Next.value v') (w.alloc ob):=by rw[Sem.run_bind,fU];rfl
    rw[eR]
    simp only[Oper.uponIn]
    have fX:∀o',(bJ base sl FO (fun j=>(Lf listed j||Nat.beq j i)&&!M j) As H).get o'=((bJ base sl FO (fun k=>Lf listed k&&!M k) As H).put (base+sl i) (some x)).get o':=by
     intro o'
     rw[ah.dH _ _ _ _ lI]
     by_cases lE:o'=base+sl i
     ·subst lE
      rw[if_pos rfl]
      exact z8 mm st.kc yD (by simp[Kq]) hf
     rw[if_neg lE]
     by_cases he:∃k∈As,(Lf listed k&&!M k)=true∧FO k≠none∧o'=base+sl k
     ·obtain⟨k,hk,ql,EX,rfl⟩:=he
      cases Kr:FO k with
      |none=>exact absurd Kr EX
      |some y=>
       rw[z8 (S:=fun k=>Lf listed k&&!M k) mm st.kc hk ql Kr]
       refine z8 mm st.kc hk ?_ Kr
       simp only[bV] at ql ⊢
       simp[ql.1,ql.2]
     rw[w9 mm,w9 mm]
     ·intro k hk ql EX heq;exact he ⟨k,hk,ql,EX,heq⟩
     intro k hk ql EX heq
     have mH:k≠i:=by rintro rfl;exact lE heq
     simp only[nN mH,Bool.or_false] at ql
     exact he ⟨k,hk,ql,EX,heq⟩
    have e9:((bJ base sl FO (fun k=>Lf listed k&&!M k) As H).put (base+sl i) (some x)).next=(bJ base sl FO (fun j=>(Lf listed j||Nat.beq j i)&&!M j) As H).next:=by rw[ah.Hn,nM,nM]
    refine ih _ bt last V FO M H _ _ _ (d.advance st ho dx hp (.inl ⟨rfl,uX⟩) (.inl rfl) (fun j hj=>.inl hj) (fun _ _=>rfl) (Bl (d.ht.mono hle) Wu o.dst) (by rw[put_defers];exact d.ds)
     (g1.ext fX e9) ((g2 iM h0 w0 d.fr (by have:=d.hb;omega)).ext fX e9) (fun j hj hl gY=>?_) d.hn d.hH) hD qk
    rw[Mu.iX _ (fun h=>gY (st.kc j hj i yD (by omega)))]
    exact d.un j hj hl
   rw[← dZ.wanted] at hw
   simp only[hw,if_false,Bool.false_eq_true]
   refine⟨Bm F hF,?_⟩
   refine ih _ bt last V FO M H U _ w (d.advance st ho dx hp (.inl ⟨rfl,uX⟩) (.inl rfl) (fun j hj=>.inl hj) (fun _ _=>rfl) ?_ (by rw[put_defers];exact d.ds) (same hf▸d.hr) (same hf▸d.fr) (fun j hj hl _=>d.un j hj hl) d.hn d.hH) hD qk
   rw[hv];exact Bl d.ht .undef o.dst
theorem AW.drawn {id:Nat}{ts:aI}{h:ah}(hm:P.follows .mixedOrders=true)(st:yA ops b W As sl nA){V:Nat→Value}{FO:Nat→Option a7}
  (hD:DR P lo ops b W As sl h.next ts Q W none V FO (fun _=>false) (ah.nj nA h)):AW P lo (.region id ops true) Q ts h:=by
 intro F hF n U a w ht r _
 refine wpIn_mono (wpIn_region_any hm ?_) fun _ _ _ hl=>fF.Dl hl
 have hL:Lf (Array.replicate ops.size false)=fun _=>false:=by
  funext j
  unfold Lf
  by_cases hj:j<ops.size<;>simp[hj]
 have eJ:(fun (i:Nat)=>(false&&!false:Bool))=fun _=>false:=rfl
 have e0:∀(as:List Nat) (H:ah),bJ h.next sl FO (fun _=>false) as H=H:=by
  intro as H
  induction as with
  |nil=>rfl
  |cons k r ih=>simp only[bJ,bq];exact ih
 have hu:rb (Array.replicate ops.size false) ops.size=ops.size:=by
  have:∀m,m≤ops.size→rb (Array.replicate ops.size false) m=m:=by
   intro m hm
   induction m with
   |zero=>rfl
   |succ m ih=>
    simp only[rb]
    rw[ih (by omega)]
    have:(Array.replicate ops.size false).getD m true=false:=by
     have:m<ops.size:=by omega
     simp[this]
    rw[this];simp only[bq];omega
  exact this _ (Nat.le_refl _)
 have nL:∀n,eP ops V (fun _=>false) ts n=ts:=by
  intro n
  induction n with
  |zero=>rfl
  |succ n ih=>simp only[eP,bq];exact ih
 have Ks:=(r.drew).nj nA
 have pK:=(Frame.drew lo U h w).trans (Frame.nj nA)
 refine Ws (base:=h.next) (b6:=ts) (Q:=Q) st hF ops.size _ W none V FO (fun _=>false) (ah.nj nA h) U a w.drew
  ⟨by simp,fun i j hb hl=>?_,⟨[],rfl,fun _ hw=>(by cases hw),fun w _=>by rw[hL]⟩,fun l hl=>(by cases hl),fun i hi=>(by cases hi),?_,?_,?_,fun i hi _=>?_,rfl,?_,fun i hi _=>?_,?_,Nat.le_refl _⟩ hD hu
 ·rw[hL] at hl;cases hl
 ·rw[hL,nL];exact ht
 ·rw[hL];simp only[Bool.false_and];rw[e0];exact Ks
 ·rw[hL];simp only[Bool.false_and];rw[e0];exact pK
 ·exact r.Ob (by omega)
 ·rw[ah.Bo];exact Nat.le_refl _
 ·rw[ah.uT]
  cases hg:h.get (h.next+sl i) with
  |none=>rfl
  |some x=>have:=ah.fJ hg;omega
 have:=r.bI;exact this
end
def bm (ms:List Nat)(i j:Nat):Bool:=(ms.getD j 0).testBit i
def Bt (ms:List Nat):List Edge→Nat
 |[]=>0
 |e::es=>bif Region.binds .any e then (1 <<< e.on) ||| ms.getD e.on 0 ||| Bt ms es else Bt ms es
theorem Kt {ms:List Nat}{i:Nat}:∀ {es:List Edge},(Bt ms es).testBit i=true→∃e∈es,Region.binds .any e=true∧(e.on=i∨(ms.getD e.on 0).testBit i=true)
 |[],h=>by simp[Bt] at h
 |e::es,h=>by
  simp only[Bt] at h
  cases hb:Region.binds .any e with
  |false=>
   rw[hb] at h
   obtain⟨e',h1,h2⟩:=Kt (es:=es) h
   exact⟨e',List.mem_cons_of_mem _ h1,h2⟩
  |true=>
   rw[hb] at h
   simp only[aM,Nat.testBit_or,Bool.or_eq_true] at h
   rcases h with (h|h)|h
   ·refine⟨e,by simp,hb,.inl ?_⟩
    rw[Nat.one_shiftLeft,Nat.testBit_two_pow] at h
    exact of_decide_eq_true h
   ·exact⟨e,by simp,hb,.inr h⟩
   obtain⟨e',h1,h2⟩:=Kt (es:=es) h
   exact⟨e',List.mem_cons_of_mem _ h1,h2⟩
def HT (ms:List Nat):List Nat→Bool
 |[]=>true
 |w::r=>r.all (bm ms w)&&HT ms r
def EY (ops:Array Oper)(ms W As:List Nat):Bool:=
 Nat.beq ms.length ops.size&&HT ms W&&W.all (Nat.blt · ops.size)&&As.all (fun i=>Nat.blt i ops.size&&!W.contains i)&&
 (List.range ops.size).all fun j=>match ops[j]? with
  |none=>false
  | some o => Nat.blt (ms.getD j 0) (2 ^ j) && o.after.toList.all (fun e => !Region.binds .any e || Nat.blt e.on j) && Nat.beq (ms.getD j 0) (Bt ms o.after.toList) &&
   (List.range j).all fun i=>bm ms i j||match ops[i]? with
    |none=>true
    |some oi=>oi.apart ops o
theorem OZ {ms:List Nat}:∀ {W:List Nat},HT ms W=true→W.Pairwise (fun w w'=>bm ms w w'=true)
 |[],_=>.nil
 |w::r,h=>by
  simp only[HT,bV,List.all_eq_true] at h
  exact .cons h.1 (OZ h.2)
def lM (As:List Nat)(n:Nat):Nat:=match As with|[]=>0|_=>n
theorem Wv {ops:Array Oper}{ms W As:List Nat}(h:EY ops ms W As=true):yA ops (bm ms) W As id (lM As ops.size):=by
 simp only[EY,bV,List.all_eq_true,Nat.blt_eq,List.mem_range] at h
 obtain⟨⟨⟨⟨h1,h2⟩,h3⟩,h4⟩,h5⟩:=h
 have h1:=rQ h1
 have at_:∀j o,ops[j]?=some o→ms.getD j 0<2 ^ j∧(∀e∈o.after.toList,(!Region.binds .any e||Nat.blt e.on j)=true)∧ms.getD j 0=Bt ms o.after.toList∧
   ∀i,i<j→(bm ms i j||match ops[i]? with|none=>true|some oi=>oi.apart ops o)=true:=by
  intro j o ho
  have:=h5 j (Array.getElem?_eq_some_iff.1 ho).1
  rw[ho] at this
  simp only[bV,List.all_eq_true,Nat.blt_eq,List.mem_range] at this
  exact⟨this.1.1.1,this.1.1.2,rQ this.1.2,this.2⟩
 refine⟨fun i j hb=>?_,fun j o ho e he hb=>?_,fun i j o ho hb=>?_,OZ h2,h3,fun i hi=>(h4 i hi).1,fun i hi hw=>?_,fun i hi=>(by cases As with|nil=>cases hi|cons _ _=>exact(h4 i hi).1),fun _ _ _ _ h=>h,fun i j oi oj Ww Ac e8=>?_⟩
 ·rcases Nat.lt_or_ge j ops.size with hj|hj
  ·have aY:=(at_ j ops[j] (by simp[hj])).1
   rcases Nat.lt_or_ge i j with h|h
   ·exact h
   unfold bm at hb
   rw[Nat.testBit_lt_two_pow (Nat.lt_of_lt_of_le aY (Nat.pow_le_pow_right (by omega) h))] at hb
   cases hb
  unfold bm at hb
  rw[List.getD_eq_getElem?_getD,List.getElem?_eq_none (by omega)] at hb
  simp at hb
 ·have:=(at_ j o ho).2.1 e (by simpa using he)
  simp only[hb,Bool.not_true,Bool.false_or,Nat.blt_eq] at this
  exact this
 ·have:=(at_ j o ho).2.2.1
  unfold bm at hb
  rw[this] at hb
  obtain⟨e,he,h6,h7⟩:=Kt hb
  exact⟨e,by simpa using he,h6,h7⟩
 ·have:=(h4 i hi).2
  simp[List.contains_iff_mem,hw] at this
 have:=(at_ j oj Ac).2.2.2 i e8
 rw[Ww] at this
 simp only[Bool.or_eq_true] at this
 exact this.symm
def EZ:Op→Bool
 |.move _|.assign _|.pick .. | .build .. | .nilCheck _|.binOp .. | .unOp .. | .convert .. | .makeFunc .. | .slice .. | .fieldAddr .. | .field .. | .indexAddr .. | .index .. | .extract ..=>true
 |.call ⟨.builtin .cap,_,_⟩|.call ⟨.builtin .max,_,_⟩|.call ⟨.builtin .min,_,_⟩=>true
 |_=>false
theorem Wx {P:Program}{lo:Nat}{ts:aI}{h h2 h1:ah}{op:Op}{v:Value}(hp:EZ op=true)(ha:ct P lo ts h op=some (v,h1)):ct P lo ts h2 op=some (v,h2):=by
 have cI:∀ {o:Option Value},o.map (·,h)=some (v,h1)→o.map (·,h2)=some (v,h2):=fun {o} hm=>by
  obtain⟨u,h3,h4⟩:=dd hm
  simp only[bO] at h4
  obtain⟨rfl,rfl⟩:=h4
  rw[h3];rfl
 cases op<;>simp only[EZ,Bool.false_eq_true] at hp<;>simp only[ct] at ha ⊢
 case move x=>exact cI ha
 case assign x=>exact cI ha
 case pick c a b=>
  split at ha
  ·exact cI ha
  ·exact cI ha
  simp at ha
 case build t ps=>
  split at ha
  ·exact cI ha
  simp at ha
 case nilCheck x=>
  split at ha
  ·exact cI ha
  simp at ha
 case binOp o t x y u=>
  split at ha
  ·exact cI ha
  simp at ha
 case unOp o t x=>
  split at ha
  ·exact cI ha
  simp at ha
 case convert s d x=>
  split at ha
  ·exact cI ha
  simp at ha
 case makeFunc fn a b=>
  cases fn<;>simp only at ha ⊢ <;> try (simp at ha)
  split at ha
  ·simp only[az,bO] at ha;obtain⟨rfl,rfl⟩:=ha
   rfl
  simp at ha
 case slice t x l u m=>
  split at ha
  ·exact cI ha
  simp at ha
 case fieldAddr s x f=>
  split at ha
  ·exact cI ha
  simp at ha
 case field s x f=>
  split at ha
  ·exact cI ha
  simp at ha
 case indexAddr t x y=>
  split at ha
  ·exact cI ha
  simp at ha
 case index t x y=>
  split at ha
  ·exact cI ha
  simp at ha
 case extract x i=>
  split at ha
  ·exact cI ha
  simp at ha
 case call c=>
  obtain⟨callee,args,aT⟩:=c
  cases callee with
  |builtin b=>
   simp only[ct] at ha ⊢
   split at ha
   ·rename_i l hl
    cases b<;>simp only[Bool.false_eq_true] at hp
    ·rcases aT with⟨aT⟩
     rcases aT with _|⟨t,_|⟨u,r⟩⟩<;>rcases l with _|⟨x,_|⟨y,s⟩⟩<;>simp only[ow] at ha ⊢ <;> try (simp at ha;done)
     exact cI ha
    ·rcases l with _|⟨x,s⟩<;>simp only[ow] at ha ⊢ <;> try (simp at ha;done)
     exact cI ha
    rcases l with _|⟨x,s⟩<;>simp only[ow] at ha ⊢ <;> try (simp at ha;done)
    exact cI ha
   simp at ha
  |value f=>simp at hp
  |invoke r m=>simp at hp
inductive iy where
  |op (m:Nat)
  |ck (m:Nat)
def gK (base:Nat)(mask:Nat→Bool):List (Nat×a7)→ah→ah
 |[],h=>h
 |(i,x)::r,h=>bif mask i then (gK base mask r h).put (base+i) (some x) else gK base mask r h
def Wy (P:Program)(lo:Nat)(ops:Array Oper)(o:Oper)(ts:aI)(h:ah)(next:aI→ah→Prop):Prop:=
 ∀jy,xd ops o jy ts→oY P lo o jy h (fun bc h'=>∃v,bc=bA jy o.dst v∧next (bA ts o.dst v) h')
def xh (P:Program)(lo:Nat)(ops:Array Oper)(base:Nat)(ms W As:List Nat)(K:aI→ah→Prop):List iy→aI→List (Nat×a7)→ah→Prop
 |[],ts,fl,h=>K ts (gK base (fun _=>true) fl h)
 | .op m :: r, ts, fl, h => ∃ o, ops[m]? = some o ∧
  bif Region.wanted o (ml ops ts) then
   bif W.contains m then Wy P lo ops o ts (gK base (fun i=>bm ms i m) fl h) (fun bc h'=>xh P lo ops base ms W As K r bc (fl.filter fun p=>!bm ms p.1 m) h')
   else bif As.contains m then ∃v x,ix P ts (base+m) o.op=some (v,x)∧xh P lo ops base ms W As K r (bA ts o.dst v) ((m,x)::fl) h
   else ∃v h1,ct P lo ts (gK base (fun i=>bm ms i m) fl h) o.op=some (v,h1)∧xh P lo ops base ms W As K r (bA ts o.dst v) fl h
  else xh P lo ops base ms W As K r (bA ts o.dst Go.undef) fl h
 | .ck m :: r, ts, fl, h => ∃ o d, ops[m]? = some o ∧ o.dst = some d ∧
  (Region.wanted o (ml ops ts)=true→∃v h1,ts[d]?=some v∧ct P lo ts (gK base (fun i=>bm ms i m) fl h) o.op=some (v,h1))∧xh P lo ops base ms W As K r ts fl h
def E0 (ops:Array Oper)(ms:List Nat)(m:Nat)(o:Oper):Bool:=
 (List.range ops.size).all fun j=>match (ops[j]?).bind (·.dst) with
  |none=>true
  |some d=>bif Nat.beq j m then !(o.looksAt ops).contains d else bm ms j m||!((o.looksAt ops).contains d||o.dst==some d)
def xj (ops:Array Oper)(ms W As:List Nat):List Nat→List Nat→List Nat→List iy→Bool
 |d,bt,todo,[]=>bt.isEmpty&&todo.isEmpty&&(List.range ops.size).all (d.contains ·)
 |d,bt,todo,.op m::r=>match ops[m]? with
  |none=>false
  | some o => !d.contains m && (List.range m).all (fun j => !bm ms j m || d.contains j) &&
   bif W.contains m then
    todo.isEmpty&&(match bt with
     |[]=>false
     | w :: Wr => Nat.beq w m && (List.range ops.size).all (fun k => d.contains k || W.contains k || bt.any (fun w => bm ms w k)) &&
      xj ops ms W As (m::d) Wr (d.filter fun k=>!W.contains k&&!As.contains k&&!bm ms k m&&match ops[k]? with|none=>true|some ok=>!EZ ok.op) r)
   else (bif As.contains m then As.all (fun k=>Nat.ble k m||!d.contains k) else tL o.op)&&xj ops ms W As (m::d) bt todo r
 |d,bt,todo,.ck m::r=>match ops[m]? with
  |none=>false
  |some o=>todo.contains m&&E0 ops ms m o&&xj ops ms W As d bt (todo.filter fun k=>!Nat.beq k m) r
def Af:List Nat→Bool
 |[]=>true
 |a::r=>r.all (Nat.blt · a)&&Af r
def dS (d M:Nat→Bool)(FO:Nat→Option a7):List Nat→List (Nat×a7)
 |[]=>[]
 |a::r=>match (bif d a&&!M a then FO a else none) with
  |some x=>(a,x)::dS d M FO r
  |none=>dS d M FO r
theorem E1 {d d' M M':Nat→Bool}{FO ea:Nat→Option a7}:∀ {As:List Nat},(∀i∈As,(bif d i&&!M i then FO i else none)=(bif d' i&&!M' i then ea i else none))→dS d M FO As=dS d' M' ea As
 |[],_=>rfl
 |a::r,h=>by
  have ih:=E1 (As:=r) (fun i hi=>h i (List.mem_cons_of_mem _ hi))
  simp only[dS]
  rw[h a (by simp),ih]
def jW {α:Type}(f:Nat→α)(m:Nat)(v:α):Nat→α:=fun i=>if i=m then v else f i
theorem Ag {α:Type}(f:Nat→α)(m:Nat)(v:α):jW f m v m=v:=by simp[jW]
theorem Dq {α:Type}{f:Nat→α}{m:Nat}{v:α}{i:Nat}(h:i≠m):jW f m v i=f i:=by simp[jW,h]
theorem Wz {a:Nat}{r:List Nat}(h:Af (a::r)=true):(∀k∈r,k<a)∧Af r=true:=by
 simp only[Af,bV,List.all_eq_true,Nat.blt_eq] at h
 exact h
theorem HU {d M:Nat→Bool}{FO:Nat→Option a7}{a:Nat}{r:List Nat}(h:d a=false):dS d M FO (a::r)=dS d M FO r:=by
 simp only[dS,h,Bool.false_and,bq]
theorem O0 {d M:Nat→Bool}{FO:Nat→Option a7}{m:Nat}{x:a7}:∀ {As:List Nat},Af As=true→m∈As→(∀k∈As,k≤m∨d k=false)→d m=false→M m=false→
  dS (fun i=>Nat.beq i m||d i) M (jW FO m (some x)) As=(m,x)::dS d M FO As
 |[],_,h,_,_,_=>by cases h
 |a::r,kO,hm,hk,hd,hM=>by
  obtain⟨h1,h2⟩:=Wz kO
  by_cases ha:a=m
  ·subst ha
   have e1:dS (fun i=>Nat.beq i a||d i) M (jW FO a (some x)) (a::r)=(a,x)::dS (fun i=>Nat.beq i a||d i) M (jW FO a (some x)) r:=by
    simp only[dS,Nat.beq_refl,Bool.true_or,hM,Bool.not_false,Bool.and_self,aM,Ag]
   rw[e1,HU hd]
   congr 1
   refine E1 fun i hi=>?_
   have:i≠a:=by have:=h1 i hi;omega
   rw[nN this,Dq this];rfl
  have eu:m∈r:=(List.mem_cons.1 hm).resolve_left (Ne.symm ha)
  have O1:d a=false:=by
   rcases hk a (by simp) with h|h
   ·have:=h1 m eu;omega
   exact h
  rw[HU (by rw[nN ha,O1];rfl),HU O1]
  exact O0 h2 eu (fun k jw=>hk k (List.mem_cons_of_mem _ jw)) hd hM
theorem HV {base:Nat}{mask d M:Nat→Bool}{FO:Nat→Option a7}{h:ah}:∀ {As:List Nat},gK base mask (dS d M FO As) h=bJ base id FO (fun i=>mask i&&(d i&&!M i)) As h
 |[]=>rfl
 |a::r=>by
  have ih:=HV (base:=base) (mask:=mask) (d:=d) (M:=M) (FO:=FO) (h:=h) (As:=r)
  simp only[bJ,dS]
  cases hd:(d a&&!M a) with
  |false=>simp only[bq,Bool.and_false];exact ih
  |true=>
   simp only[aM,Bool.and_true]
   cases hf:FO a with
   |none=>cases mask a<;>exact ih
   |some x=>simp only[gK,id];rw[ih]
theorem O2 {c d M:Nat→Bool}{FO:Nat→Option a7}:∀ {As:List Nat},(dS d M FO As).filter (fun p=>!c p.1)=dS d (fun i=>M i||c i) FO As
 |[]=>rfl
 |a::r=>by
  have ih:=O2 (c:=c) (d:=d) (M:=M) (FO:=FO) (As:=r)
  simp only[dS]
  have key:(bif d a&&!(M a||c a) then FO a else none)=bif c a then none else (bif d a&&!M a then FO a else none):=by
   cases d a<;>cases M a<;>cases c a<;>rfl
  rw[key]
  generalize (bif d a&&!M a then FO a else none)=z
  cases hc:c a with
  |true=>
   cases z with
   |none=>exact ih
   |some x=>
    have:List.filter (fun p:Nat×a7=>!c p.1) ((a,x)::dS d M FO r)=List.filter (fun p=>!c p.1) (dS d M FO r):=by
     rw[List.filter_cons];simp only[hc,Bool.not_true,Bool.false_eq_true,if_false]
    exact this.trans ih
  |false=>
   cases z with
   |none=>exact ih
   |some x=>
    have:List.filter (fun p:Nat×a7=>!c p.1) ((a,x)::dS d M FO r)=(a,x)::List.filter (fun p=>!c p.1) (dS d M FO r):=by
     rw[List.filter_cons];simp only[hc,Bool.not_false,if_true]
    exact this.trans (by rw[ih];rfl)
section
variable {P:Program} {lo:Nat} {ops:Array Oper} {ms W As:List Nat} {base:Nat} {b6:aI} {Q:kN}
theorem pM.congr {V V':Nat→Value}{FO ea:Nat→Option a7}{M:Nat→Bool}{H:ah}{m:Nat}{o:Oper}
  (hV:∀j,bm ms j m=true→V' j=V j) (hm:V' m=V m) (hF:∀j,bm ms j m=true→ea j=FO j) (WA:ea m=FO m) (h:pM P lo ops (bm ms) As id base b6 V FO M H m o) :
  pM P lo ops (bm ms) As id base b6 V' ea M H m o:=by
 have e1:eP ops V' (fun j=>bm ms j m) b6 ops.size=eP ops V (fun j=>bm ms j m) b6 ops.size:=yz (fun _ _=>rfl) (fun j _ hj=>hV j hj)
 have e2:bJ base id ea (fun i=>bm ms i m&&!M i) As H=bJ base id FO (fun i=>bm ms i m&&!M i) As H:=Ab fun k _=>by
  cases hb:bm ms k m with
  |false=>rfl
  |true=>rw[hF k hb]
 unfold pM at h ⊢
 simp only[e1,e2,hm,WA]
 exact h
theorem pM.pure {V:Nat→Value}{FO:Nat→Option a7}{M M':Nat→Bool}{H H':ah}{m:Nat}{o:Oper}(hp:EZ o.op=true∨m∈As)(h:pM P lo ops (bm ms) As id base b6 V FO M H m o) :
  pM P lo ops (bm ms) As id base b6 V FO M' H' m o:=by
 unfold pM at h ⊢
 rcases h with⟨hw,⟨h1,h0,h2,h3,ha⟩|hA⟩|h
 ·rcases hp with hp|hp
  ·exact .inl ⟨hw,.inl ⟨h1,h0,h2,_,Wx hp ha⟩⟩
  exact absurd hp h0
 ·exact .inl ⟨hw,.inr hA⟩
 exact .inr h
structure SI (P:Program) (lo:Nat) (ops:Array Oper) (ms W As:List Nat) (base:Nat) (b6:aI) (d bt todo:List Nat) (last:Option Nat) (V:Nat→Value) (FO:Nat→Option a7) (M:Nat→Bool) (H:ah) (ts:aI) (fl:List (Nat×a7)):Prop where
  nL:ts=eP ops V (fun i=>d.contains i) b6 ops.size
  lN:fl=dS (fun i=>d.contains i) M FO As
  closed:∀i j,bm ms i j=true→d.contains j=true→d.contains i=true
  wr:∀w∈W,(d.contains w=true↔w∉bt)
  Bu:∀w∈bt,w∈W
  HW:bt.Pairwise (fun w w'=>bm ms w w'=true)
  fo:∀i,d.contains i=false→FO i=none
  Bq:∀i,M i=true→d.contains i=true
  fS:∀m o,ops[m]?=some o→d.contains m=true→m∉W→∃M0 H0,pM P lo ops (bm ms) As id base b6 V FO M0 H0 m o
  now:∀m o,ops[m]?=some o→d.contains m=true→m∉W→m∉todo→(∀l,last=some l→bm ms m l=false)→pM P lo ops (bm ms) As id base b6 V FO M H m o
theorem contains_cons (m:Nat)(d:List Nat)(i:Nat):(m::d).contains i=(Nat.beq i m||d.contains i):=by
 rw[List.contains_cons]
 have:(i==m)=Nat.beq i m:=by
  rw[Bool.eq_iff_iff,beq_iff_eq]
  exact⟨fun h=>by rw[h];exact Nat.beq_refl m,rQ⟩
 rw[this]
theorem HX {d:List Nat}{i:Nat}:d.contains i=false↔i∉d:=by
 rw[← Bool.not_eq_true,List.contains_iff_mem]
theorem SI.rd (st:yA ops (bm ms) W As id (lM As ops.size)){d bt todo:List Nat}{last:Option Nat}{V:Nat→Value}{FO ea:Nat→Option a7}{M:Nat→Bool}{H:ah}{ts:aI}{fl Ah:List (Nat×a7)}{m:Nat}{o:Oper}{v:Value}
  (s:SI P lo ops ms W As base b6 d bt todo last V FO M H ts fl) (ho:ops[m]?=some o) (hd:d.contains m=false) (hp:∀j,bm ms j m=true→d.contains j=true) (hW:m∉W)
  (HS:∀j,j≠m→ea j=FO j) (lN:Ah=dS (fun i=>(m::d).contains i) M ea As) (h:pM P lo ops (bm ms) As id base b6 (jW V m v) ea M H m o) :
  SI P lo ops ms W As base b6 (m::d) bt todo last (jW V m v) ea M H (bA ts o.dst v) Ah:=by
 have dp:∀j,d.contains j=true→j≠m:=fun j hj h=>by subst h;rw[hd] at hj;cases hj
 have Ai:∀j,d.contains j=true→jW V m v j=V j:=fun j hj=>Dq (dp j hj)
 have O3:∀j,d.contains j=true→ea j=FO j:=fun j hj=>HS j (dp j hj)
 have lO:∀M0 H0 k ok,d.contains k=true→pM P lo ops (bm ms) As id base b6 V FO M0 H0 k ok→pM P lo ops (bm ms) As id base b6 (jW V m v) ea M0 H0 k ok:=fun M0 H0 k ok hk Bs=>
  Bs.congr (fun j hj=>Ai j (s.closed j k hj hk)) (Ai k hk) (fun j hj=>O3 j (s.closed j k hj hk)) (O3 k hk)
 have eJ:∀i j,bm ms i j=true→(m::d).contains j=true→(m::d).contains i=true:=fun i j hb hj=>by
  rw[contains_cons,Bool.or_eq_true] at hj ⊢
  rcases hj with hj|hj
  ·rw[rQ hj] at hb;exact .inr (hp i hb)
  exact .inr (s.closed i j hb hj)
 refine⟨?_,lN,eJ,fun w hw=>?_,s.Bu,s.HW,fun i hi=>?_,fun i hi=>?_,fun k ok fP hk nq=>?_,fun k ok fP hk nq ht hl=>?_⟩
 ·have e:(fun i=>(m::d).contains i)=fun i=>d.contains i||Nat.beq i m:=by funext i;rw[contains_cons,Bool.or_comm]
  rw[e,Kl st ho hd s.closed,Ag]
  rw[yz (V':=V) (S':=fun i=>d.contains i) (fun _ _=>rfl) (fun j _ hj=>Ai j hj),← s.nL]
 ·have:w≠m:=by rintro rfl;exact hW hw
  rw[contains_cons,nN this,Bool.false_or];exact s.wr w hw
 ·rw[contains_cons,Bool.or_eq_false_iff] at hi
  have dp:i≠m:=fun h=>by subst h;rw[Nat.beq_refl] at hi;exact absurd hi.1 (by simp)
  rw[HS i dp];exact s.fo i hi.2
 ·rw[contains_cons,s.Bq i hi,Bool.or_true]
 ·rw[contains_cons,Bool.or_eq_true] at hk
  by_cases Aj:k=m
  ·subst Aj;rw[ho] at fP;injection fP with fP;subst fP;exact⟨M,H,h⟩
  have hk:d.contains k=true:=hk.resolve_left (by rw[nN Aj];simp)
  obtain⟨M0,H0,h0⟩:=s.fS k ok fP hk nq
  exact⟨M0,H0,lO M0 H0 k ok hk h0⟩
 rw[contains_cons,Bool.or_eq_true] at hk
 by_cases Aj:k=m
 ·subst Aj;rw[ho] at fP;injection fP with fP;subst fP;exact h
 have hk:d.contains k=true:=hk.resolve_left (by rw[nN Aj];simp)
 exact lO M H k ok hk (s.now k ok fP hk nq ht hl)
theorem WB (st:yA ops (bm ms) W As id (lM As ops.size)){V:Nat→Value}{L:Nat→Bool}{m:Nat}{o:Oper}{t:Nat}{v:Value}(ho:ops[m]?=some o)(hs:E0 ops ms m o=true)(hd:o.dst=some t)(hL:L m=true)
  (hv:(eP ops V L b6 ops.size)[t]?=some v):v=V m:=by
 have aY:m<ops.size:=(Array.getElem?_eq_some_iff.1 ho).1
 have key:∀n,m<n→n≤ops.size→(eP ops V L b6 n)[t]?=some v→v=V m:=by
  intro n
  induction n with
  |zero=>intro h;omega
  |succ n ih=>
   intro hmn hn hv
   simp only[eP] at hv
   by_cases Ku:m=n
   ·subst Ku
    rw[hL] at hv
    have:r8 ops m=some t:=by simp[r8,ho,hd]
    rw[this] at hv
    simp only[aM,bA,List.getElem?_set,if_true] at hv
    split at hv
    ·injection hv with hv;exact hv.symm
    cases hv
   refine ih (by omega) (by omega) ?_
   cases hl:L n with
   |false=>rw[hl] at hv;exact hv
   |true=>
    rw[hl] at hv
    simp only[aM] at hv
    rw[EO] at hv
    ·exact hv
    intro tM
    simp only[E0,List.all_eq_true,List.mem_range] at hs
    have:=hs n (by omega)
    have Kv:(ops[n]?).bind (·.dst)=some t:=tM
    rw[Kv] at this
    simp only[nN (show n≠m by omega),bq,hd,beq_self_eq_true,Bool.or_true,Bool.not_true,Bool.or_false] at this
    have:=st.lt _ _ this
    omega
 exact key ops.size aY (Nat.le_refl _) hv
theorem WC {V:Nat→Value}{L:Nat→Bool}{m:Nat}{o:Oper}(ho:ops[m]?=some o)(hs:E0 ops ms m o=true)(hL:L m=true)(hc:∀i j,bm ms i j=true→L j=true→L i=true) :
  xd ops o (eP ops V L b6 ops.size) (eP ops V (fun j=>bm ms j m) b6 ops.size):=by
 intro t ht
 refine Ki fun j hj hd=>?_
 suffices h:L j=bm ms j m by exact⟨h,fun _=>rfl⟩
 simp only[E0,List.all_eq_true,List.mem_range] at hs
 have:=hs j hj
 have tK:(ops[j]?).bind (·.dst)=some t:=hd
 rw[tK] at this
 have O4:(o.looksAt ops).contains t=true:=by rw[List.contains_iff_mem];exact ht
 by_cases HY:j=m
 ·subst HY
  simp only[Nat.beq_refl,aM,O4,Bool.not_true] at this
  cases this
 simp only[nN HY,bq,O4,Bool.true_or,Bool.not_true,Bool.or_false] at this
 rw[this];exact hc j m this hL
theorem Dr (st:yA ops (bm ms) W As id (lM As ops.size))(kO:Af As=true):∀(items:List iy) (d bt todo:List Nat) (last:Option Nat) (V:Nat→Value) (FO:Nat→Option a7) (M:Nat→Bool) (H:ah) (ts:aI) (fl:List (Nat×a7)),
  xj ops ms W As d bt todo items=true→SI P lo ops ms W As base b6 d bt todo last V FO M H ts fl→xh P lo ops base ms W As (Q .normal) items ts fl H→
  ∃V' ea,(∀i,d.contains i=true→V' i=V i∧ea i=FO i)∧DR P lo ops (bm ms) W As id base b6 Q bt last V' ea M H
 |[],d,bt,todo,last,V,FO,M,H,ts,fl,hc,s,hs=>by
  simp only[xj,bV,List.isEmpty_iff,List.all_eq_true,List.mem_range] at hc
  obtain⟨⟨rfl,rfl⟩,bo⟩:=hc
  refine⟨V,FO,fun _ _=>⟨rfl,rfl⟩,fun m o ho hW _ hl=>s.now m o ho (bo m (Array.getElem?_eq_some_iff.1 ho).1) hW (by simp) hl,?_⟩
  have e1:eP ops V (fun _=>true) b6 ops.size=ts:=by rw[s.nL];exact yz (fun i hi=>(bo i hi).symm) (fun _ _ _=>rfl)
  have e2:bJ base id FO (fun i=>!M i) As H=gK base (fun _=>true) fl H:=by
   rw[s.lN,HV]
   refine Ab fun k hk=>?_
   rw[bo k (st.alt k hk)];simp
  rw[e1,e2];exact hs
 |.op m::r,d,bt,todo,last,V,FO,M,H,ts,fl,hc,s,hs=>by
  obtain⟨o,ho,hs⟩:=hs
  simp only[xj,ho,bV,Bool.not_eq_true',List.all_eq_true,List.mem_range,Bool.or_eq_true] at hc
  obtain⟨⟨xm,Bv⟩,hc⟩:=hc
  have hp:∀j,bm ms j m=true→d.contains j=true:=fun j hj=>by
   rcases Bv j (st.lt j m hj) with h|h
   ·rw[hj] at h;cases h
   exact h
  have aY:m<ops.size:=(Array.getElem?_eq_some_iff.1 ho).1
  have dZ:xd ops o ts (eP ops V (fun j=>bm ms j m) b6 ops.size):=by
   have:=OY (b6:=b6) (V:=V) (L:=fun i=>d.contains i) st ho xm hp s.closed
   rw[← s.nL] at this;exact this
  have heq:∀Bw:Nat→Option a7,(∀j,d.contains j=true→Bw j=FO j)→bJ base id Bw (fun i=>bm ms i m&&!M i) As H=gK base (fun i=>bm ms i m) fl H:=fun Bw h1=>by
   rw[s.lN,HV]
   refine Ab fun k _=>?_
   cases hb:bm ms k m with
   |false=>rfl
   |true=>rw[hp k hb,h1 k (hp k hb)];simp
  have dp:∀j,d.contains j=true→j≠m:=fun j hj h=>by subst h;rw[xm] at hj;cases hj
  have WD:M m=false:=by
   cases hm:M m with
   |false=>rfl
   |true=>rw[s.Bq m hm] at xm;cases xm
  have u3:∀v,eP ops (jW V m v) (fun j=>bm ms j m) b6 ops.size=eP ops V (fun j=>bm ms j m) b6 ops.size:=fun v=>yz (fun _ _=>rfl) (fun j _ hj=>Dq (dp j (hp j hj)))
  have lift:∀(v:Value) (Bw:Nat→Option a7),(∀j,j≠m→Bw j=FO j)→(∃V' ea,(∀i,(m::d).contains i=true→V' i=jW V m v i∧ea i=Bw i)∧DR P lo ops (bm ms) W As id base b6 Q bt last V' ea M H)→
    ∃V' ea,(∀i,d.contains i=true→V' i=V i∧ea i=FO i)∧DR P lo ops (bm ms) W As id base b6 Q bt last V' ea M H:=by
   rintro v Bw hF ⟨V',ea,h1,h2⟩
   refine⟨V',ea,fun i hi=>?_,h2⟩
   obtain⟨h3,h4⟩:=h1 i (by rw[contains_cons,hi,Bool.or_true])
   exact⟨by rw[h3,Dq (dp i hi)],by rw[h4,hF i (dp i hi)]⟩
  by_cases HZ:W.contains m=true
  · -- a writer
   have o4:m∈W:=by rwa [List.contains_iff_mem] at HZ
   simp only[HZ,aM,bV,List.isEmpty_iff] at hc hs
   obtain⟨rfl,hc⟩:=hc
   cases bt with
   |nil=>cases hc
   |cons w Wr=>
    simp only[bV,List.all_eq_true,List.mem_range,Bool.or_eq_true,List.any_eq_true] at hc
    obtain⟨⟨hw,Bx⟩,hc⟩:=hc
    have hw:=rQ hw
    subst hw
    have E2:∀k,k<ops.size→k∉W→(∀w'∈w::Wr,bm ms w' k=false)→d.contains k=true:=fun k hk nq nO=>by
     rcases Bx k hk with (h|h)|⟨w',yE,h⟩
     ·exact h
     ·rw[List.contains_iff_mem] at h;exact absurd h nq
     rw[nO w' yE] at h;cases h
    have Bs:PC P lo ops (bm ms) W As id base b6 (w::Wr) last V FO M H:=fun k ok fP nq nO hl=>
     s.now k ok fP (E2 k (Array.getElem?_eq_some_iff.1 fP).1 nq nO) nq (by simp) hl
    have By:w∉Wr:=by
     intro dm
     have:=st.lt _ _ ((List.pairwise_cons.1 s.HW).1 w dm)
     omega
    have next:∀(v:Value) (h':ah) (M':Nat→Bool) (Ah:List (Nat×a7)),(∀i,M' i=true→M i=true∨bm ms i w=true)→Ah=dS (fun i=>(w::d).contains i) M' FO As→
      xh P lo ops base ms W As (Q .normal) r (bA ts o.dst v) Ah h'→
      ∃V' ea,Ext ops (bm ms) (w::Wr) V V' FO ea∧V' w=v∧DR P lo ops (bm ms) W As id base b6 Q Wr (some w) V' ea M' h':=by
     intro v h' M' Ah ot Kw qm
     have Ai:∀j,d.contains j=true→jW V w v j=V j:=fun j hj=>Dq (dp j hj)
     have lO:∀M0 H0 k ok,d.contains k=true→pM P lo ops (bm ms) As id base b6 V FO M0 H0 k ok→pM P lo ops (bm ms) As id base b6 (jW V w v) FO M0 H0 k ok:=fun M0 H0 k ok hk Bs=>
      Bs.congr (fun j hj=>Ai j (s.closed j k hj hk)) (Ai k hk) (fun _ _=>rfl) rfl
     have O5:∀k,(w::d).contains k=true→k∉W→d.contains k=true:=fun k hk nq=>by
      rw[contains_cons,Bool.or_eq_true] at hk
      refine hk.resolve_left ?_
      have:k≠w:=by rintro rfl;exact nq o4
      rw[nN this];simp
     have nP:SI P lo ops ms W As base b6 (w::d) Wr (d.filter fun k=>!W.contains k&&!As.contains k&&!bm ms k w&&match ops[k]? with|none=>true|some ok=>!EZ ok.op) (some w) (jW V w v) FO M' h' (bA ts o.dst v) Ah:=by
      refine⟨?_,Kw,?_,fun w' yE=>?_,fun w' yE=>s.Bu w' (List.mem_cons_of_mem _ yE),(List.pairwise_cons.1 s.HW).2,fun i hi=>?_,fun i hi=>?_,fun k ok fP hk nq=>?_,fun k ok fP hk nq o5 hl=>?_⟩
      ·have e:(fun i=>(w::d).contains i)=fun i=>d.contains i||Nat.beq i w:=by funext i;rw[contains_cons,Bool.or_comm]
       rw[e,Kl st ho xm s.closed,Ag]
       rw[yz (V':=V) (S':=fun i=>d.contains i) (fun _ _=>rfl) (fun j _ hj=>Ai j hj),← s.nL]
      ·intro i j hb hj
       rw[contains_cons,Bool.or_eq_true] at hj ⊢
       rcases hj with hj|hj
       ·rw[rQ hj] at hb;exact .inr (hp i hb)
       exact .inr (s.closed i j hb hj)
      ·by_cases Kx:w'=w
       ·subst Kx
        rw[contains_cons,Nat.beq_refl,Bool.true_or]
        exact⟨fun _=>By,fun _=>rfl⟩
       rw[contains_cons,nN Kx,Bool.false_or,s.wr w' yE,List.mem_cons]
       exact⟨fun h h2=>h (.inr h2),fun h h2=>h2.elim Kx h⟩
      ·rw[contains_cons,Bool.or_eq_false_iff] at hi
       exact s.fo i hi.2
      ·rw[contains_cons]
       rcases ot i hi with h|h
       ·rw[s.Bq i h,Bool.or_true]
       rw[hp i h,Bool.or_true]
      ·have hk:=O5 k hk nq
       obtain⟨M0,H0,h0⟩:=s.fS k ok fP hk nq
       exact⟨M0,H0,lO M0 H0 k ok hk h0⟩
      have hk:=O5 k hk nq
      obtain⟨M0,H0,h0⟩:=s.fS k ok fP hk nq
      refine(lO M0 H0 k ok hk h0).pure ?_
      have hb:=hl w rfl
      by_cases hA:k∈As
      ·exact .inr hA
      left
      have WE:k∈d:=by rwa [List.contains_iff_mem] at hk
      have Ky:W.contains k=false:=HX.2 nq
      have Kz:As.contains k=false:=HX.2 hA
      rw[List.mem_filter] at o5
      simp only[WE,Ky,Kz,hb,fP,Bool.not_false,Bool.and_self,Bool.true_and,true_and,Bool.not_eq_true',Bool.not_eq_false] at o5
      exact o5
     obtain⟨V',ea,h1,h2⟩:=Dr st kO r (w::d) Wr _ (some w) (jW V w v) FO M' h' (bA ts o.dst v) Ah hc nP qm
     refine⟨V',ea,fun i hi uX yF=>?_,by rw[(h1 w (by rw[contains_cons,Nat.beq_refl];rfl)).1,Ag],h2⟩
     have hid:d.contains i=true:=by
      by_cases O6:i∈W
      ·exact(s.wr i O6).2 uX
      exact E2 i hi O6 yF
     obtain⟨h3,h4⟩:=h1 i (by rw[contains_cons,hid,Bool.or_true])
     exact⟨by rw[h3,Ai i hid],h4⟩
    refine⟨V,FO,fun _ _=>⟨rfl,rfl⟩,Bs,fun o2 H3=>?_⟩
    rw[ho] at H3;injection H3 with H3;subst H3
    rw[← dZ.wanted]
    constructor
    ·intro mn jy KA
     rw[mn] at hs
     simp only[aM] at hs
     rw[heq FO (fun _ _=>rfl)]
     refine(hs jy (fun t ht=>(KA t ht).trans (dZ t ht).symm)).mono fun bc h' hq=>?_
     obtain⟨v,rfl,qm⟩:=hq
     obtain⟨V',ea,k1,k2,k3⟩:=next v h' (fun i=>M i||bm ms i w) _ (fun i hi=>by simpa using hi) (by
      rw[s.lN,O2 (c:=fun i=>bm ms i w)]
      refine E1 fun i hi=>?_
      have:i≠w:=by rintro rfl;exact st.aw i hi o4
      rw[contains_cons,nN this,Bool.false_or]) qm
     exact⟨V',ea,k1,by rw[k2],k3⟩
    intro mn
    rw[mn] at hs
    simp only[bq] at hs
    exact next Go.undef H M fl (fun i hi=>.inl hi) (by
     rw[s.lN]
     refine E1 fun i hi=>?_
     have:i≠w:=by rintro rfl;exact st.aw i hi o4
     rw[contains_cons,nN this,Bool.false_or]) hs
  have o4:m∉W:=by rwa [List.contains_iff_mem] at HZ
  have WG:W.contains m=false:=HX.2 o4
  simp only[WG,bq,bV] at hc hs
  obtain⟨gZ,fV⟩:=hc
  have ev:FO m=none:=s.fo m xm
  have rh:fl=dS (fun i=>(m::d).contains i) M FO As:=by
   rw[s.lN]
   refine E1 fun i hi=>?_
   by_cases O7:i=m
   ·subst O7;rw[ev];cases (d.contains i&&!M i)<;>cases ((i::d).contains i&&!M i)<;>rfl
   rw[contains_cons,nN O7,Bool.false_or]
  by_cases mn:Region.wanted o (ml ops ts)=true
  ·have sb:=mn
   rw[dZ.wanted] at sb
   simp only[mn,aM] at hs
   by_cases hA:As.contains m=true
   ·have E3:m∈As:=by rwa [List.contains_iff_mem] at hA
    simp only[hA,aM,List.all_eq_true,Bool.or_eq_true,Bool.not_eq_true'] at gZ hs
    obtain⟨v,x,ha,qm⟩:=hs
    have yf:∀j,j≠m→jW FO m (some x) j=FO j:=fun j hj=>Dq hj
    refine lift v (jW FO m (some x)) yf (Dr st kO r (m::d) bt todo last _ _ M H _ _ fV (s.rd st ho xm hp o4 yf ?_ ?_) qm)
    ·have e:(fun i=>(m::d).contains i)=fun i=>Nat.beq i m||d.contains i:=by funext i;rw[contains_cons]
     rw[e,O0 kO E3 (fun k hk=>(gZ k hk).imp (fun h=>aU h) (fun h=>h)) xm WD,← s.lN]
    refine .inl ⟨?_,.inr ⟨x,E3,Ag _ _ _,?_⟩⟩
    ·rw[u3];exact sb
    rw[u3,Ag,← OS dZ.eval];exact ha
   have E3:m∉As:=by rwa [List.contains_iff_mem] at hA
   have WH:As.contains m=false:=HX.2 E3
   simp only[WH,bq] at gZ hs
   obtain⟨v,h1,ha,qm⟩:=hs
   refine lift v FO (fun _ _=>rfl) (Dr st kO r (m::d) bt todo last _ _ M H _ _ fV (s.rd st ho xm hp o4 (fun _ _=>rfl) rh ?_) qm)
   refine .inl ⟨?_,.inl ⟨gZ,E3,ev,h1,?_⟩⟩
   ·rw[u3];exact sb
   rw[u3,Ag,heq FO (fun _ _=>rfl),← Bn dZ.eval];exact ha
  have mn:Region.wanted o (ml ops ts)=false:=by rwa [Bool.not_eq_true] at mn
  have sb:=mn
  rw[dZ.wanted] at sb
  simp only[mn,bq] at hs
  refine lift Go.undef FO (fun _ _=>rfl) (Dr st kO r (m::d) bt todo last _ _ M H _ _ fV (s.rd st ho xm hp o4 (fun _ _=>rfl) rh ?_) hs)
  refine .inr ⟨?_,Ag _ _ _,ev⟩
  rw[u3];exact sb
 |.ck m::r,d,bt,todo,last,V,FO,M,H,ts,fl,hc,s,hs=>by
  obtain⟨o,t,ho,KB,gk,hs⟩:=hs
  simp only[xj,ho,bV] at hc
  obtain⟨⟨_,dB⟩,hc⟩:=hc
  refine Dr st kO r d bt _ last V FO M H ts fl hc ⟨s.nL,s.lN,s.closed,s.wr,s.Bu,s.HW,s.fo,s.Bq,s.fS,fun k ok fP hk nq o5 hl=>?_⟩ hs
  by_cases Aj:k=m
  ·subst Aj
   rw[ho] at fP;injection fP with fP;subst fP
   obtain⟨M0,H0,h0⟩:=s.fS k o ho hk nq
   have dZ:=WC (b6:=b6) (V:=V) (L:=fun i=>d.contains i) ho dB hk s.closed
   rw[← s.nL] at dZ
   have hp:∀j,bm ms j k=true→d.contains j=true:=fun j hj=>s.closed j k hj hk
   have heq:bJ base id FO (fun i=>bm ms i k&&!M i) As H=gK base (fun i=>bm ms i k) fl H:=by
    rw[s.lN,HV]
    refine Ab fun j _=>?_
    cases hb:bm ms j k with
    |false=>rfl
    |true=>rw[hp j hb];simp
   rcases h0 with⟨hw,⟨h1,h2,h3,h4,ha⟩|hA⟩|h0
   ·obtain⟨v,h5,hv,o6⟩:=gk (by rw[dZ.wanted];exact hw)
    rw[s.nL] at hv
    have WJ:=WB (b6:=b6) st (V:=V) (L:=fun i=>d.contains i) ho dB KB hk hv
    subst WJ
    exact .inl ⟨hw,.inl ⟨h1,h2,h3,h5,by rw[heq,← Bn dZ.eval];exact o6⟩⟩
   ·exact .inl ⟨hw,.inr hA⟩
   exact .inr h0
  refine s.now k ok fP hk nq (fun h=>o5 ?_) hl
  rw[List.mem_filter]
  exact⟨h,by rw[nN Aj];rfl⟩
theorem AW.sched {id:Nat}{ts:aI}{h:ah}{items:List iy}(hm:P.follows .mixedOrders=true)(dB:EY ops ms W As=true)(kO:Af As=true)(hc:xj ops ms W As [] W [] items=true)
  (hs:xh P lo ops h.next ms W As (Q .normal) items ts [] (ah.nj (lM As ops.size) h)):AW P lo (.region id ops true) Q ts h:=by
 have st:=Wv dB
 have e1:eP ops (fun _=>Go.undef) (fun _=>false) ts ops.size=ts:=by
  have:∀n,eP ops (fun _=>Go.undef) (fun _=>false) ts n=ts:=by
   intro n
   induction n with
   |zero=>rfl
   |succ n ih=>simp only[eP,bq];exact ih
  exact this _
 have e2:[]=dS (fun _=>false) (fun _=>false) (fun _=>none) As:=by
  have:∀as,dS (fun _=>false) (fun _=>false) (fun _=>none) as=[]:=by
   intro as
   induction as with
   |nil=>rfl
   |cons a r ih=>rw[HU rfl];exact ih
  exact(this As).symm
 obtain⟨V',ea,_,hD⟩:=Dr (P:=P) (lo:=lo) (base:=h.next) (b6:=ts) (Q:=Q) st kO items [] W [] none (fun _=>Go.undef) (fun _=>none) (fun _=>false) (ah.nj (lM As ops.size) h) ts [] hc
  ⟨e1.symm,e2,fun _ _ _ h=>(by cases h),fun w hw=>⟨fun h=>(by cases h),fun h=>absurd hw h⟩,fun _ h=>h,st.chain,fun _ _=>rfl,fun _ h=>(by cases h),fun _ _ _ h=>(by cases h),fun _ _ _ h=>(by cases h)⟩ hs
 exact AW.drawn hm st hD
end
section
variable {P:Program} {lo:Nat} {Q:kN} {ts:aI} {h:ah}
theorem Rel.kill {U:Mu}{w:World}(r:Rel U lo h w)(l:Nat)(hl:l<h.next):Rel U lo (h.put l none) w:=
 r.sub (Nat.le_refl _) (fun o x hx=>by
  rw[ah.dH _ _ _ _ hl] at hx
  by_cases ho:o=l
  ·simp[ho] at hx
  simpa[ho] using hx) (Nat.le_refl _) r.bI
theorem Frame.kill {U aQ:Mu}{h':ah}{w w':World}(f:Frame lo U h w aQ h' w')(l:Nat)(hl:l<h'.next)(cC:lo≤l):Frame lo U h w aQ (h'.put l none) w' where
  le:=f.le
  size:=f.size
  next:=f.next
  kept:=f.kept
  own b hb:=by
    rintro⟨o,x,a,C,h1,h2,h3⟩
    rw[ah.dH _ _ _ _ hl] at h2
    by_cases ho:o=l
    · simp[ho] at h2
    exact f.own b hb ⟨o,x,a,C,h1,by simpa[ho] using h2,h3⟩
  low o ho:=by rw[ah.dH _ _ _ _ hl,if_neg (by omega)];exact f.low o ho
  fS:=f.fS
  born o ho hn:=by
    rw[ah.dH _ _ _ _ hl]
    by_cases A9:o=l
    · simp[A9]
    simpa[A9] using f.born o ho hn
  calm:=f.calm
theorem O8 {U:Mu}{w:World}(r:Rel U lo h w){l b a C:Nat}{x:a7}(cC:lo≤l)(hx:h.get l=some x)(hm:U l=some (b,a,C)):uQ U (h.put l none) b:=by
 intro o y a' C' hy eu
 rw[ah.dH _ _ _ _ (ah.fJ hx)] at hy
 by_cases ho:o=l
 ·simp[ho] at hy
 simp[ho] at hy
 exact ho (r.inj l o x y b a C a' C' cC hx hy hm eu).symm
theorem Rel.KC {U:Mu}{w:World}{o:Obj}(r:Rel U lo h w){l b C:Nat}{x:a7}(hl:l<h.next)(hm:U l=some (b,0,C))(u:uQ U h b)(hK:bG.K≤b)(hx:fD U (w.putObj b o) b 0 C x)(hf:∀off,(w.putObj b o).frozen? ⟨b,off,none⟩=false) :
  Rel U lo (h.put l (some x)) (w.putObj b o):=by
 have r':=HM o r u hK
 refine⟨fun p y hy=>?_,fun p p' y y' b' a C1 a' C2 uD hy oM cq gC=>?_,r.nE,fun p y b' a C1 hp hy cq off=>?_,r.bI,⟨r'.jE.gl,r'.jE.ks,fun p y b' a C1 hp hy cq=>?_⟩⟩
 ·rw[ah.dH _ _ _ _ hl] at hy
  by_cases il:p=l
  ·subst il;simp at hy;subst hy;exact⟨b,0,C,hm,hx⟩
  exact r'.bg p y (by simpa[il] using hy)
 ·rw[ah.dH _ _ _ _ hl] at hy oM
  by_cases il:p=l
  ·by_cases qa:p'=l
   ·rw[il,qa]
   simp[qa] at oM
   subst il;rw[hm] at cq;injection cq with cq;injection cq with cq _;subst cq
   exact(u p' y' a' C2 oM gC).elim
  simp[il] at hy
  by_cases qa:p'=l
  ·subst qa;rw[hm] at gC;injection gC with gC;injection gC with gC _;subst gC
   exact(u p y a C1 hy cq).elim
  simp[qa] at oM
  exact r.inj p p' y y' b' a C1 a' C2 uD hy oM cq gC
 ·rw[ah.dH _ _ _ _ hl] at hy
  by_cases il:p=l
  ·subst il;rw[hm] at cq;injection cq with cq;injection cq with cq _;subst cq;exact hf off
  exact r'.eI p y b' a C1 hp (by simpa[il] using hy) cq off
 rw[ah.dH _ _ _ _ hl] at hy
 by_cases il:p=l
 ·subst il;rw[hm] at cq;injection cq with cq;injection cq with cq _;subst cq;exact hK
 exact r'.jE.hi p y b' a C1 hp (by simpa[il] using hy) cq
theorem Frame.KC {U aQ:Mu}{h':ah}{w w':World}(f:Frame lo U h w aQ h' w'){l b C:Nat}{x y:a7}(hl:l<h'.next)(cC:lo≤l)(hx:h.get l=some x)(hm:U l=some (b,0,C)):Frame lo U h w aQ (h'.put l (some y)) w' where
  le:=f.le
  size:=f.size
  next:=f.next
  kept:=f.kept
  own b' hb:=by
    rintro⟨o,z,a,C',h1,h2,h3⟩
    rw[ah.dH _ _ _ _ hl] at h2
    by_cases ho:o=l
    · subst ho
      rw[f.le _ _ hm] at h3;injection h3 with h3;injection h3 with h3 _;subst h3
      exact⟨o,x,0,C,cC,hx,hm⟩
    exact f.own b' hb ⟨o,z,a,C',h1,by simpa[ho] using h2,h3⟩
  low o ho:=by rw[ah.dH _ _ _ _ hl,if_neg (by omega)];exact f.low o ho
  fS:=f.fS
  born o ho hn:=by
    rw[ah.dH _ _ _ _ hl,if_neg (by rintro rfl;rw[hx] at hn;cases hn)]
    exact f.born o ho hn
  calm:=f.calm
def ri (ts:aI):List (Tmp×Value)→aI
 |[]=>ts
 |(t,v)::r=>ri (ts.set t v) r
theorem O9 {U:Mu}:∀(ps:List Tmp) {vs kJ:List Value} {ts:aI} {tmps:Array Value},br U vs kJ→dj U ts tmps→
  dj U (ri ts (ps.zip vs)) ((ps.zip kJ).foldl (fun tmps (x:Tmp×Value)=>tmps.setIfInBounds x.1 x.2) tmps)
 |[],_,_,_,_,_,ht=>by simpa[ri] using ht
 |p::ps,[],kJ,_,_,hv,ht=>by
  have:=hv.iW;subst this
  simpa[ri] using ht
 |p::ps,v::vs,kJ,ts,tmps,hv,ht=>by
  obtain⟨v',r',rfl,h1,h2⟩:=hv.dw
  simp only[List.zip_cons_cons,ri,List.foldl_cons]
  refine O9 ps h2 ?_
  have:=br.set p ht h1
  simpa[dj] using this
def WK (L:Jt)(l:Nat)(K:Bool→ah→Prop):kN
 |.normal,_,h=>K true (h.put l (some (.loop L none)))
 |.ret,_,h=>K false (h.put l (some (.loop L (some .ret))))
 |.exit id,_,h=>K false (h.put l (some (.loop L (some (.exit id)))))
 |.goto t,_,h=>K false (h.put l (some (.loop L (some (.goto t)))))
 |_,_,_=>False
theorem oY.yield {o:Oper}{fo:Operand}{args:Array Operand}{aT:Array TypeId}{l:Nat}{L:Jt}{vs:List Value}{next:aI→ah→Prop}(ho:o.op=.call ⟨.value fo,args,aT⟩)
  (hf:cP ts fo=some (.func (.yield l) #[] #[])) (hl:nK ts args.toList=some vs) (hg:h.get l=some (.loop L none)) (cC:lo≤l) (hlen:vs.length=L.params.size)
  (hc:AW P lo L.assign (HJ (AW P lo L.body (WK L l fun b h'=>next (bA ts o.dst (.bool b)) h')) (fun _ _ _=>False)) (ri L.ts (L.params.toList.zip vs)) (h.put l none)):oY P lo o ts h next:=by
 intro F hF n U a w Q ht r
 refine⟨Bm F hF,?_⟩
 rw[Oper.semAt_eq _ _ _ (fun c hc=>by rw[ho] at hc;cases hc)]
 have pK:=fE ht hf
 generalize ra:a.eval fo=fv at pK
 cases pK with
 |j6 _ b C hm=>
  obtain⟨b',a',C',eu,oT⟩:=r.bg l _ hg
  rw[hm] at eu;injection eu with eu;injection eu with e1 e2;injection e2 with e2 e3;subst e1;subst e2;subst e3
  obtain⟨_,rec,yG,dB,Pa,Bz,has,Pb,nL⟩:=oT
  have hb:=Bk yG
  have Pc:=Di ht hl
  have fp:(#[]++args.map a.eval:Array Value).size=rec.params.size:=by
   have:=Pc.1
   rw[Bz,← hlen,this];simp
  have eR:(execOp a.eval o).run P w=.ok (.round b rec.fn ((rec.params.zip (#[]++args.map a.eval)).foldl (fun tmps (t,a)=>tmps.setIfInBounds t a) rec.tmps) rec.assign rec.body) w:=by
   simp only[execOp,ho,resolve,ra,Deferred.ofValue,Sem.run_bind,Sem.run_pure,Result.andThen_ok,invoke,run_yield yG fp]
  rw[eR]
  refine⟨hF.one n,?_⟩
  refine roundIn_of_wpIn (hF.fn _) ?_
  have da:=ah.fJ hg
  have sc:x8 U lo h b:=⟨l,_,0,C,cC,hg,hm⟩
  have hu:=O8 r cC hg hm
  have rk:=r.kill l da
  have fk:Frame lo U h w U (h.put l none) w:=(Frame.refl lo U h w).kill l da cC
  have E4:dj U (ri L.ts (L.params.toList.zip vs)) ((rec.params.zip (#[]++args.map a.eval)).foldl (fun tmps (t,a)=>tmps.setIfInBounds t a) rec.tmps):=by
   have:=O9 L.params.toList (U:=U) (vs:=vs) (kJ:=(args.map a.eval).toList) (by simpa using Pc) nL
   rw[← Array.foldl_toList,Bz]
   simpa using this
  rw[has]
  refine wpIn_mono (hc (F.inRound b) (hF.inRound b) (n - 1) U { tmps:=_,defers:=[] } w E4 rk (fun l' oh=>?_)) fun e a1 w1 q8=>?_
  ·have:b=l':=by simpa[Fence.inRound] using oh
   subst this;exact⟨rec,yG,hu⟩
  obtain⟨jy,h1,mX,ms1,BA,r1,f1,ke,_,hq⟩:=q8
  cases e with
  |normal=>
   have Ak:w1.heap[b]?=some (.loop rec):=by rw[f1.kept b hb hu.own];exact yG
   have H4:=hu.frame hb f1
   refine⟨_,run_beginRound Ak (by rw[dB];rfl),?_⟩
   rw[← Pb] at hq
   have kf:=Bk Ak
   have r2:=HM (.loop { rec with state:=.busy }) r1 H4 (r.jE.hi l _ b 0 _ cC hg hm)
   have f2:=HN (.loop { rec with state:=.busy }) (fk.trans f1) (.inr sc)
   have u4:(w1.putObj b (.loop { rec with state:=.busy })).heap[b]?=some (.loop { rec with state:=.busy }):=World.putObj_heap_same kf
   refine wpIn_mono (hq (F.inRound b) (hF.inRound b) (n - 1) mX a1 _ BA r2 (fun l' oh=>?_)) fun e a2 w3 lj=>?_
   ·have:b=l':=by simpa[Fence.inRound] using oh
    subst this;exact⟨_,u4,H4⟩
   obtain⟨ts3,h3,WL,ms3,Pd,r3,f3,Pe,_,zZ⟩:=lj
   have cS:=Bk u4
   have Al:w3.heap[b]?=some (.loop { rec with state:=.busy }):=by rw[f3.kept b cS H4.own];exact u4
   have oy:=Bk Al
   have BB:=H4.frame cS f3
   have E5:=f2.trans f3
   have Ez:=E5.le _ _ hm
   have BD:l<h3.next:=Nat.lt_of_lt_of_le da E5.next
   have fin:∀(jump:Option Code),next (bA ts o.dst (.bool jump.isNone)) (h3.put l (some (.loop L jump)))→
     ∃v w',(Instr.endRound b jump).run P w3=.ok v w'∧fF lo U h w a.defers (fun _=>next) .normal (a.put o.dst v) w':=by
    intro jump hn
    refine⟨_,_,run_endRound jump Al,bA ts o.dst (.bool jump.isNone),h3.put l (some (.loop L jump)),WL,Bl (ht.mono E5.le) (.bool _) o.dst,?_,?_,put_defers _ _ _,hn⟩
    ·refine r3.KC BD Ez BB (r.jE.hi l _ b 0 _ cC hg hm) ⟨rfl,_,World.putObj_heap_same oy,rfl,rfl,Bz,has,Pb,nL.mono E5.le⟩ fun off=>?_
     simp only[World.frozen?,World.putObj_heap_same oy]
    exact(HN _ E5 (.inr sc)).KC BD cC hg hm
   cases e with
   |normal=>exact fin none zZ
   |ret=>exact fin (some .ret) zZ
   |exit id=>exact fin (some (.exit id)) zZ
   |goto t=>exact fin (some (.goto t)) zZ
   |panic ch=>exact zZ.elim
   |outgrown=>exact zZ.elim
  |exit id=>exact hq.elim
  |goto l=>exact hq.elim
  |ret=>exact hq.elim
  |panic ch=>exact hq.elim
  |outgrown=>exact hq.elim
theorem WM {U:Mu}{w:World}(o:Obj)(r:Rel U lo h w):Rel U lo h (w.alloc o)∧Frame lo U h w U h (w.alloc o)∧uQ U h w.heap.size:=by
 have hblk:∀p y b a C',h.get p=some y→U p=some (b,a,C')→b<w.heap.size:=fun p y b a C' hy hm=>by
  obtain⟨b',a',oL,h1,h2⟩:=r.bg p y hy
  rw[hm] at h1;injection h1 with h1;injection h1 with h1 _;subst h1
  exact h2.qW
 refine⟨⟨fun p y hy=>?_,r.inj,r.nE,fun p y b a C hl hy hm off=>?_,r.bI,r.jE.step (by simp) (fun b hb _=>heap_alloc_old _ _ hb) fun o x b a C h1 h2 h3 _=>⟨o,x,a,C,h1,h2,h3⟩⟩,⟨Mu.le_refl _,by simp,Nat.le_refl _,fun b hb _=>heap_alloc_old _ _ hb,fun _ _ h=>h,fun _ _=>rfl,fun _ _=>rfl,fun _ _ h=>h,⟨rfl,rfl,rfl,fun _=>by first|exact Nat.le_refl _|exact Nat.le_add_right _ _|exact Nat.le_succ _⟩⟩,fun p y a C hy hm=>?_⟩
 ·obtain⟨b,a,C,h1,h2⟩:=r.bg p y hy
  exact⟨b,a,C,h1,h2.kept (heap_alloc_old _ _ h2.qW)⟩
 ·rw[x9 (heap_alloc_old _ _ (hblk p y b a C hy hm))]
  exact r.eI p y b a C hl hy hm off
 exact Nat.lt_irrefl _ (hblk p y _ a C hy hm)
theorem AW.rangeFunc (tag:Nat){g:Operand}{ps:Array Tmp}{assign body:Code}{f:FuncId}{first captured:Array Value}(hg:cP ts g=some (.func (.func f) first captured))(dR:∀as w,(callFunc f as).run P w=.ok (.enter f as) w)
  (hc:mG P lo f (first.toList++[.func (.yield h.next) #[] #[]]++captured.toList) (h.alloc (.loop ⟨ps,assign,body,ts,tag⟩ none)) fun _ h'=>
   ∃L jump,h'.get h.next=some (.loop L jump)∧match jump with
    |none=>Q .normal ts (h'.put h.next none)
    |some c=>AW P lo c Q ts (h'.put h.next none)):AW P lo (.rangeFunc g ps assign body) Q ts h:=by
 intro F hF n U a w ht r ro
 refine wpIn_rangeFunc fun fn Pf=>?_
 have enter:∃mark w' rec,(Instr.enterLoop fn a.tmps ps assign body F.round).run P w=.ok (w'.heap.size,mark) (w'.alloc (.loop rec))∧Rel U lo h w'∧Frame lo U h w U h w'∧ng w.heap.size U h w' mark∧
   rec.state=.ready∧rec.pending=none∧rec.params=ps∧rec.assign=assign∧rec.body=body∧rec.tmps=a.tmps:=by
  cases ox:F.round with
  |none=>
   obtain⟨k1,k2,k3⟩:=WM (.deferred (some [])) r
   refine⟨[{ target:=.collected w.heap.size,args:=#[] }],w.alloc (.deferred (some [])),{ state:=.ready,pending:=none,fn,tmps:=a.tmps,params:=ps,assign,body,defers:=w.heap.size },?_,k1,k2,
    ⟨⟨w.heap.size,rfl,Nat.le_refl _,by rw[heap_alloc];simp,k3,fun _ h=>(by cases h)⟩,trivial⟩,rfl,rfl,rfl,rfl,rfl,rfl⟩
   rw[run_enterLoop_outer,World.size_alloc]
  |some l0=>
   obtain⟨r0,h1,_⟩:=ro l0 ox
   refine⟨[],w,{ state:=.ready,pending:=none,fn,tmps:=a.tmps,params:=ps,assign,body,defers:=r0.defers },?_,r,Frame.refl _ _ _ _,trivial,rfl,rfl,rfl,rfl,rfl,rfl⟩
   simp only[Instr.enterLoop,Sem.run_bind,run_getLoop h1,Result.andThen_ok,Sem.run_pure,run_newObj_alloc]
 obtain⟨mark,w',rec,eR,r',f',Df,xg,fU,WN,WO,WQ,WR⟩:=enter
 have oT:fD (U.put h.next (w'.heap.size,0,0)) (w'.alloc (.loop rec)) w'.heap.size 0 0 (.loop ⟨ps,assign,body,ts,tag⟩ none):=
  ⟨rfl,rec,by rw[heap_alloc];simp,xg,fU,WN,WO,WQ,by rw[WR];exact ht.mono (r'.AX _)⟩
 obtain⟨r1,f1⟩:=Jv r' (.loop rec) 0 (.loop ⟨ps,assign,body,ts,tag⟩ none) oT (fun off=>by simp only[World.frozen?,heap_alloc];simp)
 have pK:=fE ht hg
 generalize ra:a.eval g=fv at pK
 cases pK with
 |func _ _ _ gI dy hx hy rx ry=>
  refine⟨w'.heap.size,mark,w'.alloc (.loop rec),{ target:=.fn (.func f) dy,args:=gI++#[.func (.yield w'.heap.size) #[] #[]] },w'.alloc (.loop rec),f,gI++#[.func (.yield w'.heap.size) #[] #[]]++dy,w'.alloc (.loop rec),eR,?_,fun f' _=>hF.fn f',by simp only[invoke];exact dR _ _,hF.one n,?_⟩
  ·have WS:Array.map a.eval #[Operand.const (.func (.yield w'.heap.size) #[] #[])]=#[.func (.yield w'.heap.size) #[] #[]]:=by simp[Act.eval]
   simp only[resolve,ra,Deferred.ofValue,Sem.run_pure,WS]
  have il:gx F.plain:=⟨hF.fn,hF.depth,hF.alive⟩
  have gJ:br (U.put h.next (w'.heap.size,0,0)) (first.toList++[Value.func (.yield h.next) #[] #[]]++captured.toList) (gI++#[Value.func (.yield w'.heap.size) #[] #[]]++dy).toList:=by
   simp only[Array.toList_append]
   exact(((p8.2 ⟨hx,rx⟩).mono (r'.AX _)).append (.cons (.j6 _ _ 0 (Mu.cz _ _ _)) (.nil _))).append ((p8.2 ⟨hy,ry⟩).mono (r'.AX _))
  have uR:CallsIn F (n - 1) P f (gI++#[.func (.yield w'.heap.size) #[] #[]]++dy) (w'.alloc (.loop rec)) _:=hc F.plain il rfl (n - 1) _ _ _ gJ r1
  refine uR.mono fun e w3 ⟨r2,v,h',aQ,e1,e2,r3,f3,L,jump,hj,hq⟩=>?_
  subst e1
  obtain⟨b,a',C',eu,o7⟩:=r3.bg h.next _ hj
  rw[f3.le _ _ (Mu.cz _ _ _)] at eu
  injection eu with eu;injection eu with k1 k2;injection k2 with k2 k3;subst k1;subst k2;subst k3
  obtain⟨_,BE,E6,KD,BF,_⟩:=o7
  have WT:BE.state≠.busy:=by rw[KD];cases jump<;>simp
  have hu:=O8 r3 r.bI hj (f3.le _ _ (Mu.cz _ _ _))
  have aY:=ah.fJ hj
  have E7:=r.bI
  have r4:=HM (.loop { BE with state:=.exhausted }) (r3.kill h.next aY) hu r'.jE.ks
  have f4:Frame lo U h w' aQ (h'.put h.next none) (w3.putObj w'.heap.size (.loop { BE with state:=.exhausted })):=
   HN _ ((f1.trans f3).kill h.next aY E7) (.inl (Nat.le_refl _))
  refine⟨jump,_,(run_endLoop E6 WT).trans (congrArg (fun j=>Result.ok j _) BF),?_⟩
  cases jump with
  |none=>exact⟨ts,_,aQ,mark,ht.mono f4.le,r4,f'.trans f4,rfl,Df.frame f4,hq⟩
  |some c=>
   have:=hq F hF n aQ { a with defers:=mark++a.defers } _ (ht.mono f4.le) r4 (ro.frame (f'.trans f4))
   exact wpIn_mono this fun _ _ _ hl=>hl.trans (f'.trans f4) (Df.frame f4)
theorem Ds {b:Go.Frame}{a:Act}{k:List Item}{cs:List Go.Frame}{w:World}{c:Code}:step P (lone (b.atR a (.code (.scope c)::k)) cs w)=.next (lone (b.atR a (.code c::.inScope c::k)) cs w):=
 step_lone_go (by simp[stepG,stepG.exec,Frame.atR])
theorem WU {b:Go.Frame}{a:Act}{k:List Item}{cs:List Go.Frame}{w:World}{c:Code}:step P (lone (b.atR a (.inScope c::k)) cs w)=.next (lone (b.atR a k) cs w):=
 step_lone_go (by simp[stepG,stepG.exec,Frame.atR])
theorem WV {F:Fence}{n:Nat}{c:Code}{Q:Exit→Act→World→Prop}{a:Act}{w:World}(h:c.wpIn F n P (Exit.noGoto Q) a w):(Code.scope c).wpIn F n P Q a w:=by
 intro b k cs ox hb hr
 have h0:(lone (b.atR a (.code (.scope c)::k)) cs w).fenced P F:=fenced_calm hb hr rfl
 obtain⟨e,u5,u6,hq,nI⟩:=h b (.inScope c::k) cs ox hb hr
 cases e with
 |normal=>exact⟨.normal,u5,u6,hq,.head h0 Ds (StepsIn.trans nI (.one (fenced_calm hb hr rfl) WU))⟩
 |exit id=>
  have hx:exitTo id (.inScope c::k)=exitTo id k:=by simp[exitTo]
  exact⟨_,u5,u6,hq,fun k' hk=>.head h0 Ds (nI.1 k' (by rw[hx];exact hk)),
   fun oQ hk=>let ⟨k₁,h1,h2⟩:=nI.2 oQ (by rw[hx];exact hk);⟨k₁,h1,.head h0 Ds h2⟩⟩
 |goto l=>exact hq.elim
 |ret=>exact⟨_,u5,u6,hq,.of_steps (.one h0 Ds) nI⟩
 |panic ch=>exact⟨_,u5,u6,hq,.of_steps (.one h0 Ds) nI⟩
 |outgrown=>exact⟨_,u5,u6,hq,.of_steps (.one h0 Ds) nI⟩
def WW (Q:kN):kN
 |.goto _,_,_=>False
 |e,ts,h=>Q e ts h
theorem AW.scope {c:Code}(hc:AW P lo c (WW Q) ts h):AW P lo (.scope c) Q ts h:=by
 intro F hF n U a w ht r ro
 refine WV (wpIn_mono (hc F hF n U a w ht r ro) fun e a' w' hl=>?_)
 cases e with
 |goto l=>obtain⟨_,_,_,_,_,_,_,_,_,h⟩:=hl;exact h.elim
 |normal=>exact hl
 |exit id=>exact hl
 |ret=>exact hl
 |panic ch=>exact hl
 |outgrown=>exact hl
end
structure Pg where
  call:FuncId→List Value→ah→Option (Value×ah)
  bw:Nat→List Value→ah→Option (Value×ah)
section
variable (P:Program) (lo:Nat) (WX:Pg) (n:Nat)
end
section
variable {P:Program} {lo:Nat} {WX:Pg} {n:Nat}
end
section
variable {P:Program} {lo:Nat}
end
section
variable {P:Program} {lo:Nat} {ts:aI} {h:ah}
end
section
variable {P:Program} {lo:Nat} {Q:kN} {ts:aI} {h:ah} {pv:Value}
end
section
variable {P:Program} {lo:Nat} {ts:aI} {h:ah}
end
end Go.Am
end
