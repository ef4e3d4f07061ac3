/-
 What is used in the proof of a statement (part Am2); no condition.
-/
import Derived.LoopNIn
import Derived.DefersIn
import Derived.RangeFuncLeaves
import Derived.RangeFuncRecord
import Derived.Scope
import Derived.RecoverIn
import Derived.Test.YthnmgbgmlhackaaGreatDoorAm1
set_option linter.all false
set_option maxHeartbeats 40000000
set_option maxRecDepth 100000
section
namespace Go.Am
variable [bF]
structure ir (F:Fence):Prop where
  fn:∀f,F.fn f
  depth:F.depth=none
  alive:F.alive=false
theorem ir.one {F:Fence}(h:ir F)(n:Nat):F.depth.isSome=true→1≤n:=fun hd=>by rw[h.depth] at hd;cases hd
theorem SB:ir Fence.wide:=⟨fun _=>trivial,rfl,rfl⟩
theorem ir.inRound {F:Fence}(h:ir F)(l:Nat):ir (F.inRound l):=⟨h.fn,h.depth,h.alive⟩
theorem ir.eq {F:Fence}(h:ir F)(hr:F.round=none):F=Fence.wide:=by
 obtain⟨fn,depth,alive,round⟩:=F
 obtain⟨h1,h2,h3⟩:=h
 simp only at h1 h2 h3 hr
 subst h2;subst h3;subst hr
 have:fn=fun _=>True:=funext fun f=>propext ⟨fun _=>trivial,fun _=>h1 f⟩
 subst this
 rfl
abbrev lW:=Exit→aL→ah→Prop
def gj (lo:Nat)(U:Mu)(h:ah)(w:World)(ds:List Deferred)(Q:lW)(e:Exit)(a':Act)(w':World):Prop:=
 ∃bf h' aS,dA aS bf a'.tmps∧Rel aS lo h' w'∧Frame lo U h w aS h' w'∧a'.defers=ds∧Q e bf h'
theorem gj.trans {lo:Nat}{U oO:Mu}{h h1:ah}{w w1:World}{ds:List Deferred}{Q:lW}{e:Exit}{a':Act}{w':World}(f:Frame lo U h w oO h1 w1)(l:gj lo oO h1 w1 ds Q e a' w'):gj lo U h w ds Q e a' w':=
 let ⟨bf,h',aS,h2,h3,h4,h5,h6⟩:=l
 ⟨bf,h',aS,h2,h3,f.trans h4,h5,h6⟩
theorem gj.mono {lo:Nat}{U:Mu}{h:ah}{w:World}{ds:List Deferred}{Q Q':lW}{e e':Exit}{a':Act}{w':World}(l:gj lo U h w ds Q e a' w')(hq:∀ts h,Q e ts h→Q' e' ts h):gj lo U h w ds Q' e' a' w':=
 let ⟨bf,h',aS,h2,h3,h4,h5,h6⟩:=l
 ⟨bf,h',aS,h2,h3,h4,h5,hq _ _ h6⟩
def w9 (U:Mu)(h:ah)(b:Nat):Prop:=∀o x a C,h.get o=some x→U o=some (b,a,C)→False
theorem w9.own {U:Mu}{lo:Nat}{h:ah}{b:Nat}(u:w9 U h b):¬Aj U lo h b:=fun⟨o,x,a,C,_,h2,h3⟩=>u o x a C h2 h3
theorem w9.frame {lo:Nat}{U aS:Mu}{h h':ah}{w w':World}{b:Nat}(u:w9 U h b)(hb:b<w.heap.size)(f:Frame lo U h w aS h' w'):w9 aS h' b:=by
 intro o x a C hx hm
 by_cases hl:lo≤o
 ·exact u.own (f.own b hb ⟨o,x,a,C,hl,hx,hm⟩)
 rw[f.low o (by omega)] at hx
 rw[f.gV o (ah.gx hx)] at hm
 exact u o x a C hx hm
def Dw (F:Fence)(U:Mu)(h:ah)(w:World):Prop:=∀l,F.round=some l→∃r:Loop,w.heap[l]?=some (.loop r)∧w9 U h l
theorem Dx {w:World}{b:Nat}{o:Obj}(h:w.heap[b]?=some o):b<w.heap.size:=by
 rcases Nat.lt_or_ge b w.heap.size with h'|h'
 ·exact h'
 rw[Array.getElem?_eq_none h'] at h;cases h
theorem Dw.frame {F:Fence}{lo:Nat}{U aS:Mu}{h h':ah}{w w':World}(r:Dw F U h w)(f:Frame lo U h w aS h' w'):Dw F aS h' w':=fun l hl=>by
 obtain⟨rec,h1,h2⟩:=r l hl
 have hb:=Dx h1
 exact⟨rec,by rw[f.kept l hb h2.own];exact h1,h2.frame hb f⟩
theorem Dw.none {F:Fence}{U:Mu}{h:ah}{w:World}(hF:F.round=none):Dw F U h w:=fun l hl=>by rw[hF] at hl;cases hl
def oU (B:Nat)(U:Mu)(h:ah)(w:World):List Deferred→Prop
 |[]=>True
 |d::ds=>(∃r,d={ target:=.collected r,args:=#[] }∧B≤r∧w.heap[r]?=some (.deferred (some []))∧w9 U h r∧∀d'∈ds,d'≠d)∧oU B U h w ds
theorem oU.frame {B lo:Nat}{U aS:Mu}{h h':ah}{w w':World}(f:Frame lo U h w aS h' w'):∀ {ds:List Deferred},oU B U h w ds→oU B aS h' w' ds
 |[],_=>trivial
 |_::_,⟨⟨r,h1,h2,h3,h4,h5⟩,hr⟩=>
  have hb:=Dx h3
  ⟨⟨r,h1,h2,by rw[f.kept r hb h4.own];exact h3,h4.frame hb f,h5⟩,hr.frame f⟩
theorem oU.lt {B:Nat}{U:Mu}{h:ah}{w:World}:∀ {ds:List Deferred},oU B U h w ds→∀d∈ds,∃r,d={ target:=.collected r,args:=#[] }∧B≤r∧r<w.heap.size
 |[],_,d,hd=>by cases hd
 |_::_,⟨⟨r,h1,h2,h3,_⟩,hr⟩,d,hd=>by
  rcases List.mem_cons.1 hd with rfl|hd
  ·exact⟨r,h1,h2,Dx h3⟩
  exact hr.lt d hd
theorem oU.append {B B':Nat}{U:Mu}{h:ah}{w:World}(hB:B≤B'){ds:List Deferred}(h2:oU B U h w ds)(aP:∀d∈ds,∃r,d={ target:=.collected r,args:=#[] }∧r<B') :
  ∀ {SC:List Deferred},oU B' U h w SC→oU B U h w (SC++ds)
 |[],_=>h2
 | _ :: _, ⟨⟨r, h3, h4, h5, h6, h7⟩, hr⟩ => ⟨⟨r, h3, by omega, h5, h6, fun d' vT => by
   rcases List.mem_append.1 vT with h|h
   ·exact h7 d' h
   obtain⟨r',h8,h9⟩:=aP d' h
   rintro rfl
   rw[h3] at h8
   injection h8 with h8 _;injection h8 with h8
   omega⟩,oU.append hB h2 aP hr⟩
def LiftM (lo:Nat)(U:Mu)(h:ah)(w:World)(ds:List Deferred)(Q:lW)(e:Exit)(a':Act)(w':World):Prop:=
 ∃bf h' aS ms,dA aS bf a'.tmps∧Rel aS lo h' w'∧Frame lo U h w aS h' w'∧a'.defers=ms++ds∧oU w.heap.size aS h' w' ms∧Q e bf h'
theorem gj.FB {lo:Nat}{U:Mu}{h:ah}{w:World}{ds:List Deferred}{Q:lW}{e:Exit}{a':Act}{w':World}(l:gj lo U h w ds Q e a' w'):LiftM lo U h w ds Q e a' w':=
 let ⟨bf,h',aS,h2,h3,h4,h5,h6⟩:=l
 ⟨bf,h',aS,[],h2,h3,h4,h5,trivial,h6⟩
theorem LiftM.trans {lo:Nat}{U oO:Mu}{h h1:ah}{w w1:World}{ds ms:List Deferred}{Q:lW}{e:Exit}{a':Act}{w':World}(f:Frame lo U h w oO h1 w1)(hm:oU w.heap.size oO h1 w1 ms)
  (l:LiftM lo oO h1 w1 (ms++ds) Q e a' w'):LiftM lo U h w ds Q e a' w':=by
 obtain⟨bf,h',aS,Nl,h2,h3,h4,h5,h6,h7⟩:=l
 refine⟨bf,h',aS,Nl++ms,h2,h3,f.trans h4,by rw[h5,List.append_assoc],oU.append f.size (hm.frame h4) (fun d hd=>?_) h6,h7⟩
 obtain⟨r,h8,_,h9⟩:=hm.lt d hd
 exact⟨r,h8,h9⟩
theorem LiftM.mono {lo:Nat}{U:Mu}{h:ah}{w:World}{ds:List Deferred}{Q Q':lW}{e e':Exit}{a':Act}{w':World}(l:LiftM lo U h w ds Q e a' w')(hq:∀ts h,Q e ts h→Q' e' ts h):LiftM lo U h w ds Q' e' a' w':=
 let ⟨bf,h',aS,ms,h2,h3,h4,h5,h6,h7⟩:=l
 ⟨bf,h',aS,ms,h2,h3,h4,h5,h6,hq _ _ h7⟩
def AW (P:Program)(lo:Nat)(c:Code)(Q:lW)(ts:aL)(h:ah):Prop:=
 ∀F,ir F→∀n U a w,dA U ts a.tmps→Rel U lo h w→Dw F U h w→c.wpIn F n P (LiftM lo U h w a.defers Q) a w
def nU (P:Program)(lo:Nat)(f:FuncId)(args:List Value)(h:ah)(R:Value→ah→Prop):Prop:=
 ∀F,ir F→F.round=none→∀n U w ba,bA U args ba.toList→Rel U lo h w→
  CallsIn F n P f ba w fun e w'=>∃r v h' aS,e=.returned v∧ak aS r v∧Rel aS lo h' w'∧Frame lo U h w aS h' w'∧R r h'
def rj (P:Program)(lo:Nat)(o:Oper)(ts:aL)(h:ah)(next:aL→ah→Prop):Prop:=
 ∀F,ir F→∀n U a w Q,dA U ts a.tmps→Rel U lo h w→o.wpIn F n P a w (gj lo U h w a.defers (fun _=>next) .normal) Q
section
variable {P:Program} {lo:Nat} {Q Q':lW} {ts:aL} {h:ah}
theorem AW.mono {c:Code}(hc:AW P lo c Q ts h)(hq:∀e ts h,Q e ts h→Q' e ts h):AW P lo c Q' ts h:=
 fun F hF n U a w ht r ro=>wpIn_mono (hc F hF n U a w ht r ro) fun _ _ _ hl=>hl.mono (hq _)
theorem nU.mono {f:FuncId}{args:List Value}{R R':Value→ah→Prop}(hc:nU P lo f args h R)(hr:∀r h,R r h→R' r h):nU P lo f args h R':=
 fun F hF qC n U w ba ha r=>(hc F hF qC n U w ba ha r).mono fun _ _ ⟨r,v,h',aS,h1,h2,h3,h4,h5⟩=>⟨r,v,h',aS,h1,h2,h3,h4,hr _ _ h5⟩
theorem rj.mono {o:Oper}{next next':aL→ah→Prop}(hc:rj P lo o ts h next)(hn:∀ts h,next ts h→next' ts h):rj P lo o ts h next':=
 fun F hF n U a w Q ht r=>Oper.wpIn_mono (fun _ _ hl=>hl.mono hn) (hc F hF n U a w Q ht r)
theorem gj.refl {U:Mu}{a:Act}{w:World}{e:Exit}(ht:dA U ts a.tmps)(r:Rel U lo h w)(hq:Q e ts h):gj lo U h w a.defers Q e a w:=
 ⟨ts,h,U,ht,r,Frame.refl _ _ _ _,rfl,hq⟩
theorem AW.skip (hq:Q .normal ts h):AW P lo .skip Q ts h:=fun _ _ _ _ _ _ ht r _=>wpIn_skip (gj.refl ht r hq).FB
theorem AW.label {l:Nat}(hq:Q .normal ts h):AW P lo (.label l) Q ts h:=fun _ _ _ _ _ _ ht r _=>wpIn_label (gj.refl ht r hq).FB
theorem AW.exit {id:Nat}(hq:Q (.exit id) ts h):AW P lo (.exit id) Q ts h:=fun _ _ _ _ _ _ ht r _=>wpIn_exit (gj.refl ht r hq).FB
theorem AW.ret (hq:Q .ret ts h):AW P lo .ret Q ts h:=fun _ _ _ _ _ _ ht r _=>wpIn_ret (gj.refl ht r hq).FB
def Kz (next:aL→ah→Prop)(Q:lW):lW
 |.normal=>next
 |e=>Q e
theorem AW.seq {x y:Code}(hx:AW P lo x (Kz (AW P lo y Q) Q) ts h):AW P lo (.seq x y) Q ts h:=by
 intro F hF n U a w ht r ro
 refine wpIn_seq (wpIn_mono (hx F hF n U a w ht r ro) fun e a' w' hl=>?_)
 obtain⟨bf,h',aS,ms,h2,h3,h4,h5,h6,h7⟩:=hl
 cases e with
 |normal=>
  have:=h7 F hF n aS a' w' h2 h3 (ro.frame h4)
  rw[h5] at this
  exact wpIn_mono this fun _ _ _ hl=>hl.trans h4 h6
 |exit id=>exact⟨bf,h',aS,ms,h2,h3,h4,h5,h6,h7⟩
 |goto l=>exact⟨bf,h',aS,ms,h2,h3,h4,h5,h6,h7⟩
 |ret=>exact⟨bf,h',aS,ms,h2,h3,h4,h5,h6,h7⟩
 |panic ch=>exact⟨bf,h',aS,ms,h2,h3,h4,h5,h6,h7⟩
 |outgrown=>exact⟨bf,h',aS,ms,h2,h3,h4,h5,h6,h7⟩
theorem AW.cond {c:Operand}{x y:Code}{b:Bool}(hc:cX ts c=some (.bool b))(hb:AW P lo (if b then x else y) Q ts h):AW P lo (.cond c x y) Q ts h:=by
 intro F hF n U a w ht r ro
 have hr:=gf ht hc
 generalize he:a.eval c=v at hr
 cases hr
 exact wpIn_cond he (hb F hF n U a w ht r ro)
def KA (id:Nat)(Q:lW):lW
 |.exit AI=>if AI=id then Q .normal else Q (.exit AI)
 |e=>Q e
theorem AW.block {id:Nat}{c:Code}(hc:AW P lo c (KA id Q) ts h):AW P lo (.block id c) Q ts h:=by
 intro F hF n U a w ht r ro
 refine wpIn_block (wpIn_mono (hc F hF n U a w ht r ro) fun e a' w' hl=>?_)
 obtain⟨bf,h',aS,ms,h2,h3,h4,h5,h6,h7⟩:=hl
 cases e with
 |normal=>exact⟨bf,h',aS,ms,h2,h3,h4,h5,h6,h7⟩
 |exit AI=>
  simp only[Exit.inBlock]
  by_cases hi:AI=id
  ·simp only[KA,hi,if_true] at h7 ⊢;exact⟨bf,h',aS,ms,h2,h3,h4,h5,h6,h7⟩
  simp only[KA,hi,if_false] at h7 ⊢;exact⟨bf,h',aS,ms,h2,h3,h4,h5,h6,h7⟩
 |goto l=>exact⟨bf,h',aS,ms,h2,h3,h4,h5,h6,h7⟩
 |ret=>exact⟨bf,h',aS,ms,h2,h3,h4,h5,h6,h7⟩
 |panic ch=>exact⟨bf,h',aS,ms,h2,h3,h4,h5,h6,h7⟩
 |outgrown=>exact⟨bf,h',aS,ms,h2,h3,h4,h5,h6,h7⟩
def AJ (P:Program)(lo:Nat)(c:Code)(Q:lW):Nat→aL→ah→Prop
 |0,_,_=>False
 |m+1,ts,h=>AW P lo c (Kz (AJ P lo c Q m) Q) ts h
theorem AJ.mono {c:Code}:∀ {m m':Nat} {ts:aL} {h:ah},m≤m'→AJ P lo c Q m ts h→AJ P lo c Q m' ts h
 |0,_,_,_,_,hr=>hr.elim
 |m+1,0,_,_,hle,_=>by omega
 |m+1,m'+1,ts,h,hle,hr=>AW.mono hr fun e ts h hq=>by
  cases e with
  |normal=>exact AJ.mono (Nat.le_of_succ_le_succ hle) hq
  |_=>exact hq
theorem SD {c:Code}{F:Fence}(hF:ir F){n:Nat}:∀(m:Nat) (ts:aL) (h:ah) (jG:Mu) (h0:ah) (w0:World) (ds ms:List Deferred) (U:Mu) (a:Act) (w:World),dA U ts a.tmps→Rel U lo h w→Dw F jG h0 w0→Frame lo jG h0 w0 U h w→
  a.defers=ms++ds→oU w0.heap.size U h w ms→AJ P lo c Q m ts h→Code.roundsIn F n P c (LiftM lo jG h0 w0 ds Q) m a w
 |0,_,_,_,_,_,_,_,_,_,_,_,_,_,_,_,_,hr=>hr.elim
 |m+1,ts,h,jG,h0,w0,ds,ms,U,a,w,ht,r,ro,f,hd,hm,hr=>by
  refine wpIn_mono (hr F hF n U a w ht r (ro.frame f)) fun e a' w' hl=>?_
  rw[hd] at hl
  have mq:=hl.trans f hm
  cases e with
  |normal=>
   obtain⟨bf,h',aS,Nl,h2,h3,h4,h5,h6,h7⟩:=mq
   exact SD (n:=n) hF m bf h' jG h0 w0 ds Nl aS a' w' h2 h3 ro h4 h5 h6 h7
  |exit id=>exact mq
  |goto l=>exact mq
  |ret=>exact mq
  |panic ch=>exact mq
  |outgrown=>exact mq
theorem AW.zst {c:Code}(m:Nat)(hr:AJ P lo c Q m ts h):AW P lo (.loop c) Q ts h:=
 fun _ hF _ U a w ht r ro=>wpIn_loop_rounds m (SD hF m ts h U h w a.defers [] U a w ht r ro (Frame.refl _ _ _ _) rfl trivial hr)
theorem AW.loop {c:Code}(I:Nat→aL→ah→Prop)(m:Nat)(h0:I m ts h)(round:∀m ts h,I m ts h→AW P lo c (Kz (fun bf h'=>∃m',m'<m∧I m' bf h') Q) ts h):AW P lo (.loop c) Q ts h:=by
 have key:∀(m:Nat) (ts:aL) (h:ah),I m ts h→AJ P lo c Q (m+1) ts h:=by
  intro m
  induction m using Nat.strongRecOn with
  |_ m ih=>
   intro ts h hI
   refine AW.mono (round m ts h hI) fun e bf h' hq=>?_
   cases e with
   |normal=>
    obtain⟨m',aP,hI'⟩:=hq
    exact AJ.mono (by omega) (ih m' aP bf h' hI')
   |_=>exact hq
 exact .zst (m+1) (key m ts h h0)
def bE (ts:aL)(dst:Option Tmp)(v:Value):aL:=
 match dst with
 |some d=>ts.set d v
 |none=>ts
theorem Dy {U:Mu}{a:Act}{v v':Value}(ht:dA U ts a.tmps)(hv:ak U v v')(dst:Option Tmp):dA U (bE ts dst v) (a.put dst v').tmps:=by
 cases dst with
 |none=>exact ht
 |some d=>
  have:=bA.set d ht hv
  simpa[dA,bE,Act.put] using this
theorem put_defers (a:Act)(dst:Option Tmp)(v:Value):(a.put dst v).defers=a.defers:=by cases dst<;>rfl
theorem Dz {o:Oper}{w:World}{ρ:Operand→Value}(F:Fence)(hF:ir F):∀f,o.about P w ρ=some f→F.fn f:=fun f _=>hF.fn f
theorem rj.op {o:Oper}{v:Value}{h':ah}{next:aL→ah→Prop}(ha:cu P lo ts h o.op=some (v,h'))(hn:next (bE ts o.dst v) h'):rj P lo o ts h next:=by
 intro F hF n U a w Q ht r
 refine⟨Dz F hF,?_⟩
 have Nn:∀c,o.op≠.defer c:=fun c hc=>by rw[hc] at ha;simp[cu] at ha
 rw[Oper.semAt_eq _ _ _ Nn]
 obtain⟨nx,v',w',aS,h1,h2,h3,h4,h5⟩:=xed (P:=P) r ht ha
 rw[h1]
 have hl:gj lo U h w a.defers (fun _=>next) .normal (a.put o.dst v') w':=
  ⟨_,h',aS,Dy (ht.mono h5.le) h3 o.dst,h4,h5,put_defers _ _ _,hn⟩
 rcases h2 with rfl|⟨rfl,rfl⟩
 ·exact hl
 exact hl
theorem rj.call {o:Oper}{fo:Operand}{args:Array Operand}{aT:Array TypeId}{f:FuncId}{first captured:Array Value}{l:List Value}{next:aL→ah→Prop}(ho:o.op=.call ⟨.value fo,args,aT⟩)
  (hf:cX ts fo=some (.func (.func f) first captured)) (hl:pM ts args.toList=some l) (dM:∀as w,(callFunc f as).run P w=.ok (.enter f as) w)
  (hc:∀F,ir F→F.round=none→∀n U w ba,bA U (first.toList++l++captured.toList) ba.toList→Rel U lo h w→
   CallsIn F n P f ba w fun e w'=>∃r v h' aS,e=.returned v∧ak aS r v∧Rel aS lo h' w'∧Frame lo U h w aS h' w'∧next (bE ts o.dst r) h'):rj P lo o ts h next:=by
 intro F hF n U a w Q ht r
 refine⟨Dz F hF,?_⟩
 rw[Oper.semAt_eq _ _ _ (fun c hc=>by rw[ho] at hc;cases hc)]
 have sx:=gf ht hf
 generalize ug:a.eval fo=fv at sx
 cases sx with
 |func _ _ _ iM dN hx hy rx ry=>
  have fm:(execOp a.eval o).run P w=.ok (.enter f (iM++args.map a.eval++dN)) w:=by
   simp only[execOp,ho,resolve,ug,Deferred.ofValue,Sem.run_bind,Sem.run_pure,Result.andThen_ok,invoke,dM]
  rw[fm]
  refine⟨hF.one n,?_⟩
  have iN:bA U (first.toList++l++captured.toList) (iM++args.map a.eval++dN).toList:=by
   simp only[Array.toList_append,Array.toList_map]
   exact((sV.2 ⟨hx,rx⟩).append (Fy ht hl)).append (sV.2 ⟨hy,ry⟩)
  have jh:ir F.plain:=⟨hF.fn,hF.depth,hF.alive⟩
  have xc:CallsIn F (n - 1) P f (iM++args.map a.eval++dN) w _:=hc F.plain jh rfl (n - 1) U w _ iN r
  refine xc.mono fun e w' ⟨r',v,h',aS,h1,h2,h3,h4,h5⟩=>?_
  subst h1
  exact⟨_,h',aS,Dy (ht.mono h4.le) h2 o.dst,h3,h4,put_defers _ _ _,h5⟩
theorem rj.No {o:Oper}{fo:Operand}{args:Array Operand}{aT:Array TypeId}{f:FuncId}{first captured:Array Value}{l:List Value}{next:aL→ah→Prop}(ho:o.op=.call ⟨.value fo,args,aT⟩)
  (hf:cX ts fo=some (.func (.func f) first captured)) (hl:pM ts args.toList=some l) (dM:∀as w,(callFunc f as).run P w=.ok (.enter f as) w)
  (hc:nU P lo f (first.toList++l++captured.toList) h fun r h'=>next (bE ts o.dst r) h'):rj P lo o ts h next:=
 .call ho hf hl dM hc
def nD (ops:Array Oper)(ts:aL)(j:Nat):Option Bool:=
 match ((ops[j]?).bind (·.dst)).bind (ts[·]?) with
 |some (.bool b)=>some b
 |_=>none
theorem SE {U:Mu}{a:Act}{ops:Array Oper}(ht:dA U ts a.tmps)(j:Nat):yielded ops a.tmps j=nD ops ts j:=by
 unfold yielded nD
 cases hd:(ops[j]?).bind (·.dst) with
 |none=>rfl
 |some d=>
  simp only[Option.bind_some]
  cases pN:ts[d]? with
  |none=>
   have:a.tmps[d]?=none:=by
    rw[Array.getElem?_eq_none]
    have:=ht.1
    rw[List.getElem?_eq_none_iff] at pN
    simp at this;omega
   rw[this]
  |some v=>
   obtain⟨v',h1,h2⟩:=ht.2 d v pN
   have pG:a.tmps[d]?=some v':=by simpa using h1
   rw[pG]
   cases h2<;>rfl
def rl (P:Program)(lo:Nat)(ops:Array Oper)(K:aL→ah→Prop):List Nat→aL→ah→Prop
 |[],ts,h=>K ts h
 |i::rest,ts,h=>
  match ops[i]? with
  |none=>rl P lo ops K rest ts h
  |some o=>if Region.wanted o (nD ops ts) then rj P lo o ts h (rl P lo ops K rest) else rl P lo ops K rest (bE ts o.dst Go.undef) h
theorem KB {ops:Array Oper}{F:Fence}(hF:ir F){n:Nat}:∀(l:List Nat) (ts:aL) (h:ah) (jG:Mu) (h0:ah) (w0:World) (U:Mu) (a:Act) (w:World),dA U ts a.tmps→Rel U lo h w→Frame lo jG h0 w0 U h w→
  rl P lo ops (Q .normal) l ts h→wpOpsIn F n P ops (gj lo jG h0 w0 a.defers Q) l a w
 |[],ts,h,jG,h0,w0,U,a,w,ht,r,f,hk=>⟨ts,h,U,ht,r,f,rfl,hk⟩
 |i::rest,ts,h,jG,h0,w0,U,a,w,ht,r,f,hk=>by
  simp only[rl] at hk
  simp only[wpOpsIn]
  cases ho:ops[i]? with
  |none=>simp only[ho] at hk ⊢;exact KB hF rest ts h jG h0 w0 U a w ht r f hk
  |some o=>
   simp only[ho] at hk ⊢
   have hy:yielded ops a.tmps=nD ops ts:=funext (SE ht)
   rw[hy]
   by_cases hw:Region.wanted o (nD ops ts)=true
   ·simp only[hw,if_true] at hk ⊢
    refine Oper.wpIn_mono (fun a' w' hl=>?_) (hk F hF n U a w _ ht r)
    obtain⟨bf,h',aS,h2,h3,h4,h5,h6⟩:=hl.trans f
    have:=KB (n:=n) hF rest bf h' jG h0 w0 aS a' w' h2 h3 h4 h6
    rw[h5] at this
    exact this
   simp only[hw,if_false,Bool.false_eq_true] at hk ⊢
   refine⟨Dz F hF,?_⟩
   have:=KB (n:=n) hF rest (bE ts o.dst Go.undef) h jG h0 w0 U (a.put o.dst Go.undef) w (Dy ht .undef o.dst) r f hk
   rw[put_defers] at this
   exact this
theorem AW.region {id:Nat}{ops:Array Oper}(hk:rl P lo ops (Q .normal) (List.range ops.size) ts h):AW P lo (.region id ops false) Q ts h:=
 fun _ hF _ U a w ht r _=>wpIn_mono (wpIn_region (KB hF _ ts h U h w U a w ht r (Frame.refl _ _ _ _) hk)) fun _ _ _ hl=>hl.FB
def G9 (P:Program)(ts:aL)(h:ah):ResultVar→Option Value
 |.tmp t=>some (ts.getD t Go.undef)
 |.cell a t=>uI P h t (ts.getD a Go.undef)
def uO (P:Program)(ts:aL)(h:ah):List ResultVar→Option (List Value)
 |[]=>some []
 |x::r=>match G9 P ts h x,uO P ts h r with
  |some v,some l=>some (v::l)
  |_,_=>none
def Ce (l:List Value):Value:=
 match l with
 |[v]=>v
 |l=>.tuple l.toArray
def Ha (tmps:Array Value):ResultVar→Sem Value
 |.tmp t=>pure (tmps.getD t Go.undef)
 |.cell c t=>asAddr (tmps.getD c Go.undef) >>= fun ad=>loadVar t ad
theorem zw4 (fn:Func)(tmps:Array Value):results fn tmps=(fn.results.mapM (Ha tmps) >>= fun vs=>pure (if h:vs.size=1 then vs[0] else .tuple vs)):=by
 unfold results
 congr 1
theorem SF {U:Mu}{a:Act}{w:World}(ht:dA U ts a.tmps)(r:Rel U lo h w):∀ {rs:List ResultVar} {l:List Value},uO P ts h rs=some l→
  ∃l',(rs.mapM (Ha a.tmps)).run P w=.ok l' w∧bA U l l'
 |[],l,hl=>by simp only[uO,ax] at hl;subst hl;exact⟨[],rfl,bA.nil U⟩
 |x::rs,l,hl=>by
  simp only[uO] at hl
  split at hl
  ·rename_i v l1 h1 h2
   simp only[ax] at hl;subst hl
   obtain⟨l',g1,g2⟩:=SF ht r h2
   cases x with
   |tmp t=>
    simp only[G9,ax] at h1;subst h1
    exact⟨_::l',by simp only[List.mapM_cons,Ha,Sem.run_bind,Sem.run_pure,Result.andThen_ok,g1],.cons (ht.getD t) g2⟩
   |cell c t=>
    simp only[G9] at h1
    obtain⟨v',w',aS,e1,e2,e3,e4⟩:=MU (P:=P) r (ht.getD c) h1
    have vS:=ht.getD c
    generalize ja:a.tmps.getD c Go.undef=cv at vS e1
    have Np:=h1
    unfold uI at Np
    split at Np
    ·rename_i o off heq
     rw[heq] at vS
     cases vS with
     |ptr _ _ b a0 C hm=>
      simp only[Instr.loadAt,Instr.sureAddr,Sem.run_bind,Sem.run_pure,Result.andThen_ok] at e1
      have ho:=MU (P:=P) r (ak.ptr o off b a0 C hm) (heq▸h1)
      obtain⟨v2,w2,B1,q1,q2,q3,q4⟩:=ho
      have eK:∃v3,(loadVar t ⟨b,a0+off,none⟩).run P w=.ok v3 w∧ak U v v3:=by
       rw[heq] at h1
       unfold uI at h1
       simp only at h1
       split at h1
       ·rename_i s cs hx
        have rb:=oP r hx hm
        split at h1
        ·rename_i hg
         split at h1
         ·rename_i nn hn
          cases hle:Nat.ble (off+nn) cs.length with
          |false=>simp[hle] at h1
          |true=>
           simp only[hle,aO,ax] at h1;subst h1
           obtain⟨ar,k1,k2,k3⟩:=Kf rb off nn (by simpa using hle)
           have hl:=run_loadCells_list (P:=P) w _ ar k3
           rw[k2] at hl
           exact⟨.agg ar.toArray,by simp[loadVar,Fk hg,nR hn,hl],.lO k1⟩
         simp at h1
        ·rename_i hg
         obtain⟨v',k1,k2⟩:=rb.2.1 off v h1
         exact⟨v',by simp[loadVar,Fk hg,k1],k2⟩
        simp at h1
       simp at h1
      obtain⟨v3,k1,k2⟩:=eK
      have hA:asAddr (.pointer (some ⟨b,a0+off,none⟩))=(pure ⟨b,a0+off,none⟩:Sem Addr):=rfl
      exact⟨v3::l',by simp only[List.mapM_cons,Ha,Sem.run_bind,ja,hA,Sem.run_pure,Result.andThen_ok,k1,g1],.cons k2 g2⟩
    simp at Np
  simp at hl
theorem zxd {U:Mu}{a:Act}{w:World}{fn:Func}{l:List Value}(ht:dA U ts a.tmps)(r:Rel U lo h w)(hl:uO P ts h fn.results.toList=some l) :
  ∃v,(results fn a.tmps).run P w=.ok v w∧ak U (Ce l) v:=by
 obtain⟨l',h1,h2⟩:=SF (P:=P) ht r hl
 have he:(fn.results.mapM (Ha a.tmps)).run P w=.ok l'.toArray w:=by
  rw[Array.mapM_eq_mapM_toList,Sem.run_map,h1,Result.andThen_ok]
 have fm:(results fn a.tmps).run P w=.ok (if hs:l'.toArray.size=1 then l'.toArray[0] else .tuple l'.toArray) w:=by
  rw[zw4,Sem.run_bind,he,Result.andThen_ok,Sem.run_pure]
 refine⟨_,fm,?_⟩
 cases l with
 |nil=>have:=h2.jM;subst this;exact .tuple #[] #[] rfl (fun i h=>by simp at h)
 |cons v1 r1=>
  obtain⟨v1',r1',rfl,hv,hr⟩:=h2.dE
  cases r1 with
  |nil=>have:=hr.jM;subst this;simpa[Ce] using hv
  |cons v2 r2=>
   obtain⟨v2',r2',rfl,eN,jQ⟩:=hr.dE
   simpa[Ce] using ak.sW h2
def Nq (P:Program)(fn:Func)(R:Value→ah→Prop):lW
 |.normal,ts,h=>∃l,uO P ts h fn.results.toList=some l∧R (Ce l) h
 |.ret,ts,h=>∃l,uO P ts h fn.results.toList=some l∧R (Ce l) h
 |_,_,_=>False
theorem KC {U:Mu}{w:World}{b:Nat}(o:Obj)(r:Rel U lo h w)(u:w9 U h b)(hb:bF.K≤b):Rel U lo h (w.putObj b o):=by
 have hk:∀o' x b' a C,h.get o'=some x→U o'=some (b',a,C)→(w.putObj b o).heap[b']?=w.heap[b']?:=fun o' x b' a C hx hm=>
  World.putObj_heap_other (by rintro rfl;exact u o' x a C hx hm)
 refine⟨fun o' x hx=>?_,r.inj,r.pF,fun o' x b' a C hl hx hm off=>?_,r.bO,⟨fun b' qY=>by rw[World.putObj_heap_other (by omega)];exact r.kq.gl b' qY,by rw[World.putObj_size];exact r.kq.ks,r.kq.hi⟩⟩
 ·obtain⟨b',a,C,h1,h2⟩:=r.bq o' x hx
  exact⟨b',a,C,h1,h2.kept (hk o' x b' a C hx h1)⟩
 rw[Ak (hk o' x b' a C hx hm)]
 exact r.eY o' x b' a C hl hx hm off
theorem KD {U aS:Mu}{h':ah}{w w':World}{b:Nat}(o:Obj)(f:Frame lo U h w aS h' w')(hb:w.heap.size≤b∨Aj U lo h b):Frame lo U h w aS h' (w'.putObj b o):=
 ⟨f.le,by rw[World.putObj_size];exact f.size,f.next,fun b' qY hn=>by
  rw[World.putObj_heap_other (by rintro rfl;exact hb.elim (fun h=>absurd qY (by omega)) hn)]
  exact f.kept b' qY hn,f.own,f.low,f.gV,f.born,⟨f.calm.1,f.calm.2,f.calm.3,f.calm.4⟩⟩
theorem oU.putObj {B:Nat}{U:Mu}{w:World}{b:Nat}(o:Obj):∀ {ds:List Deferred},(∀d∈ds,d≠{ target:=.collected b,args:=#[] })→oU B U h w ds→oU B U h (w.putObj b o) ds
 |[],_,_=>trivial
 | d :: ds, hd, ⟨⟨r, h1, h2, h3, h4, h5⟩, hr⟩ => ⟨⟨r, h1, h2, by
  rw[World.putObj_heap_other (by rintro rfl;exact hd d (by simp) h1)];exact h3,h4,h5⟩,hr.putObj o (fun d' vT=>hd d' (List.mem_cons_of_mem _ vT))⟩
theorem SG {F:Fence}{n:Nat}{fn:Func}{jG U:Mu}{h0:ah}{w0:World}{tmps:Array Value}{R:Ending→World→Prop}(hK:bF.K≤w0.heap.size):∀(ms:List Deferred) (w:World),oU w0.heap.size U h w ms→Rel U lo h w→Frame lo jG h0 w0 U h w→
  (∀w',Rel U lo h w'→Frame lo jG h0 w0 U h w'→∃v,(results fn tmps).run P w'=.ok v w'∧R (.returned v) w')→LeavesInM F n P fn tmps R ms .returning w
 |[],w,_,r,f,hf=>hf w r f
 |d::ds,w,⟨⟨b,h1,h2,h3,h4,h5⟩,hr⟩,r,f,hf=>by
  refine⟨by simp,.inl ⟨b,w.putObj b (.deferred none),by rw[h1],run_takeDeferred h3,?_⟩⟩
  exact SG hK ds _ (hr.putObj _ (fun d' vT=>by rw[← h1];exact h5 d' vT)) (KC _ r h4 (Nat.le_trans hK h2)) (KD _ f (.inl h2)) hf
theorem nU.bT {f:FuncId}{fn:Func}{c:Code}{args:List Value}{R:Value→ah→Prop}(hf:P.funcs[f]?=some fn)(hb:fn.body=some c)
  (hc:AW P lo c (Nq P fn R) (args++List.replicate (fn.ntmps - args.length) Go.undef) h):nU P lo f args h R:=by
 intro F hF qC n U w ba ha r
 have hlen:ba.size=args.length:=by have:=ha.1;simp at this;omega
 have ht:dA U (args++List.replicate (fn.ntmps - args.length) Go.undef) (ba++Array.replicate (fn.ntmps - ba.size) Go.undef):=by
  rw[hlen]
  simp only[dA,Array.toList_append,Array.toList_replicate]
  refine ha.append ⟨by simp,fun i v hv=>⟨Go.undef,?_,?_⟩⟩
  ·have hi:i<fn.ntmps - args.length:=by
    rcases Nat.lt_or_ge i (fn.ntmps - args.length) with h|h
    ·exact h
    rw[List.getElem?_eq_none (by simpa using h)] at hv;simp at hv
   simp[hi]
  have:=List.mem_of_getElem? hv
  rw[List.mem_replicate] at this
  rw[this.2];exact .undef
 refine callsIn_of_wp_marks hf hb (hF.fn f) ?_ qC
 refine wpIn_mono (hc F hF n U { tmps:=ba++Array.replicate (fn.ntmps - ba.size) Go.undef,defers:=[] } w ht r (.none qC)) fun e a' w' hl=>?_
 obtain⟨bf,h',aS,ms,h2,h3,h4,h5,h6,h7⟩:=hl
 have h5:a'.defers=ms:=by rw[h5,List.append_nil]
 have fin:(∃l,uO P bf h' fn.results.toList=some l∧R (Ce l) h')→LeavesInM F n P fn a'.tmps (fun e w'=>∃r v h' aS,e=.returned v∧ak aS r v∧Rel aS lo h' w'∧Frame lo U h w aS h' w'∧R r h') a'.defers .returning w':=by
  rintro⟨l,hl,hR⟩
  rw[h5]
  refine SG r.kq.ks ms w' h6 h3 h4 fun w2 r2 f2=>?_
  obtain⟨v,k1,k2⟩:=zxd (P:=P) h2 r2 hl
  exact⟨v,k1,_,v,h',aS,rfl,k2,r2,f2,hR⟩
 cases e with
 |normal=>exact fin h7
 |ret=>exact fin h7
 |exit id=>exact h7.elim
 |goto l=>exact h7.elim
 |panic ch=>exact h7.elim
 |outgrown=>exact h7.elim
theorem SH {U:Mu}{v v':Value}(hs:vI v=true)(h:ak U v v'):v'=v:=by
 unfold vI at hs
 split at hs<;>first|cases hs;done|(cases h;rfl)
theorem SJ {U:Mu}{l l':List Value}(hs:l.all vI=true)(h:bA U l l'):l'=l:=by
 apply List.ext_getElem?
 intro i
 cases hi:l[i]? with
 |none=>
  rw[List.getElem?_eq_none_iff] at hi ⊢
  rw[← h.1];exact hi
 |some v=>
  obtain⟨v',h1,h2⟩:=h.2 i v hi
  rw[List.all_eq_true] at hs
  rw[h1,SH (hs v (List.mem_of_getElem? hi)) h2]
theorem Hb {U:Mu}{v v':Value}(hs:lQ v=true)(h:ak U v v'):v'=v:=by
 unfold lQ at hs
 split at hs
 ·obtain⟨ar,rfl,hc⟩:=h.Fi
  rw[Array.ext' (SJ hs hc)]
 ·obtain⟨ar,rfl,hc⟩:=h.R4
  rw[Array.ext' (SJ hs hc)]
 exact SH hs h
end
def SK (P:Program)(s:Sem Value)(U:Mu)(w:World)(id:Nat)(v:Value)(x:bc):Prop:=
 ∃ob v' C,s.run P w=.ok v' (w.alloc ob)∧(∀off,(w.alloc ob).frozen? ⟨w.heap.size,off,none⟩=false)∧
  ∀ν,U.le ν→ν id=some (w.heap.size,0,C)→ak ν v v'∧gd ν (w.alloc ob) w.heap.size 0 C x
theorem Nr {ν:Mu}{w:World}{t:TypeId}{arr:Array Value}{cs:List Value}(h:bA ν cs arr.toList):gd ν (w.alloc (.cells arr t)) w.heap.size 0 0 (.cells 0 cs):=by
 refine⟨by simp,fun i v hv=>?_,fun h0=>by omega⟩
 obtain⟨v',h1,h2⟩:=h.2 i v hv
 exact⟨v',by simpa using h1,h2⟩
def jk (P:Program)(ts:aL)(id:Nat):Op→Option (Value×bc)
 |.alloc t=>match qZ P t with
  |some z=>some (.pointer (some ⟨id,0,none⟩),.cells 0 z)
  |none=>none
 |.box _ x=>match cX ts x with
  |some v=>some (.pointer (some ⟨id,0,none⟩),.cells 0 v.cells.toList)
  |none=>none
 |.buildSlice t len parts=>match vQ ts parts.toList,gO P t with
  |some l,some (e,n)=>
   match qZ P e with
   |some z=>
    bif Nat.beq z.length n&&Nat.ble (len*n) 16777216&&Nat.blt 0 n then
     match vK (fun i=>some (i*n,n)) (db z len) l with
     |some cs=>some (.slice (some ⟨id,0,none⟩) len len,.cells 0 cs)
     |none=>none
    else none
   |none=>none
  |_,_=>none
 |.makeSlice t l c=>match cX ts l,cX ts c,gO P t with
  |some (.int .i64 (.ofNat l)),some (.int .i64 (.ofNat c)),some (e,n)=>
   match qZ P e,(P.info? e).map (·.bytes) with
   |some z,some bytes=>
    bif Nat.beq z.length n&&Nat.ble l c&&Nat.ble (bytes*c) 281474976710656&&Nat.blt 0 n&&Nat.ble c 281474976710656 then
     some (.slice (some ⟨id,0,none⟩) l c,.cells 0 (db z c))
    else none
   |_,_=>none
  |_,_,_=>none
 |.makeMap _ none=>some (.map (some id),.map [])
 |_=>none
def Hc:Op→Bool
 |.alloc _|.box .. | .buildSlice .. | .makeSlice .. | .makeMap ..=>true
 |_=>false
theorem SL {P:Program}{U:Mu}{w:World}{id:Nat}{t:TypeId}{v v':Value}{s:Sem Value}(hs:s.run P w=.ok (.pointer (some ⟨w.heap.size,0,none⟩)) (w.alloc (.cells v'.cells t)))(hv:ak U v v') :
  SK P s U w id (.pointer (some ⟨id,0,none⟩)) (.cells 0 v.cells.toList):=by
 refine⟨_,_,0,hs,fun off=>by simp,fun ν Az hid=>⟨?_,Nr (hv.cells.mono Az)⟩⟩
 have:=ak.ptr id 0 w.heap.size 0 0 hid
 simpa using this
theorem xa5 {P:Program}{U:Mu}{w:World}{ts:aL}{a:Act}{id:Nat}{o:Oper}{v:Value}{x:bc}(ht:dA U ts a.tmps)(ha:jk P ts id o.op=some (v,x)) :
  ∃s:Sem Value,execOp a.eval o=(do pure (.value (← s)))∧SK P s U w id v x:=by
 unfold jk at ha
 split at ha
 all_goals (rename_i Nk;try unfold execOp;try rw[Nk])
 ·rename_i t
  split at ha
  ·rename_i z hz
   simp only[ax,bG] at ha;obtain⟨rfl,rfl⟩:=ha
   obtain⟨zv,h1,h2,h3⟩:=An hz w
   refine⟨_,rfl,?_⟩
   have:=SL (P:=P) (U:=U) (w:=w) (id:=id) (t:=t) (v:=zv) (v':=zv) (s:=Instr.alloc t true (.tuple #[])) (by simp[Instr.alloc,h1,newVar,newRow]) (.Al h3)
   rwa [h2] at this
  simp at ha
 ·rename_i t y
  split at ha
  ·rename_i u hu
   simp only[ax,bG] at ha;obtain⟨rfl,rfl⟩:=ha
   exact⟨_,rfl,SL (t:=t) (v':=a.eval y) (by simp[Instr.box,newVar,newRow]) (gf ht hu)⟩
  simp at ha
 ·rename_i t len parts
  split at ha
  ·rename_i l e n hl he
   obtain⟨hu,hn⟩:=vJ he
   split at ha
   ·rename_i z hz
    obtain⟨zv,h1,h2,h3⟩:=An hz w
    cases hc:(Nat.beq z.length n&&Nat.ble (len*n) 16777216&&Nat.blt 0 n) with
    |false=>rw[hc] at ha;simp at ha
    |true=>
     rw[hc] at ha
     simp only[aO] at ha
     simp only[bS] at hc
     obtain⟨⟨iC,gW⟩,ji⟩:=hc
     have iC:z.length=n:=by simpa using iC
     have gW:len*n≤16777216:=by simpa using gW
     have ji:0<n:=by rw[Nat.blt_eq] at ji;exact ji
     split at ha
     ·rename_i cs hf
      simp only[ax,bG] at ha
      obtain⟨rfl,rfl⟩:=ha
      have B3:zv.cells.size=n:=by rw[← iC,← h2];simp
      have hlen:len≤16777216:=Nat.le_trans (Nat.le_mul_of_pos_right len ji) gW
      have sY:bA U (db z len) ((Array.range (len*n)).map (zv.cells[· % zv.cells.size]!)).toList:=by
       have:=range_zero zv.cells len
       rw[B3] at this ⊢
       rw[this,h2]
       exact Fq (h2▸C8 h3) len
      have hp:wR U l (parts.map fun (i,y)=>(i,a.eval y)).toList:=by simpa using Kx ht hl
      obtain⟨out,h4,h5⟩:=Kh (U:=U) (fun i=>some (i*n,n)) l _ (db z len) _ cs hp sY hf
      have gB:len=ie 0 len:=by rw[pH];unfold az;omega
      refine⟨_,rfl,.cells out e,.slice (some ⟨w.heap.size,0,none⟩) len len,0,?_,fun off=>by simp,fun ν Az hid=>⟨?_,Nr (h5.mono Az)⟩⟩
      ·have gC:¬(len*n > 2 ^ 24):=by omega
       by_cases h0:len*n=0
       ·have lR:len=0:=by
         rcases Nat.mul_eq_zero.1 h0 with h|h
         ·exact h
         omega
        subst lR
        have oQ:Array.range 0=#[]:=rfl
        rw[Nat.zero_mul,oQ] at h4
        simp only[List.map_toArray,List.map_nil,Array.toList_map] at h4
        simp[Instr.buildSlice,run_underlying hu,nR hn,oQ,h4,newRow]
       simp only[Array.toList_map] at h4
       simp[Instr.buildSlice,run_underlying hu,nR hn,gC,h0,h1,h4,newRow]
      have:=ak.slice id 0 len len w.heap.size 0 0 hid (Nat.le_of_eq gB) (by unfold dW;omega)
      rwa [← gB] at this
     simp at ha
   simp at ha
  simp at ha
 ·rename_i t l0 c0
  split at ha
  ·rename_i l c e n hl jE he
   obtain⟨hu,hn⟩:=vJ he
   have xd:=gf ht hl
   have vS:=gf ht jE
   generalize hle:a.eval l0=lv at xd
   generalize ja:a.eval c0=cv at vS
   cases xd
   cases vS
   split at ha
   ·rename_i z bytes hz hb
    obtain⟨zv,h1,h2,h3⟩:=An hz w
    cases hc:(Nat.beq z.length n&&Nat.ble l c&&Nat.ble (bytes*c) 281474976710656&&Nat.blt 0 n&&Nat.ble c 281474976710656) with
    |false=>rw[hc] at ha;simp at ha
    |true=>
     rw[hc] at ha
     simp only[aO,ax,bG] at ha
     obtain⟨rfl,rfl⟩:=ha
     simp only[bS] at hc
     obtain⟨⟨⟨⟨iC,gW⟩,ji⟩,Da⟩,Db⟩:=hc
     have iC:z.length=n:=by simpa using iC
     have gW:l≤c:=by simpa using gW
     have ji:bytes*c≤281474976710656:=by simpa using ji
     have Da:0<n:=by rw[Nat.blt_eq] at Da;exact Da
     have Db:c≤281474976710656:=by simpa using Db
     have B3:zv.cells.size=n:=by rw[← iC,← h2];simp
     have Kk:IntKind.i64.wrap (c:Int)=c:=Kj Db
     have ud:IntKind.i64.wrap (l:Int)=l:=Kj (by omega)
     have sY:bA U (db z c) ((Array.range (c*n)).map (zv.cells[· % zv.cells.size]!)).toList:=by
      have:=range_zero zv.cells c
      rw[B3] at this ⊢
      rw[this,h2]
      exact Fq (h2▸C8 h3) c
     have gB:c=ie 0 c:=by rw[pH];unfold az;omega
     refine⟨_,rfl,.cells ((Array.range (c*n)).map (zv.cells[· % zv.cells.size]!)) e,.slice (some ⟨w.heap.size,0,none⟩) l c,0,?_,fun off=>by simp,fun ν Az hid=>⟨?_,Nr (sY.mono Az)⟩⟩
     ·rw[hle,ja]
      cases hi:P.info? e with
      |none=>simp[hi] at hb
      |some i=>
       simp only[hi,Option.map_some,ax] at hb
       subst hb
       have GV:(typeInfo e).run P w=.ok i w:=by simp[typeInfo,hi]
       have GW:¬((281474976710656:Int)<(i.bytes:Int)*(c:Int)):=by
        have:((i.bytes*c:Nat):Int)≤((281474976710656:Nat):Int):=Int.ofNat_le.2 ji
        rw[Int.natCast_mul] at this
        exact Int.not_lt.2 this
       have B4:¬((c:Int)<(l:Int)):=by omega
       by_cases h0:c*n=0
       ·have B5:c=0:=by
         rcases Nat.mul_eq_zero.1 h0 with h|h
         ·exact h
         omega
        subst B5
        have lR:l=0:=by omega
        subst lR
        have oQ:Array.range 0=#[]:=rfl
        have zj:IntKind.i64.wrap 0=0:=by decide
        simp[Instr.makeSlice,run_underlying hu,asInt,asIntOf,GV,nR hn,zj,oQ,newRow]
       simp[Instr.makeSlice,run_underlying hu,asInt,asIntOf,GV,nR hn,Kk,ud,B4,h0,h1,newRow]
       rintro ((hh|hh)|hh)
       ·omega
       ·exact absurd hh GW
       omega
     have:=ak.slice id 0 l c w.heap.size 0 0 hid (by rw[← gB];exact gW) (by unfold dW;omega)
     rwa [← gB] at this
   simp at ha
  simp at ha
 ·rename_i t
  simp only[ax,bG] at ha;obtain⟨rfl,rfl⟩:=ha
  refine⟨_,rfl,.map #[] 0,.map (some w.heap.size),0,by simp[Instr.makeMap],fun off=>by simp only[World.frozen?,heap_alloc];simp,fun ν Az hid=>⟨.map id _ _ hid,rfl,#[],0,by rw[heap_alloc];simp,⟨[],.nil,by simp,rfl,fun i p e h=>by simp at h,by simp,fun e h=>by simp at h⟩⟩⟩
 simp at ha
theorem FC {ts bf:aL}:∀ {xs:List Operand},(∀x∈xs,cX ts x=cX bf x)→pM ts xs=pM bf xs
 |[],_=>rfl
 |x::r,h=>by simp only[pM,h x (by simp),FC (fun y hy=>h y (List.mem_cons_of_mem _ hy))]
theorem KE {ts bf:aL}:∀ {xs:List (Nat×Operand)},(∀x∈xs.map (·.2),cX ts x=cX bf x)→vQ ts xs=vQ bf xs
 |[],_=>rfl
 |(i,x)::r,h=>by simp only[vQ,h x (by simp),KE (xs:=r) (fun y hy=>h y (by simp only[List.map_cons];exact List.mem_cons_of_mem _ hy))]
theorem Ns {ts bf:aL}{x:Option Operand}(h:∀y∈x.toArray,cX ts y=cX bf y):vR ts x=vR bf x:=by
 cases x with
 |none=>rfl
 |some x=>simp only[vR,h x (by simp)]
theorem Cf {P:Program}{lo:Nat}{ts bf:aL}{h:ah}{op:Op}(he:∀x∈op.operands,cX ts x=cX bf x):cu P lo ts h op=cu P lo bf h op:=by
 cases op<;>simp only[Op.operands] at he<;>try rfl
 case move x=>simp only[cu,he x (by simp)]
 case assign x=>simp only[cu,he x (by simp)]
 case pick c a b=>simp only[cu,he c (by simp),he a (by simp),he b (by simp)]
 case box t x=>simp only[cu,he x (by simp)]
 case build t ps=>simp only[cu,KE (ts:=ts) (bf:=bf) (xs:=ps.toList) (fun x hx=>he x (by simpa using hx))]
 case buildSlice t n ps=>simp only[cu,KE (ts:=ts) (bf:=bf) (xs:=ps.toList) (fun x hx=>he x (by simpa using hx))]
 case load t x=>simp only[cu,he x (by simp)]
 case store t x y=>simp only[cu,he x (by simp),he y (by simp)]
 case nilCheck x=>simp only[cu,he x (by simp)]
 case binOp o t x y u=>simp only[cu,he x (by simp),he y (by simp)]
 case unOp o t x=>simp only[cu,he x (by simp)]
 case convert s d x=>simp only[cu,he x (by simp)]
 case makeFunc fn a b=>
  cases fn<;>try rfl
  simp only[cu,FC (ts:=ts) (bf:=bf) (xs:=a.toList) (fun x hx=>he x (by simp at hx ⊢;exact .inl hx)),FC (ts:=ts) (bf:=bf) (xs:=b.toList) (fun x hx=>he x (by simp at hx ⊢;exact .inr hx))]
 case makeMap t r=>cases r<;>rfl
 case makeSlice t x y=>simp only[cu,he x (by simp),he y (by simp)]
 case slice t x l u m=>
  simp only[cu,he x (by simp),Ns (ts:=ts) (bf:=bf) (x:=l) (fun y hy=>he y (by simp at hy ⊢;simp[hy])),Ns (ts:=ts) (bf:=bf) (x:=u) (fun y hy=>he y (by simp at hy ⊢;simp[hy])),
   Ns (ts:=ts) (bf:=bf) (x:=m) (fun y hy=>he y (by simp at hy ⊢;simp[hy]))]
 case fieldAddr s x f=>simp only[cu,he x (by simp)]
 case field s x f=>simp only[cu,he x (by simp)]
 case indexAddr t x y=>simp only[cu,he x (by simp),he y (by simp)]
 case index t x y=>simp only[cu,he x (by simp),he y (by simp)]
 case lookup t x y ok=>simp only[cu,he x (by simp),he y (by simp)]
 case mapUpdate t x y z=>simp only[cu,he x (by simp),he y (by simp),he z (by simp)]
 case insert t x y z=>simp only[cu,he x (by simp),he y (by simp),he z (by simp)]
 case extract x i=>simp only[cu,he x (by simp)]
 case call c=>
  obtain⟨callee,args,aT⟩:=c
  cases callee<;>try rfl
  simp only[cu,FC (ts:=ts) (bf:=bf) (xs:=args.toList) (fun x hx=>he x (by simp[Call.operands];simpa using hx))]
theorem SM {P:Program}{ts bf:aL}{id:Nat}{op:Op}(he:∀x∈op.operands,cX ts x=cX bf x):jk P ts id op=jk P bf id op:=by
 cases op<;>simp only[Op.operands] at he<;>try rfl
 case box t x=>simp only[jk,he x (by simp)]
 case buildSlice t n ps=>simp only[jk,KE (ts:=ts) (bf:=bf) (xs:=ps.toList) (fun x hx=>he x (by simpa using hx))]
 case makeMap t r=>cases r<;>rfl
 case makeSlice t x y=>simp only[jk,he x (by simp),he y (by simp)]
def vU:Op→Bool
 |.move _|.assign _|.pick .. | .build .. | .load .. | .nilCheck _|.binOp .. | .unOp .. | .convert .. | .makeFunc .. | .slice .. | .fieldAddr .. | .field .. | .indexAddr .. | .index .. | .lookup .. | .extract ..=>true
 |.call ⟨.builtin .len,_,_⟩|.call ⟨.builtin .cap,_,_⟩|.call ⟨.builtin .max,_,_⟩|.call ⟨.builtin .min,_,_⟩=>true
 |_=>false
def ah.sub (h h':ah):Prop:=∀o x,h.get o=some x→h'.get o=some x
theorem zxo {P:Program}{h h':ah}(hs:h.sub h'){t:TypeId}{p v:Value}(ha:uI P h t p=some v):uI P h' t p=some v:=by
 unfold uI at ha ⊢
 split at ha
 ·split at ha
  ·rename_i hx;rw[hs _ _ hx];exact ha
  simp at ha
 simp at ha
theorem zq8 {P:Program}{h h':ah}(hs:h.sub h'){t:TypeId}{m k v:Value}{ok:Bool}(ha:vN P h t m k ok=some v):vN P h' t m k ok=some v:=by
 unfold vN at ha ⊢
 split at ha
 ·split at ha
  ·cases m<;>try exact ha
   rename_i r
   cases r with
   |none=>exact ha
   |some o=>
    cases ho:h.get o with
    |none=>simp[ho] at ha
    |some x=>
     simp only[ho,hs o x ho] at ha ⊢
     exact ha
  simp at ha
 simp at ha
theorem zqe {P:Program}{h h':ah}(hs:h.sub h'){t:TypeId}{m v:Value}{xs:Array Value}{ok:Bool}(ha:AG P h t m xs ok=some v):AG P h' t m xs ok=some v:=by
 unfold AG at ha ⊢
 split at ha
 ·rename_i kT e n hk
  cases hb:(!(fI xs.toList&&Nat.beq xs.toList.length n)) with
  |true=>rw[hb] at ha;cases ha
  |false=>
   rw[hb] at ha
   simp only[bz] at ha ⊢
   split at ha
   ·cases m<;>try exact ha
    rename_i r
    cases r with
    |none=>exact ha
    |some o=>
     cases ho:h.get o with
     |none=>simp[ho] at ha
     |some x=>
      simp only[ho,hs o x ho] at ha ⊢
      exact ha
   simp at ha
 simp at ha
theorem zws {P:Program}{h h':ah}(hs:h.sub h'){t:TypeId}{m k v:Value}{ok:Bool}(ha:vP P h t m k ok=some v):vP P h' t m k ok=some v:=by
 unfold vP at ha ⊢
 split at ha
 ·exact zqe hs ha
 exact zq8 hs ha
theorem zt0 {P:Program}{h h':ah}(hs:h.sub h'){t:TypeId}{x v:Value}(ha:nB P h t x=some v):nB P h' t x=some v:=by
 unfold nB at ha ⊢
 cases hu:P.underlying t with
 |none=>rw[hu] at ha;cases x<;>simp at ha
 |some d=>
  rw[hu] at ha
  cases d<;>cases x<;>try exact ha
  rename_i r
  cases r with
  |none=>exact ha
  |some o=>
   simp only at ha ⊢
   cases ho:h.get o with
   |none=>simp[ho] at ha
   |some y=>simp only[ho,hs o y ho] at ha ⊢;exact ha
theorem znm {P:Program}{lo:Nat}{h:ah}{b:Builtin}{aT:List TypeId}{l:List Value}{v:Value}{h1:ah}(hb:b=.len∨b=.cap∨b=.max∨b=.min)(ha:qB P lo h b aT l=some (v,h1)) :
  h1=h∧∀h2,h.sub h2→qB P lo h2 b aT l=some (v,h2):=by
 have cO:∀ {o:Option Value},o.map (·,h)=some (v,h1)→h1=h∧∀h2:ah,h.sub h2→o.map (·,h2)=some (v,h2):=fun {o} hm=>by
  obtain⟨u,h3,h4⟩:=dq hm
  simp only[bG] at h4
  obtain⟨rfl,rfl⟩:=h4
  exact⟨rfl,fun h2 _=>by rw[h3];rfl⟩
 rcases hb with rfl|rfl|rfl|rfl
 ·rcases aT with _|⟨t,_|⟨u,r⟩⟩<;>rcases l with _|⟨x,_|⟨y,s⟩⟩<;>simp only[qB] at ha ⊢ <;> try (simp at ha;done)
  obtain⟨u,h3,h4⟩:=dq ha
  simp only[bG] at h4
  obtain⟨rfl,rfl⟩:=h4
  exact⟨rfl,fun h2 hs=>by rw[zt0 hs h3];rfl⟩
 ·rcases aT with _|⟨t,_|⟨u,r⟩⟩<;>rcases l with _|⟨x,_|⟨y,s⟩⟩<;>simp only[qB] at ha ⊢ <;> try (simp at ha;done)
  exact cO ha
 ·rcases l with _|⟨x,s⟩<;>simp only[qB] at ha ⊢ <;> try (simp at ha;done)
  exact cO ha
 rcases l with _|⟨x,s⟩<;>simp only[qB] at ha ⊢ <;> try (simp at ha;done)
 exact cO ha
theorem AK {P:Program}{lo:Nat}{ts:aL}{h:ah}{op:Op}{v:Value}{h1:ah}(hr:vU op=true)(ha:cu P lo ts h op=some (v,h1)):h1=h∧∀h2,h.sub h2→cu P lo ts h2 op=some (v,h2):=by
 have fin:∀ {f:ah→Option Value},(∀h2,h.sub h2→∀u,f h=some u→f h2=some u)→(f h).map (·,h)=some (v,h1)→h1=h∧∀h2,h.sub h2→(f h2).map (·,h2)=some (v,h2):=by
  intro f hf hm
  obtain⟨u,h3,h4⟩:=dq hm
  simp only[bG] at h4
  obtain⟨rfl,rfl⟩:=h4
  exact⟨rfl,fun h2 hs=>by rw[hf h2 hs u h3];rfl⟩
 have cO:∀ {o:Option Value},o.map (·,h)=some (v,h1)→h1=h∧∀h2,h.sub h2→o.map (·,h2)=some (v,h2):=fun {o} hm=>fin (f:=fun _=>o) (fun _ _ _ hu=>hu) hm
 cases op<;>simp only[vU,Bool.false_eq_true] at hr<;>simp only[cu] at ha ⊢
 case move x=>exact cO ha
 case assign x=>exact cO ha
 case pick c a b=>
  split at ha
  ·exact cO ha
  ·exact cO ha
  simp at ha
 case build t ps=>
  split at ha
  ·exact cO ha
  simp at ha
 case load t x=>
  split at ha
  ·exact fin (fun h2 hs u hu=>zxo hs hu) ha
  simp at ha
 case nilCheck x=>
  split at ha
  ·exact cO ha
  simp at ha
 case binOp o t x y u=>
  split at ha
  ·exact cO ha
  simp at ha
 case unOp o t x=>
  split at ha
  ·exact cO ha
  simp at ha
 case convert s d x=>
  split at ha
  ·exact cO ha
  simp at ha
 case makeFunc fn a b=>
  cases fn<;>simp only at ha ⊢ <;> try (simp at ha)
  split at ha
  ·simp only[ax,bG] at ha;obtain⟨rfl,rfl⟩:=ha
   exact⟨rfl,fun h2 _=>rfl⟩
  simp at ha
 case slice t x l u m=>
  split at ha
  ·exact cO ha
  simp at ha
 case fieldAddr s x f=>
  split at ha
  ·exact cO ha
  simp at ha
 case field s x f=>
  split at ha
  ·exact cO ha
  simp at ha
 case indexAddr t x y=>
  split at ha
  ·exact cO ha
  simp at ha
 case index t x y=>
  split at ha
  ·exact cO ha
  simp at ha
 case lookup t x y ok=>
  split at ha
  ·exact fin (fun h2 hs u hu=>zws hs hu) ha
  simp at ha
 case extract x i=>
  split at ha
  ·exact cO ha
  simp at ha
 case call c=>
  obtain⟨callee,args,aT⟩:=c
  cases callee with
  |builtin b=>
   simp only[cu] at ha ⊢
   split at ha
   ·rename_i l hl
    refine znm ?_ ha
    cases b<;>simp only[Bool.false_eq_true] at hr<;>simp
   simp at ha
  |value f=>simp at hr
  |invoke r m=>simp at hr
def ah.oV:Nat→ah→ah
 |0,h=>h
 |k+1,h=>let g:=ah.oV k h;⟨g.next+1,g.tr.set none (g.next+1) g.next⟩
theorem ah.DA:∀(k:Nat) (h:ah),(ah.oV k h).next=h.next+k
 |0,_=>rfl
 |k+1,h=>by simp only[ah.oV,ah.DA k h];omega
theorem ah.xf:∀(k:Nat) (h:ah) (o:Nat),(ah.oV k h).get o=h.get o
 |0,_,_=>rfl
 |k+1,h,o=>by
  have ih:=ah.xf k h o
  have hn:=ah.DA k h
  rw[← ih]
  simp only[ah.oV,ah.get_eq]
  rw[Tr.ML _ _ _ _ _ (by omega)]
  by_cases ho:o=(ah.oV k h).next
  ·subst ho;simp
  by_cases hl:o<(ah.oV k h).next
  ·have:o<(ah.oV k h).next+1:=by omega
   simp[ho,hl,this]
  have:¬o<(ah.oV k h).next+1:=by omega
  simp[hl,this]
theorem Rel.oV {U:Mu}{lo:Nat}{h:ah}{w:World}(r:Rel U lo h w)(k:Nat):Rel U lo (ah.oV k h) w:=by
 refine⟨fun o x hx=>r.bq o x (by rwa [ah.xf] at hx),fun o o' x x' b a C a' C' hl hx vH=>r.inj o o' x x' b a C a' C' hl (by rwa [ah.xf] at hx) (by rwa [ah.xf] at vH),fun o x hx=>?_,
  fun o x b a C hl hx=>r.eY o x b a C hl (by rwa [ah.xf] at hx),?_,r.kq.same rfl fun o x h1 h2=>⟨h1,x,by rwa [ah.xf] at h2⟩⟩
 ·have:=r.pF o x hx;rw[ah.DA];omega
 have:=r.bO;rw[ah.DA];omega
theorem Frame.oV {U:Mu}{lo:Nat}{h:ah}{w:World}(k:Nat):Frame lo U h w U (ah.oV k h) w:=by
 refine⟨Mu.le_refl _,Nat.le_refl _,by rw[ah.DA];omega,fun _ _ _=>rfl,fun b _=>?_,fun o _=>ah.xf k h o,fun _ _=>rfl,fun o _ hn=>by rw[ah.xf];exact hn,.refl w⟩
 rintro⟨o,x,a,C,h1,h2,h3⟩
 exact⟨o,x,a,C,h1,by rwa [ah.xf] at h2,h3⟩
section
variable (base:Nat) (sl:Nat→Nat) (FO:Nat→Option bc) (S:Nat→Bool)
def bU:List Nat→ah→ah
 |[],h=>h
 | i :: r, h => bif S i then match FO i with
   |some x=>(bU r h).put (base+sl i) (some x)
   |none=>bU r h
  else bU r h
variable {base sl FO S}
theorem pO:∀(as:List Nat) (h:ah),(bU base sl FO S as h).next=h.next
 |[],_=>rfl
 |i::r,h=>by
  simp only[bU]
  cases S i with
  |false=>exact pO r h
  |true=>
   cases FO i with
   |none=>exact pO r h
   |some x=>exact pO r h
theorem zp {as:List Nat}{h:ah}{o:Nat}(hb:∀i∈as,base+sl i<h.next)(hm:∀i∈as,S i=true→FO i≠none→o≠base+sl i):(bU base sl FO S as h).get o=h.get o:=by
 induction as with
 |nil=>rfl
 |cons i r ih=>
  have ih:=ih (fun j hj=>hb j (List.mem_cons_of_mem _ hj)) (fun j hj=>hm j (List.mem_cons_of_mem _ hj))
  simp only[bU]
  cases hs:S i with
  |false=>exact ih
  |true=>
   cases hf:FO i with
   |none=>exact ih
   |some x=>
    simp only[aO]
    rw[ah.dJ _ _ _ _ (by rw[pO];exact hb i (by simp)),if_neg (hm i (by simp) hs (by simp[hf]))]
    exact ih
theorem Cg {as:List Nat}{h:ah}{i:Nat}{x:bc}(hb:∀i∈as,base+sl i<h.next)(AL:∀i∈as,∀j∈as,sl i=sl j→i=j)(hi:i∈as)(hs:S i=true)(hf:FO i=some x) :
  (bU base sl FO S as h).get (base+sl i)=some x:=by
 induction as with
 |nil=>cases hi
 |cons j r ih=>
  have ih:=ih (fun j hj=>hb j (List.mem_cons_of_mem _ hj)) (fun j hj k hk=>AL j (List.mem_cons_of_mem _ hj) k (List.mem_cons_of_mem _ hk))
  simp only[bU]
  by_cases fH:i=j
  ·subst fH
   simp only[hs,hf,aO]
   rw[ah.dJ _ _ _ _ (by rw[pO];exact hb i (by simp)),if_pos rfl]
  have dD:i∈r:=(List.mem_cons.1 hi).resolve_left fH
  cases hsj:S j with
  |false=>exact ih dD
  |true=>
   cases uh:FO j with
   |none=>exact ih dD
   |some y=>
    simp only[aO]
    rw[ah.dJ _ _ _ _ (by rw[pO];exact hb j (by simp)),if_neg]
    ·exact ih dD
    intro h
    exact fH (AL i hi j (by simp) (by omega))
theorem SN {as:List Nat}{h:ah}{o:Nat}{x:bc}(hb:∀i∈as,base+sl i<h.next)(AL:∀i∈as,∀j∈as,sl i=sl j→i=j)(hx:(bU base sl FO S as h).get o=some x) :
  (∃i∈as,S i=true∧o=base+sl i∧FO i=some x)∨(h.get o=some x∧∀i∈as,S i=true→FO i≠none→o≠base+sl i):=by
 by_cases he:∃i∈as,S i=true∧FO i≠none∧o=base+sl i
 ·obtain⟨i,hi,hs,hf,rfl⟩:=he
  cases oX:FO i with
  |none=>exact absurd oX hf
  |some y=>
   rw[Cg hb AL hi hs oX] at hx
   exact .inl ⟨i,hi,hs,rfl,by rw[oX,hx]⟩
 have hm:∀i∈as,S i=true→FO i≠none→o≠base+sl i:=fun i hi hs hf ho=>he ⟨i,hi,hs,hf,ho⟩
 rw[zp hb hm] at hx
 exact .inr ⟨hx,hm⟩
end
theorem zsk (ts:aL)(d:Option Tmp)(v:Value):(bE ts d v).length=ts.length:=by cases d<;>simp[bE]
theorem Hd {ts:aL}{d:Option Tmp}{v:Value}{t:Nat}(h:d≠some t):(bE ts d v)[t]?=ts[t]?:=by
 cases d with
 |none=>rfl
 |some d=>simp only[bE];rw[List.getElem?_set_ne];intro hh;exact h (by rw[hh])
theorem zn3 {ts bf:aL}{d:Option Tmp}{v v':Value}{t:Nat}(hl:ts.length=bf.length)(h:ts[t]?=bf[t]?)(hv:d=some t→v=v'):(bE ts d v)[t]?=(bE bf d v')[t]?:=by
 by_cases hd:d=some t
 ·subst hd
  rw[hv rfl]
  simp only[bE,List.getElem?_set,if_true,hl]
 rw[Hd hd,Hd hd];exact h
theorem z0f (ts:aL){d e:Option Tmp}(v u:Value)(h:∀t,d=some t→e≠some t):bE (bE ts d v) e u=bE (bE ts e u) d v:=by
 cases d with
 |none=>rfl
 |some d=>
  cases e with
  |none=>rfl
  |some e=>
   have:d≠e:=fun hh=>h d rfl (by rw[hh])
   simp only[bE]
   rw[List.set_comm _ _ this]
def uP (ops:Array Oper)(i:Nat):Option Tmp:=(ops[i]?).bind (·.dst)
def fe (ops:Array Oper)(V:Nat→Value)(S:Nat→Bool)(cb:aL):Nat→aL
 |0=>cb
 |n+1=>bif S n then bE (fe ops V S cb n) (uP ops n) (V n) else fe ops V S cb n
section
variable {ops:Array Oper} {V V':Nat→Value} {S S':Nat→Bool} {cb:aL}
theorem Nt:∀n,(fe ops V S cb n).length=cb.length
 |0=>rfl
 |n+1=>by simp only[fe];cases S n<;>simp[zsk,Nt n]
theorem AM:∀ {n},(∀i<n,S i=S' i)→(∀i<n,S i=true→V i=V' i)→fe ops V S cb n=fe ops V' S' cb n
 |0,_,_=>rfl
 |n+1,h,hv=>by
  simp only[fe]
  rw[← h n (by omega),AM (fun i hi=>h i (by omega)) (fun i hi=>hv i (by omega))]
  cases hs:S n with
  |false=>rfl
  |true=>rw[hv n (by omega) hs]
theorem Nu {t:Nat}:∀ {n},(∀j<n,uP ops j=some t→S j=S' j∧(S j=true→V j=V' j))→(fe ops V S cb n)[t]?=(fe ops V' S' cb n)[t]?
 |0,_=>rfl
 |n+1,h=>by
  have ih:=Nu (n:=n) (fun j hj=>h j (by omega))
  simp only[fe]
  by_cases hd:uP ops n=some t
  ·obtain⟨h1,h2⟩:=h n (by omega) hd
   rw[← h1]
   cases hs:S n with
   |false=>exact ih
   |true=>exact zn3 (by rw[Nt,Nt]) ih (fun _=>h2 hs)
  have e:∀(b:Bool) (v:Value) (ts:aL),(bif b then bE ts (uP ops n) v else ts)[t]?=ts[t]?:=fun b v ts=>by
   cases b
   ·rfl
   exact Hd hd
  rw[e,e];exact ih
theorem SO {i:Nat}:∀ {n},i<n→S i=false→(∀j,i<j→j<n→S j=true→∀t,uP ops i=some t→uP ops j≠some t)→
  fe ops V (fun j=>S j||Nat.beq j i) cb n=bE (fe ops V S cb n) (uP ops i) (V i)
 |0,h,_,_=>by omega
 |n+1,h,hs,hd=>by
  simp only[fe]
  by_cases hi:i=n
  ·subst hi
   have:fe ops V (fun j=>S j||Nat.beq j i) cb i=fe ops V S cb i:=by
    refine AM (fun j hj=>?_) (fun _ _ _=>rfl)
    have:Nat.beq j i=false:=by rw[Bool.eq_false_iff];intro hh;have:=uF hh;omega
    simp[this]
   rw[this,hs]
   simp
  have hb:Nat.beq n i=false:=by rw[Bool.eq_false_iff];intro hh;have:=uF hh;omega
  rw[SO (n:=n) (by omega) hs (fun j h1 h2=>hd j h1 (by omega)),hb,Bool.or_false]
  cases iu:S n with
  |false=>rfl
  |true=>exact z0f _ _ _ (hd n (by omega) (by omega) iu)
end
def zq (ops:Array Oper)(o:Oper)(ts bf:aL):Prop:=∀t∈o.looksAt ops,ts[t]?=bf[t]?
theorem zq.eval {ops:Array Oper}{o:Oper}{ts bf:aL}(h:zq ops o ts bf):∀x∈o.op.operands,cX ts x=cX bf x:=by
 intro x hx
 cases x with
 |tmp t=>
  have:=h t (List.mem_append_left _ (List.mem_filterMap.2 ⟨.tmp t,by simpa using hx,rfl⟩))
  simp only[cX,List.getD_eq_getElem?_getD,this]
 |_=>rfl
theorem zq.wanted {ops:Array Oper}{o:Oper}{ts bf:aL}(h:zq ops o ts bf):Region.wanted o (nD ops ts)=Region.wanted o (nD ops bf):=by
 unfold Region.wanted
 cases hg:o.guard with
 |none=>rfl
 |some gw=>
  obtain⟨g,wt⟩:=gw
  have:nD ops ts g=nD ops bf g:=by
   unfold nD
   cases hd:(ops[g]?).bind (·.dst) with
   |none=>rfl
   |some d=>
    simp only[Option.bind_some]
    rw[h d (List.mem_append_right _ (by simp[hg,hd]))]
  simp only[this]
theorem Frame.ext {lo:Nat}{U aS:Mu}{h h1 h2:ah}{w w':World}(f:Frame lo U h w aS h1 w')(hg:∀o,h2.get o=h1.get o)(hn:h1.next=h2.next):Frame lo U h w aS h2 w' where
  le:=f.le
  size:=f.size
  next:=hn▸f.next
  kept:=f.kept
  own b hb:=by
    rintro⟨o,x,a,C,k1,k2,k3⟩
    exact f.own b hb ⟨o,x,a,C,k1,by rw[← hg];exact k2,k3⟩
  low o ho:=by rw[hg,f.low o ho]
  gV:=f.gV
  born o ho hx:=by rw[hg,f.born o ho hx]
  calm:=f.calm
theorem Rel.ext {U:Mu}{lo:Nat}{h h':ah}{w:World}(r:Rel U lo h w)(hg:∀o,h'.get o=h.get o)(hn:h.next=h'.next):Rel U lo h' w:=
 r.sub (Nat.le_of_eq hn) (fun o x hx=>by rw[← hg];exact hx) (Nat.le_refl _) (hn▸r.bO)
theorem zq7 {U:Mu}{lo:Nat}{h:ah}{w:World}(r:Rel U lo h w){id:Nat}(hid:id<h.next)(hl:lo≤id)(hg:h.get id=none)(hm:U id=none)(ob:Obj)(C:Nat)(x:bc)
  (hx:gd (U.put id (w.heap.size,0,C)) (w.alloc ob) w.heap.size 0 C x) (hf:∀off,(w.alloc ob).frozen? ⟨w.heap.size,off,none⟩=false) :
  U.le (U.put id (w.heap.size,0,C))∧Rel (U.put id (w.heap.size,0,C)) lo (h.put id (some x)) (w.alloc ob)∧
  ∀jG h0 w0,Frame lo jG h0 w0 U h w→h0.next≤id→Frame lo jG h0 w0 (U.put id (w.heap.size,0,C)) (h.put id (some x)) (w.alloc ob):=by
 have hle:U.le (U.put id (w.heap.size,0,C)):=by
  intro o y hy
  have:o≠id:=by intro ho;subst ho;rw[hm] at hy;cases hy
  rw[Mu.jN _ this];exact hy
 have hblk:∀o y b a C',h.get o=some y→U o=some (b,a,C')→b<w.heap.size:=fun o y b a C' hy hm=>by
  obtain⟨b',a',qV,h1,h2⟩:=r.bq o y hy
  rw[hm] at h1;injection h1 with h1;injection h1 with h1 _;subst h1
  exact h2.tZ
 refine⟨hle,⟨?_,?_,?_,?_,?_,?_⟩,fun jG h0 w0 f hb=>?_⟩
 ·intro o y hy
  rw[ah.dJ _ _ _ _ hid] at hy
  by_cases ho:o=id
  ·subst ho
   simp at hy;subst hy
   exact⟨_,_,_,Mu.cB _ _ _,hx⟩
  simp[ho] at hy
  obtain⟨b,a,C',h1,h2⟩:=r.bq o y hy
  exact⟨b,a,C',by rw[Mu.jN _ ho];exact h1,(h2.mono hle).kept (heap_alloc_old _ _ h2.tZ)⟩
 ·intro o o' y y' b a C' a' qV hl hy qW hm eI
  rw[ah.dJ _ _ _ _ hid] at hy qW
  by_cases ho:o=id
  ·by_cases lz:o'=id
   ·rw[ho,lz]
   simp[lz] at qW
   rw[Mu.jN _ lz] at eI
   have:=hblk o' y' _ _ _ qW eI
   subst ho;rw[Mu.cB] at hm;injection hm with hm;injection hm with hm _;omega
  simp[ho] at hy
  rw[Mu.jN _ ho] at hm
  have h1:=hblk o y _ _ _ hy hm
  by_cases lz:o'=id
  ·subst lz;rw[Mu.cB] at eI;injection eI with eI;injection eI with eI _;omega
  simp[lz] at qW
  rw[Mu.jN _ lz] at eI
  exact r.inj o o' y y' b a C' a' qV hl hy qW hm eI
 ·intro o y hy
  by_cases ho:o=id
  ·subst ho;simpa using hid
  rw[Mu.jN _ ho] at hy
  have:=r.pF o y hy
  simpa using this
 ·intro o y b a C' hl hy hm off
  rw[ah.dJ _ _ _ _ hid] at hy
  by_cases ho:o=id
  ·subst ho
   rw[Mu.cB] at hm;injection hm with hm;injection hm with hm _;subst hm
   exact hf off
  simp[ho] at hy
  rw[Mu.jN _ ho] at hm
  rw[Ak (heap_alloc_old _ _ (hblk o y _ _ _ hy hm))]
  exact r.eY o y b a C' hl hy hm off
 ·exact r.bO
 ·refine r.kq.step (by simp) (fun b hb _=>heap_alloc_old _ _ hb) fun o y b a C' hl hy hm hb=>?_
  rw[ah.dJ _ _ _ _ hid] at hy
  by_cases ho:o=id
  ·subst ho;rw[Mu.cB] at hm;injection hm with hm;injection hm with hm _;omega
  simp[ho] at hy
  rw[Mu.jN _ ho] at hm
  exact⟨o,y,a,C',hl,hy,hm⟩
 refine⟨Mu.le_trans f.le hle,Nat.le_trans f.size (by simp),f.next,fun b hb hn=>?_,fun b hb=>?_,fun o ho=>?_,fun o ho=>?_,fun o ho hn=>?_,⟨f.calm.1,f.calm.2,f.calm.3,f.calm.4⟩⟩
 ·rw[heap_alloc_old _ _ (Nat.lt_of_lt_of_le hb f.size)];exact f.kept b hb hn
 ·rintro⟨o,y,a,C',hl,hy,hm⟩
  rw[ah.dJ _ _ _ _ hid] at hy
  by_cases ho:o=id
  ·subst ho;rw[Mu.cB] at hm;injection hm with hm;injection hm with hm _
   have:=f.size;omega
  simp[ho] at hy
  rw[Mu.jN _ ho] at hm
  exact f.own b hb ⟨o,y,a,C',hl,hy,hm⟩
 ·rw[ah.dJ _ _ _ _ hid,if_neg (by omega)];exact f.low o ho
 ·rw[Mu.jN _ (by omega)];exact f.gV o ho
 rw[ah.dJ _ _ _ _ hid,if_neg (by omega)];exact f.born o ho hn
theorem z2j {U aS:Mu}{lo:Nat}{h hm h' hj:ah}{w w':World}(r:Rel U lo h w)(hn:hm.next=h.next)(hs:∀o x,hm.get o=some x→h.get o=some x)
  (bJ:∀o,o<lo→hm.get o=h.get o)
  (r':Rel aS lo h' w') (f:Frame lo U hm w aS h' w') (Nv:hj.next=h'.next)
  (eo:∀o,hj.get o=h'.get o∨(lo≤o∧hm.get o=none∧∃x,h.get o=some x∧hj.get o=some x)) :
  Rel aS lo hj w'∧Frame lo U h w aS hj w':=by
 have aside:∀o x b a C,lo≤o→hm.get o=none→h.get o=some x→U o=some (b,a,C)→¬Aj U lo hm b:=by
  rintro o x b a C cg h0 hx KF ⟨o',x',a',C',k1,k2,k3⟩
  have:=r.inj o o' x x' b a C a' C' cg hx (hs _ _ k2) KF k3
  subst this
  rw[h0] at k2;cases k2
 have FD:∀ {o x},hj.get o=some x→h'.get o=some x∨(lo≤o∧hm.get o=none∧h.get o=some x):=fun {o x} hx=>by
  rcases eo o with h1|⟨h1,h2,y,h3,h4⟩
  ·exact .inl (by rw[← h1];exact hx)
  rw[h4] at hx;injection hx with hx;subst hx;exact .inr ⟨h1,h2,h3⟩
 have ke:∀ {o x},lo≤o→hm.get o=none→h.get o=some x→∃b a C,U o=some (b,a,C)∧aS o=some (b,a,C)∧b<w.heap.size∧w'.heap[b]?=w.heap[b]?∧gd U w b a C x:=fun {o x} h1 h2 h3=>by
  obtain⟨b,a,C,k1,k2⟩:=r.bq o x h3
  exact⟨b,a,C,k1,f.le _ _ k1,k2.tZ,f.kept b k2.tZ (aside o x b a C h1 h2 h3 k1),k2⟩
 have Ch:∀ {o o' x x' b a C a' C'},h'.get o=some x→lo≤o'→hm.get o'=none→h.get o'=some x'→aS o=some (b,a,C)→aS o'=some (b,a',C')→o=o':=fun {o o' x x' b a C a' C'} k1 k2 k3 k4 k5 k6=>by
  obtain⟨b2,a2,C2,g1,g2,g3,g4,_⟩:=ke k2 k3 k4
  rw[k6] at g2
  have hbe:b=b2:=by injection g2 with g2;injection g2
  subst hbe
  by_cases hl:lo≤o
  ·exact absurd (f.own b g3 ⟨o,x,a,C,hl,k1,k5⟩) (aside o' x' b a2 C2 k2 k3 k4 g1)
  have hl:o<lo:=by omega
  have hx:h.get o=some x:=by rw[← bJ o hl,← f.low o hl];exact k1
  have aP:=ah.gx hx
  have lU:U o=some (b,a,C):=by rw[← f.gV o (by omega)];exact k5
  exact(r.inj o' o x' x b a2 C2 a C k2 k4 hx g1 lU).symm
 refine Rel.MN r (fun o x hx=>?_) (fun o o' x x' b a C a' C' hl hx vH cj ig=>?_) (fun o x hx=>Nv▸r'.pF o x hx) (fun o x b a C hl hx cj off=>?_) (Nv▸r'.bO)
  ⟨f.le,f.size,?_,fun b hb Ci=>f.kept b hb (fun⟨o,x,a,C,k1,k2,k3⟩=>Ci ⟨o,x,a,C,k1,hs _ _ k2,k3⟩),fun b hb=>?_,fun o ho=>?_,fun o ho=>f.gV o (by omega),fun o ho hx=>?_,f.calm⟩
 ·rcases FD hx with h1|⟨h1,h2,h3⟩
  ·exact r'.bq o x h1
  obtain⟨b,a,C,g1,g2,g3,g4,g5⟩:=ke h1 h2 h3
  exact⟨b,a,C,g2,(g5.mono f.le).kept g4⟩
 ·rcases FD hx with h1|⟨h1,h2,h3⟩
  ·rcases FD vH with k1|⟨k1,k2,k3⟩
   ·exact r'.inj o o' x x' b a C a' C' hl h1 k1 cj ig
   exact Ch h1 k1 k2 k3 cj ig
  rcases FD vH with k1|⟨k1,k2,k3⟩
  ·exact(Ch k1 h1 h2 h3 ig cj).symm
  obtain⟨b1,a1,C1,g1,g2,_⟩:=ke h1 h2 h3
  obtain⟨b2,a2,C2,l1,l2,_⟩:=ke k1 k2 k3
  rw[cj] at g2;rw[ig] at l2
  injection g2 with g2;injection g2 with g2 _
  injection l2 with l2;injection l2 with l2 _
  subst g2;subst l2
  exact r.inj o o' x x' b a1 C1 a2 C2 hl h3 k3 g1 l1
 ·rcases FD hx with h1|⟨h1,h2,h3⟩
  ·exact r'.eY o x b a C hl h1 cj off
  obtain⟨b1,a1,C1,g1,g2,g3,g4,g5⟩:=ke h1 h2 h3
  rw[cj] at g2;injection g2 with g2;injection g2 with g2 _;subst g2
  rw[Ak g4]
  exact r.eY o x b a1 C1 hl h3 g1 off
 ·rw[Nv,← hn];exact f.next
 ·rintro⟨o,x,a,C,k1,k2,k3⟩
  rcases FD k2 with h1|⟨h1,h2,h3⟩
  ·obtain⟨o2,x2,a2,C2,g1,g2,g3⟩:=f.own b hb ⟨o,x,a,C,k1,h1,k3⟩
   exact⟨o2,x2,a2,C2,g1,hs _ _ g2,g3⟩
  obtain⟨b1,a1,C1,g1,g2,_⟩:=ke h1 h2 h3
  rw[k3] at g2;injection g2 with g2;injection g2 with g2 _;subst g2
  exact⟨o,x,a1,C1,h1,h3,g1⟩
 ·rcases eo o with h1|⟨h1,_⟩
  ·rw[h1,f.low o ho,bJ o ho]
  omega
 rcases eo o with h1|⟨h1,h2,y,h3,h4⟩
 ·rw[h1]
  refine f.born o (by omega) ?_
  cases hq:hm.get o with
  |none=>rfl
  |some z=>rw[hs _ _ hq] at hx;cases hx
 rw[hx] at h3;cases h3
structure AN (ops:Array Oper) (b:Nat→Nat→Bool) (W As:List Nat) (sl:Nat→Nat) (nA:Nat):Prop where
  lt:∀i j,b i j=true→i<j
  Nw:∀j o,ops[j]?=some o→∀e∈o.after,Region.binds .any e=true→e.on<j
  clo:∀i j o,ops[j]?=some o→b i j=true→∃e∈o.after,Region.binds .any e=true∧(e.on=i∨b i e.on=true)
  chain:W.Pairwise (fun w w'=>b w w'=true)
  wlt:∀w∈W,w<ops.size
  alt:∀i∈As,i<ops.size
  aw:∀i∈As,i∉W
  asl:∀i∈As,sl i<nA
  kZ:∀i∈As,∀j∈As,sl i=sl j→i=j
  names:∀i j oi oj,ops[i]?=some oi→ops[j]?=some oj→i<j→oi.apart ops oj=true∨b i j=true
section
variable (P:Program) (lo:Nat) (ops:Array Oper) (b:Nat→Nat→Bool) (W As:List Nat) (sl:Nat→Nat) (base:Nat) (cb:aL) (Q:lW)
def sy (V:Nat→Value)(FO:Nat→Option bc)(M:Nat→Bool)(H:ah)(m:Nat)(o:Oper):Prop:=
  let KG:=fe ops V (fun j=>b j m) cb ops.size
  (Region.wanted o (nD ops KG)=true∧
    ((vU o.op=true∧m∉As∧FO m=none∧∃h1,cu P lo KG (bU base sl FO (fun i=>b i m&&!M i) As H) o.op=some (V m,h1))∨
     (∃x,m∈As∧FO m=some x∧jk P KG (base+sl m) o.op=some (V m,x))))∨
  (Region.wanted o (nD ops KG)=false∧V m=Go.undef∧FO m=none)
def PC (bC:List Nat)(last:Option Nat)(V:Nat→Value)(FO:Nat→Option bc)(M:Nat→Bool)(H:ah):Prop:=
 ∀m o,ops[m]?=some o→m∉W→(∀w∈bC,b w m=false)→(∀l,last=some l→b m l=false)→sy P lo ops b As sl base cb V FO M H m o
def Ext (bC:List Nat)(V V':Nat→Value)(FO ev:Nat→Option bc):Prop:=
 ∀i,i<ops.size→i∉bC→(∀w∈bC,b w i=false)→V' i=V i∧ev i=FO i
def DR:List Nat→Option Nat→(Nat→Value)→(Nat→Option bc)→(Nat→Bool)→ah→Prop
 |[],last,V,FO,M,H=>PC P lo ops b W As sl base cb [] last V FO M H∧Q .normal (fe ops V (fun _=>true) cb ops.size) (bU base sl FO (fun i=>!M i) As H)
 | wr :: r, last, V, FO, M, H => PC P lo ops b W As sl base cb (wr :: r) last V FO M H ∧ ∀ o, ops[wr]? = some o →
   (Region.wanted o (nD ops (fe ops V (fun j=>b j wr) cb ops.size))=true→∀ts,zq ops o ts (fe ops V (fun j=>b j wr) cb ops.size)→
    rj P lo o ts (bU base sl FO (fun i=>b i wr&&!M i) As H) (fun bf h'=>∃V' ev,Ext ops b (wr::r) V V' FO ev∧bf=bE ts o.dst (V' wr)∧DR r (some wr) V' ev (fun i=>M i||b i wr) h'))∧
   (Region.wanted o (nD ops (fe ops V (fun j=>b j wr) cb ops.size))=false→∃V' ev,Ext ops b (wr::r) V V' FO ev∧V' wr=Go.undef∧DR r (some wr) V' ev M H)
def Lf (listed:Array Bool):Nat→Bool:=fun j=>listed.getD j false
structure xg (nA:Nat) (jG:Mu) (h0:ah) (w0:World) (ds:List Deferred) (bC:List Nat) (last:Option Nat) (V:Nat→Value) (FO:Nat→Option bc) (M:Nat→Bool) (H:ah) (listed:Array Bool) (U:Mu) (a:Act) (w:World):Prop where
  sz:listed.size=ops.size
  closed:∀i j,b i j=true→Lf listed j=true→Lf listed i=true
  wr:∃done,done++bC=W∧(∀w∈done,Lf listed w=true)∧(∀w∈bC,Lf listed w=false)
  SP:∀l,last=some l→Lf listed l=true
  DB:∀i,M i=true→Lf listed i=true
  ht:dA U (fe ops V (Lf listed) cb ops.size) a.tmps
  hr:Rel U lo (bU base sl FO (fun i=>Lf listed i&&!M i) As H) w
  fr:Frame lo jG h0 w0 U (bU base sl FO (fun i=>Lf listed i&&!M i) As H) w
  un:∀i∈As,Lf listed i=false→U (base+sl i)=none
  ds:a.defers=ds
  hn:base+nA≤H.next
  hH:∀i∈As,M i=false→H.get (base+sl i)=none
  cg:lo≤base
  hb:h0.next≤base
end
theorem xcy {listed:Array Bool}{i:Nat}(hi:i<listed.size):Lf (listed.setIfInBounds i true)=fun j=>Lf listed j||Nat.beq j i:=by
 funext j
 unfold Lf
 by_cases h:i=j
 ·subst h;simp[hi]
 rw[getD_set_ne false h]
 have:Nat.beq j i=false:=by rw[Bool.eq_false_iff];intro hh;exact h (uF hh).symm
 simp[this]
def ui (listed:Array Bool):Nat→Nat
 |0=>0
 |n+1=>(bif listed.getD n true then 0 else 1)+ui listed n
theorem SQ {listed:Array Bool}{i:Nat}:∀ {n},i<n→i<listed.size→listed.getD i true=false→ui listed n=ui (listed.setIfInBounds i true) n+1
 |0,h,_,_=>by omega
 |n+1,h,hs,hi=>by
  simp only[ui]
  by_cases dx:i=n
  ·subst dx
   have e:∀m,m≤i→ui (listed.setIfInBounds i true) m=ui listed m:=by
    intro m hm
    induction m with
    |zero=>rfl
    |succ m ih=>simp only[ui];rw[ih (by omega),getD_set_ne true (by omega)]
   rw[e i (Nat.le_refl _),hi]
   have:(listed.setIfInBounds i true).getD i true=true:=by simp[hs]
   rw[this]
   simp only[aO,bz];omega
  rw[SQ (n:=n) (by omega) hs hi,getD_set_ne true dx];omega
theorem SR {listed:Array Bool}:∀ {n},ui listed n=0→∀i<n,listed.getD i true=true
 |0,_,i,h=>by omega
 |n+1,h,i,hi=>by
  simp only[ui] at h
  cases hl:listed.getD n true with
  |false=>simp only[hl,bz] at h;omega
  |true=>
   by_cases dx:i=n
   ·subst dx;exact hl
   exact SR (n:=n) (by simp only[hl,aO] at h;omega) i (by omega)
theorem Cj {base:Nat}{sl:Nat→Nat}{FO ev:Nat→Option bc}{S S':Nat→Bool}:∀ {as:List Nat} {h:ah},(∀k∈as,(bif S k then FO k else none)=(bif S' k then ev k else none))→bU base sl FO S as h=bU base sl ev S' as h
 |[],_,_=>rfl
 |i::r,h,hc=>by
  have ih:=Cj (base:=base) (sl:=sl) (as:=r) (h:=h) (fun k hk=>hc k (List.mem_cons_of_mem _ hk))
  have h0:=hc i (by simp)
  have e:∀(S:Nat→Bool) (FO:Nat→Option bc),bU base sl FO S (i::r) h=(match (bif S i then FO i else none) with|some x=>(bU base sl FO S r h).put (base+sl i) (some x)|none=>bU base sl FO S r h):=fun S FO=>by
   simp only[bU]
   cases S i<;>rfl
  rw[e,e,h0,ih]
section
variable {P:Program} {lo:Nat} {ops:Array Oper} {b:Nat→Nat→Bool} {W As:List Nat} {sl:Nat→Nat} {nA base:Nat} {cb:aL} {Q:lW}
theorem DR.pc {bC:List Nat}{last:Option Nat}{V:Nat→Value}{FO:Nat→Option bc}{M:Nat→Bool}{H:ah}(h:DR P lo ops b W As sl base cb Q bC last V FO M H):PC P lo ops b W As sl base cb bC last V FO M H:=by
 cases bC with
 |nil=>exact h.1
 |cons _ _=>exact h.1
theorem SS (st:AN ops b W As sl nA){L:Nat→Bool}{V:Nat→Value}{i:Nat}{o:Oper}(ho:ops[i]?=some o)(hi:L i=false)(hp:∀j,b j i=true→L j=true)(hc:∀i j,b i j=true→L j=true→L i=true) :
  zq ops o (fe ops V L cb ops.size) (fe ops V (fun j=>b j i) cb ops.size):=by
 intro t ht
 refine Nu fun j hj hd=>?_
 suffices h:L j=b j i by exact⟨h,fun _=>rfl⟩
 obtain⟨oj,Ck⟩:∃oj,ops[j]?=some oj:=⟨ops[j],by simp[hj]⟩
 have zr:oj.dst=some t:=by simpa[uP,Ck] using hd
 rcases Nat.lt_trichotomy j i with h|h|h
 ·have hb:b j i=true:=by
   rcases st.names j i oj o Ck ho h with h1|h1
   ·exact absurd ht ((Oper.apart_spec h1).1 t zr)
   exact h1
  rw[hb,hp j hb]
 ·subst h
  rw[hi]
  cases hb:b j j with
  |false=>rfl
  |true=>have:=st.lt _ _ hb;omega
 have hb:b i j=true:=by
  rcases st.names i j o oj ho Ck h with h1|h1
  ·exact absurd ht ((Oper.apart_spec h1).2.2 t zr)
  exact h1
 have h1:L j=false:=by
  cases hl:L j with
  |false=>rfl
  |true=>rw[hc _ _ hb hl] at hi;cases hi
 rw[h1]
 cases cT:b j i with
 |false=>rfl
 |true=>have:=st.lt _ _ cT;omega
theorem Nx (st:AN ops b W As sl nA){L:Nat→Bool}{V:Nat→Value}{i:Nat}{o:Oper}(ho:ops[i]?=some o)(hi:L i=false)(hc:∀i j,b i j=true→L j=true→L i=true) :
  fe ops V (fun j=>L j||Nat.beq j i) cb ops.size=bE (fe ops V L cb ops.size) o.dst (V i):=by
 have aP:i<ops.size:=(Array.getElem?_eq_some_iff.1 ho).1
 have hd:uP ops i=o.dst:=by simp[uP,ho]
 rw[← hd]
 refine SO aP hi fun j h1 h2 hl t ht KH=>?_
 obtain⟨oj,Ck⟩:∃oj,ops[j]?=some oj:=⟨ops[j],by simp[h2]⟩
 rcases st.names i j o oj ho Ck h1 with h3|h3
 ·exact(Oper.apart_spec h3).2.1 t (by rw[← hd];exact ht) (by simpa[uP,Ck] using KH)
 rw[hc _ _ h3 hl] at hi;cases hi
theorem pP {i j:Nat}(h:j≠i):Nat.beq j i=false:=by
 rw[Bool.eq_false_iff];intro hh;exact h (uF hh)
theorem xg.advance (st:AN ops b W As sl nA){jG:Mu}{h0:ah}{w0:World}{ds:List Deferred}{bC xh:List Nat}{last xj:Option Nat}{V V':Nat→Value}{FO ev:Nat→Option bc}{M M':Nat→Bool}{H H':ah}{listed:Array Bool}{U aS:Mu}{a a':Act}{w w':World}{i:Nat}{o:Oper}
  (d:xg lo ops b W As sl base cb nA jG h0 w0 ds bC last V FO M H listed U a w) (ho:ops[i]?=some o) (hi:Lf listed i=false) (hp:∀j,b j i=true→Lf listed j=true)
  (uQ:(xh=bC∧i∉W)∨bC=i::xh) (He:xj=last∨xj=some i) (hM:∀j,M' j=true→M j=true∨b j i=true) (hV:∀j,Lf listed j=true→V' j=V j)
  (ht:dA aS (bE (fe ops V (Lf listed) cb ops.size) o.dst (V' i)) a'.tmps) (AB:a'.defers=ds)
  (hr:Rel aS lo (bU base sl ev (fun j=>(Lf listed j||Nat.beq j i)&&!M' j) As H') w') (fr:Frame lo jG h0 w0 aS (bU base sl ev (fun j=>(Lf listed j||Nat.beq j i)&&!M' j) As H') w')
  (un:∀j∈As,Lf listed j=false→j≠i→aS (base+sl j)=none) (hn:base+nA≤H'.next) (hH:∀j∈As,M' j=false→H'.get (base+sl j)=none) :
  xg lo ops b W As sl base cb nA jG h0 w0 ds xh xj V' ev M' H' (listed.setIfInBounds i true) aS a' w':=by
 have aP:i<ops.size:=(Array.getElem?_eq_some_iff.1 ho).1
 have uj:=xcy (listed:=listed) (i:=i) (by rw[d.sz];exact aP)
 have wX:Nat.beq i i=true:=Nat.beq_refl i
 obtain⟨done,ky,lf,rm⟩:=d.wr
 refine⟨by simpa using d.sz,fun p q AO hq=>?_,?_,fun l hl=>?_,fun j hj=>?_,?_,by rw[uj];exact hr,by rw[uj];exact fr,fun j hj hl=>?_,AB,hn,hH,d.cg,d.hb⟩
 ·rw[uj] at hq ⊢
  simp only[Bool.or_eq_true] at hq ⊢
  left
  rcases hq with hq|hq
  ·exact d.closed p q AO hq
  rw[uF hq] at AO;exact hp p AO
 ·rcases uQ with⟨rfl,xm⟩|uQ
  ·refine⟨done,ky,fun w hw=>by rw[uj];simp[lf w hw],fun w hw=>?_⟩
   have:w≠i:=by rintro rfl;exact xm (ky▸List.mem_append_right _ hw)
   rw[uj];simp[rm w hw,pP this]
  refine⟨done++[i],by rw[← ky,uQ];simp,fun w hw=>?_,fun w hw=>?_⟩
  ·rw[uj]
   rcases List.mem_append.1 hw with h|h
   ·simp[lf w h]
   have:w=i:=by simpa using h
   subst this;simp
  have Cl:=st.chain
  rw[← ky,uQ,List.pairwise_append] at Cl
  have hb:=(List.pairwise_cons.1 Cl.2.1).1 w hw
  have:=st.lt _ _ hb
  rw[uj];simp[rm w (by rw[uQ];exact List.mem_cons_of_mem _ hw),pP (show w≠i by omega)]
 ·rw[uj]
  rcases He with h|h
  ·simp[d.SP l (by rw[← h];exact hl)]
  rw[h] at hl;injection hl with hl;subst hl;simp
 ·rw[uj]
  rcases hM j hj with h|h
  ·simp[d.DB j h]
  simp[hp j h]
 ·rw[uj,Nx st ho hi d.closed]
  rw[AM (V':=V) (S':=Lf listed) (fun _ _=>rfl) (fun j _ hl=>hV j hl)]
  exact ht
 rw[uj] at hl
 simp only[Bool.or_eq_false_iff] at hl
 exact un j hj hl.1 (by rintro rfl;rw[wX] at hl;cases hl.2)
theorem xf5 (st:AN ops b W As sl nA){F:Fence}(hF:ir F){n:Nat}{jG:Mu}{h0:ah}{w0:World}{ds:List Deferred} :
  ∀(fuel:Nat) (listed:Array Bool) (bC:List Nat) (last:Option Nat) (V:Nat→Value) (FO:Nat→Option bc) (M:Nat→Bool) (H:ah) (U:Mu) (a:Act) (w:World),
   xg lo ops b W As sl base cb nA jG h0 w0 ds bC last V FO M H listed U a w→DR P lo ops b W As sl base cb Q bC last V FO M H→ui listed ops.size=fuel→
   wpAnyIn F n P .any ops (gj lo jG h0 w0 ds Q) fuel listed a w:=by
 intro fuel
 have fin:∀(listed:Array Bool) (bC:List Nat) (last:Option Nat) (V:Nat→Value) (FO:Nat→Option bc) (M:Nat→Bool) (H:ah) (U:Mu) (a:Act) (w:World),
   xg lo ops b W As sl base cb nA jG h0 w0 ds bC last V FO M H listed U a w→DR P lo ops b W As sl base cb Q bC last V FO M H→Region.ready .any ops listed=[]→gj lo jG h0 w0 ds Q .normal a w:=by
  intro listed bC last V FO M H U a w d hD oQ
  have bs:∀i,i<ops.size→Lf listed i=true:=by
   intro i
   induction i using Nat.strongRecOn with
   |_ i ih=>
    intro hi
    cases hl:Lf listed i with
    |true=>rfl
    |false=>
     have:i∈Region.ready .any ops listed:=by
      refine mem_ready.2 ⟨?_,ops[i],by simp[hi],fun e he hb=>?_⟩
      ·unfold Lf at hl
       have:i<listed.size:=by rw[d.sz];exact hi
       simp[this] at hl ⊢;exact hl
      have:=st.Nw i ops[i] (by simp[hi]) e he hb
      exact ih e.on this (by omega)
     rw[oQ] at this;cases this
  cases bC with
  |cons w1 r=>
   obtain⟨done,ky,lf,rm⟩:=d.wr
   have h1:=rm w1 (by simp)
   rw[bs w1 (st.wlt w1 (by rw[← ky];simp))] at h1;cases h1
  |nil=>
   have e1:fe ops V (fun _=>true) cb ops.size=fe ops V (Lf listed) cb ops.size:=AM (fun i hi=>(bs i hi).symm) (fun _ _ _=>rfl)
   have e2:bU base sl FO (fun i=>!M i) As H=bU base sl FO (fun i=>Lf listed i&&!M i) As H:=Cj fun k hk=>by rw[bs k (st.alt k hk)];simp
   refine⟨_,_,U,d.ht,d.hr,d.fr,d.ds,?_⟩
   rw[← e1,← e2];exact hD.2
 induction fuel with
 |zero=>
  intro listed bC last V FO M H U a w d hD hu
  have oQ:Region.ready .any ops listed=[]:=by
   rw[List.eq_nil_iff_forall_not_mem]
   intro i hi
   obtain⟨h1,o,ho,_⟩:=mem_ready.1 hi
   rw[SR hu i (Array.getElem?_eq_some_iff.1 ho).1] at h1;cases h1
  exact⟨oQ,fin listed bC last V FO M H U a w d hD oQ⟩
 |succ fuel ih=>
  intro listed bC last V FO M H U a w d hD hu
  refine⟨fin listed bC last V FO M H U a w d hD,fun i hi=>?_⟩
  obtain⟨AP,o,ho,bs⟩:=mem_ready.1 hi
  have aP:i<ops.size:=(Array.getElem?_eq_some_iff.1 ho).1
  have Hf:i<listed.size:=by rw[d.sz];exact aP
  have dy:Lf listed i=false:=by unfold Lf;simp[Hf] at AP ⊢;exact AP
  have hp:∀j,b j i=true→Lf listed j=true:=fun j hj=>by
   obtain⟨e,he,hb,h1⟩:=st.clo j i o ho hj
   rcases h1 with rfl|h1
   ·exact bs e he hb
   exact d.closed j e.on h1 (bs e he hb)
  have s7:ui (listed.setIfInBounds i true) ops.size=fuel:=by have:=SQ aP Hf AP;omega
  have eh:=SS (cb:=cb) st (V:=V) ho dy hp d.closed
  have hy:yielded ops a.tmps=nD ops (fe ops V (Lf listed) cb ops.size):=funext (SE d.ht)
  have nE:∀j∈As,base+sl j<H.next:=fun j hj=>by have:=st.asl j hj;have:=d.hn;omega
  obtain⟨done,ky,lf,rm⟩:=d.wr
  unfold wpOpIn
  simp only[ho,hy]
  by_cases xm:i∈W
  · -- a writer
   have Cm:i∈bC:=by
    rw[← ky] at xm
    rcases List.mem_append.1 xm with h|h
    ·rw[lf i h] at dy;cases dy
    exact h
   have Hg:∃r,bC=i::r:=by
    cases bC with
    |nil=>cases Cm
    |cons w1 r=>
     rcases List.mem_cons.1 Cm with rfl|h
     ·exact⟨r,rfl⟩
     have Cl:=st.chain
     rw[← ky,List.pairwise_append] at Cl
     have:=hp w1 ((List.pairwise_cons.1 Cl.2.1).1 i h)
     rw[rm w1 (by simp)] at this;cases this
   obtain⟨r,rfl⟩:=Hg
   have AQ:i∉As:=fun h=>st.aw i h xm
   have KI:∀j,Lf listed j=true→j<ops.size:=fun j hj=>by
    rcases Nat.lt_or_ge j ops.size with h|h
    ·exact h
    unfold Lf at hj
    have:¬j<listed.size:=by rw[d.sz];omega
    simp[this] at hj
   have known:∀j,Lf listed j=true→j∉i::r∧∀w∈i::r,b w j=false:=fun j hj=>by
    refine⟨fun h=>(by rw[rm j h] at hj;cases hj),fun w hw=>?_⟩
    cases hb:b w j with
    |false=>rfl
    |true=>have:=d.closed w j hb hj;rw[rm w hw] at this;cases this
   obtain⟨_,Hh⟩:=hD
   obtain⟨rp,gy⟩:=Hh o ho
   by_cases hw:Region.wanted o (nD ops (fe ops V (Lf listed) cb ops.size))=true
   ·simp only[hw,if_true]
    rw[eh.wanted] at hw
    have hA:=rp hw _ eh
    have nV:∀o' x,(bU base sl FO (fun k=>b k i&&!M k) As H).get o'=some x→(bU base sl FO (fun k=>Lf listed k&&!M k) As H).get o'=some x:=by
     intro o' x hx
     rcases SN nE st.kZ hx with⟨k,hk,hs,rfl,hf⟩|⟨hx,_⟩
     ·simp only[bS] at hs
      exact Cg nE st.kZ hk (by simp only[hp k hs.1,hs.2,Bool.and_self]) hf
     rw[zp nE];· exact hx
     ·rintro k hk hs _ rfl
      simp only[bS,Bool.not_eq_true'] at hs
      rw[d.hH k hk hs.2] at hx;cases hx
    have hrm:Rel U lo (bU base sl FO (fun k=>b k i&&!M k) As H) w:=d.hr.sub (by rw[pO,pO];exact Nat.le_refl _) nV (Nat.le_refl _) (by have:=d.hr.bO;rw[pO] at this ⊢;exact this)
    refine Oper.wpIn_mono (fun a' w' hl=>?_) (hA F hF n U a w _ d.ht hrm)
    obtain⟨bf,h',aS,Ny,q7,DC,AB,V',ev,xo,rfl,cE⟩:=hl
    have bJ:∀(S:Nat→Bool) o',o'<lo→(bU base sl FO S As H).get o'=H.get o':=fun S o' lz=>zp nE (fun k hk _ _=>by have:=d.cg;omega)
    have oY:H.next≤h'.next:=by have:=DC.next;rwa [pO] at this
    have Hi:∀j∈As,base+sl j<h'.next:=fun j hj=>by have:=nE j hj;omega
    have hj:=z2j (hj:=bU base sl ev (fun j=>(Lf listed j||Nat.beq j i)&&!(M j||b j i)) As h') d.hr (by rw[pO,pO]) nV (fun o' lz=>by rw[bJ _ o' lz,bJ _ o' lz]) q7 DC (by rw[pO]) (fun o'=>by
     by_cases he:∃j∈As,((Lf listed j||Nat.beq j i)&&!(M j||b j i))=true∧ev j≠none∧o'=base+sl j
     ·obtain⟨j,Hj,hs,hf,rfl⟩:=he
      have iZ:j≠i:=by rintro rfl;exact AQ Hj
      cases uh:ev j with
      |none=>exact absurd uh hf
      |some x=>
       have Nz:=Cg (h:=h') (S:=fun j=>(Lf listed j||Nat.beq j i)&&!(M j||b j i)) Hi st.kZ Hj hs uh
       simp only[pP iZ,Bool.or_false,bS,Bool.not_eq_true',Bool.or_eq_false_iff] at hs
       have hk:=known j hs.1
       have KJ:FO j=some x:=by rw[← (xo j (KI j hs.1) hk.1 hk.2).2,uh]
       refine .inr ⟨by have:=d.cg;omega,?_,x,Cg nE st.kZ Hj (by simp only[hs.1,hs.2.1];rfl) KJ,Nz⟩
       rw[zp nE];· exact d.hH j Hj hs.2.1
       ·intro k hk s8 _ heq
        have:=st.kZ j Hj k hk (by omega)
        subst this
        simp[hs.2.2] at s8
     exact .inl (zp Hi fun k hk hs hf heq=>he ⟨k,hk,hs,hf,heq⟩))
    refine ih _ r (some i) V' ev (fun j=>M j||b j i) h' aS a' w' (d.advance st ho dy hp (.inr rfl) (.inr rfl) (fun j hj=>by simpa using hj) (fun j hj=>(xo j (KI j hj) (known j hj).1 (known j hj).2).1) Ny (by rw[AB,d.ds]) hj.1 (d.fr.trans hj.2) ?_ (by have:=d.hn;omega) ?_) cE s7
    ·intro j hj hl iZ
     rw[DC.gV _ (by rw[pO];exact nE j hj)]
     exact d.un j hj hl
    intro j hj hm
    simp only[Bool.or_eq_false_iff] at hm
    refine DC.born _ (by rw[pO];exact nE j hj) ?_
    rw[zp nE];· exact d.hH j hj hm.1
    ·intro k hk s8 _ heq
     have:=st.kZ j hj k hk (by omega)
     subst this
     simp[hm.2] at s8
   simp only[hw,if_false,Bool.false_eq_true]
   rw[eh.wanted,Bool.not_eq_true] at hw
   obtain⟨V',ev,xo,hv,cE⟩:=gy hw
   refine⟨Dz F hF,?_⟩
   have e:bU base sl FO (fun k=>Lf listed k&&!M k) As H=bU base sl ev (fun j=>(Lf listed j||Nat.beq j i)&&!M j) As H:=Cj fun k hk=>by
    have nW:k≠i:=by rintro rfl;exact AQ hk
    simp only[pP nW,Bool.or_false]
    cases hl:Lf listed k with
    |false=>rfl
    |true=>rw[(xo k (KI k hl) (known k hl).1 (known k hl).2).2]
   refine ih _ r (some i) V' ev M H U _ w (d.advance st ho dy hp (.inr rfl) (.inr rfl) (fun j hj=>.inl hj) (fun j hj=>(xo j (KI j hj) (known j hj).1 (known j hj).2).1) ?_ (by rw[put_defers];exact d.ds) (e▸d.hr) (e▸d.fr) (fun j hj hl _=>d.un j hj hl) d.hn d.hH) cE s7
   rw[hv];exact Dy d.ht .undef o.dst
  · -- no writer
   have kz:∀w∈bC,b w i=false:=fun w1 lX=>by
    cases hb:b w1 i with
    |false=>rfl
    |true=>have:=hp w1 hb;rw[rm w1 lX] at this;cases this
   have gh:∀l,last=some l→b i l=false:=fun l hl=>by
    cases hb:b i l with
    |false=>rfl
    |true=>rw[d.closed i l hb (d.SP l hl)] at dy;cases dy
   have DD:=hD.pc i o ho xm kz gh
   have same:FO i=none→bU base sl FO (fun k=>Lf listed k&&!M k) As H=bU base sl FO (fun j=>(Lf listed j||Nat.beq j i)&&!M j) As H:=fun hf=>Cj fun k hk=>by
    by_cases nW:k=i
    ·subst nW
     rw[hf]
     cases (Lf listed k&&!M k)<;>cases ((Lf listed k||Nat.beq k k)&&!M k)<;>rfl
    simp only[pP nW,Bool.or_false]
   have NA:M i=false:=by
    cases hm:M i with
    |false=>rfl
    |true=>rw[d.DB i hm] at dy;cases dy
   rcases DD with⟨hw,hk⟩|⟨hw,hv,hf⟩
   ·rw[← eh.wanted] at hw
    simp only[hw,if_true]
    rcases hk with⟨hR,_,hf,h1,ha⟩|⟨x,AQ,hf,ha⟩
    ·obtain⟨_,cP⟩:=AK hR ha
     have mJ:cu P lo (fe ops V (Lf listed) cb ops.size) (bU base sl FO (fun k=>Lf listed k&&!M k) As H) o.op=some (V i,bU base sl FO (fun k=>Lf listed k&&!M k) As H):=by
      rw[Cf eh.eval]
      refine cP _ fun o' x hx=>?_
      rcases SN nE st.kZ hx with⟨k,hk,hs,rfl,hf⟩|⟨hx,_⟩
      ·simp only[bS] at hs
       exact Cg nE st.kZ hk (by simp only[hp k hs.1,hs.2,Bool.and_self]) hf
      rw[zp nE];· exact hx
      ·rintro k hk hs _ rfl
       simp only[bS,Bool.not_eq_true'] at hs
       rw[d.hH k hk hs.2] at hx;cases hx
     have cN:=rj.op (o:=o) (next:=fun bf h'=>bf=bE (fe ops V (Lf listed) cb ops.size) o.dst (V i)∧h'=bU base sl FO (fun k=>Lf listed k&&!M k) As H) mJ ⟨rfl,rfl⟩
     refine Oper.wpIn_mono (fun a' w' hl=>?_) (cN F hF n U a w _ d.ht d.hr)
     obtain⟨bf,h',aS,Ny,q7,DC,AB,rfl,rfl⟩:=hl
     refine ih _ bC last V FO M H aS a' w' (d.advance st ho dy hp (.inl ⟨rfl,xm⟩) (.inl rfl) (fun j hj=>.inl hj) (fun _ _=>rfl) Ny (by rw[AB,d.ds]) (same hf▸q7) (same hf▸d.fr.trans DC) (fun j hj hl _=>?_) d.hn d.hH) hD s7
     rw[DC.gV _ (by rw[pO];exact nE j hj)]
     exact d.un j hj hl
    have M7:jk P (fe ops V (Lf listed) cb ops.size) (base+sl i) o.op=some (V i,x):=by rw[SM eh.eval];exact ha
    obtain⟨s,rp,ob,v',C,gy,uG,uM⟩:=xa5 (w:=w) d.ht M7
    have Nn:∀c,o.op≠.defer c:=fun c hc=>by rw[hc] at ha;simp[jk] at ha
    have mM:base+sl i<(bU base sl FO (fun k=>Lf listed k&&!M k) As H).next:=by rw[pO];exact nE i AQ
    have Hk:(bU base sl FO (fun k=>Lf listed k&&!M k) As H).get (base+sl i)=none:=by
     rw[zp nE];· exact d.hH i AQ NA
     ·intro k hk s8 _ heq
      have:=st.kZ i AQ k hk (by omega)
      subst this
      simp[dy] at s8
    have KF:=d.un i AQ dy
    have hle:U.le (U.put (base+sl i) (w.heap.size,0,C)):=by
     intro o y hy
     have:o≠base+sl i:=by intro ho;subst ho;rw[KF] at hy;cases hy
     rw[Mu.jN _ this];exact hy
    obtain⟨hrv,qC⟩:=uM _ hle (Mu.cB _ _ _)
    obtain⟨_,g1,g2⟩:=zq7 d.hr mM (by have:=d.cg;omega) Hk KF ob C x qC uG
    refine⟨Dz F hF,?_⟩
    rw[Oper.semAt_eq _ _ _ Nn,rp]
    have fm:(do pure (Next.value (← s)):Sem Next).run P w=.ok (Next.value v') (w.alloc ob):=by rw[Sem.run_bind,gy];rfl
    rw[fm]
    simp only[Oper.uponIn]
    have gX:∀o',(bU base sl FO (fun j=>(Lf listed j||Nat.beq j i)&&!M j) As H).get o'=((bU base sl FO (fun k=>Lf listed k&&!M k) As H).put (base+sl i) (some x)).get o':=by
     intro o'
     rw[ah.dJ _ _ _ _ mM]
     by_cases lz:o'=base+sl i
     ·subst lz
      rw[if_pos rfl]
      exact Cg nE st.kZ AQ (by simp[NA]) hf
     rw[if_neg lz]
     by_cases he:∃k∈As,(Lf listed k&&!M k)=true∧FO k≠none∧o'=base+sl k
     ·obtain⟨k,hk,s8,Hl,rfl⟩:=he
      cases NB:FO k with
      |none=>exact absurd NB Hl
      |some y=>
       rw[Cg (S:=fun k=>Lf listed k&&!M k) nE st.kZ hk s8 NB]
       refine Cg nE st.kZ hk ?_ NB
       simp only[bS] at s8 ⊢
       simp[s8.1,s8.2]
     rw[zp nE,zp nE]
     ·intro k hk s8 Hl heq;exact he ⟨k,hk,s8,Hl,heq⟩
     intro k hk s8 Hl heq
     have nW:k≠i:=by rintro rfl;exact lz heq
     simp only[pP nW,Bool.or_false] at s8
     exact he ⟨k,hk,s8,Hl,heq⟩
    have fJ:((bU base sl FO (fun k=>Lf listed k&&!M k) As H).put (base+sl i) (some x)).next=(bU base sl FO (fun j=>(Lf listed j||Nat.beq j i)&&!M j) As H).next:=by rw[ah.Kd,pO,pO]
    refine ih _ bC last V FO M H _ _ _ (d.advance st ho dy hp (.inl ⟨rfl,xm⟩) (.inl rfl) (fun j hj=>.inl hj) (fun _ _=>rfl) (Dy (d.ht.mono hle) hrv o.dst) (by rw[put_defers];exact d.ds)
     (g1.ext gX fJ) ((g2 jG h0 w0 d.fr (by have:=d.hb;omega)).ext gX fJ) (fun j hj hl iZ=>?_) d.hn d.hH) hD s7
    rw[Mu.jN _ (fun h=>iZ (st.kZ j hj i AQ (by omega)))]
    exact d.un j hj hl
   rw[← eh.wanted] at hw
   simp only[hw,if_false,Bool.false_eq_true]
   refine⟨Dz F hF,?_⟩
   refine ih _ bC last V FO M H U _ w (d.advance st ho dy hp (.inl ⟨rfl,xm⟩) (.inl rfl) (fun j hj=>.inl hj) (fun _ _=>rfl) ?_ (by rw[put_defers];exact d.ds) (same hf▸d.hr) (same hf▸d.fr) (fun j hj hl _=>d.un j hj hl) d.hn d.hH) hD s7
   rw[hv];exact Dy d.ht .undef o.dst
theorem AW.drawn {id:Nat}{ts:aL}{h:ah}(hm:P.follows .mixedOrders=true)(st:AN ops b W As sl nA){V:Nat→Value}{FO:Nat→Option bc}
  (hD:DR P lo ops b W As sl h.next ts Q W none V FO (fun _=>false) (ah.oV nA h)):AW P lo (.region id ops true) Q ts h:=by
 intro F hF n U a w ht r _
 refine wpIn_mono (wpIn_region_any hm ?_) fun _ _ _ hl=>gj.FB hl
 have hL:Lf (Array.replicate ops.size false)=fun _=>false:=by
  funext j
  unfold Lf
  by_cases hj:j<ops.size<;>simp[hj]
 have eM:(fun (i:Nat)=>(false&&!false:Bool))=fun _=>false:=rfl
 have e0:∀(as:List Nat) (H:ah),bU h.next sl FO (fun _=>false) as H=H:=by
  intro as H
  induction as with
  |nil=>rfl
  |cons k r ih=>simp only[bU,bz];exact ih
 have hu:ui (Array.replicate ops.size false) ops.size=ops.size:=by
  have:∀m,m≤ops.size→ui (Array.replicate ops.size false) m=m:=by
   intro m hm
   induction m with
   |zero=>rfl
   |succ m ih=>
    simp only[ui]
    rw[ih (by omega)]
    have:(Array.replicate ops.size false).getD m true=false:=by
     have:m<ops.size:=by omega
     simp[this]
    rw[this];simp only[bz];omega
  exact this _ (Nat.le_refl _)
 have pN:∀n,fe ops V (fun _=>false) ts n=ts:=by
  intro n
  induction n with
  |zero=>rfl
  |succ n ih=>simp only[fe,bz];exact ih
 have NC:=(r.drew).oV nA
 have sx:=(Frame.drew lo U h w).trans (Frame.oV nA)
 refine xf5 (base:=h.next) (cb:=ts) (Q:=Q) st hF ops.size _ W none V FO (fun _=>false) (ah.oV nA h) U a w.drew
  ⟨by simp,fun i j hb hl=>?_,⟨[],rfl,fun _ hw=>(by cases hw),fun w _=>by rw[hL]⟩,fun l hl=>(by cases hl),fun i hi=>(by cases hi),?_,?_,?_,fun i hi _=>?_,rfl,?_,fun i hi _=>?_,?_,Nat.le_refl _⟩ hD hu
 ·rw[hL] at hl;cases hl
 ·rw[hL,pN];exact ht
 ·rw[hL];simp only[Bool.false_and];rw[e0];exact NC
 ·rw[hL];simp only[Bool.false_and];rw[e0];exact sx
 ·exact r.R5 (by omega)
 ·rw[ah.DA];exact Nat.le_refl _
 ·rw[ah.xf]
  cases hg:h.get (h.next+sl i) with
  |none=>rfl
  |some x=>have:=ah.gx hg;omega
 have:=r.bO;exact this
end
def bm (ms:List Nat)(i j:Nat):Bool:=(ms.getD j 0).testBit i
def DE (ms:List Nat):List Edge→Nat
 |[]=>0
 |e::es=>bif Region.binds .any e then (1 <<< e.on) ||| ms.getD e.on 0 ||| DE ms es else DE ms es
theorem ND {ms:List Nat}{i:Nat}:∀ {es:List Edge},(DE ms es).testBit i=true→∃e∈es,Region.binds .any e=true∧(e.on=i∨(ms.getD e.on 0).testBit i=true)
 |[],h=>by simp[DE] at h
 |e::es,h=>by
  simp only[DE] at h
  cases hb:Region.binds .any e with
  |false=>
   rw[hb] at h
   obtain⟨e',h1,h2⟩:=ND (es:=es) h
   exact⟨e',List.mem_cons_of_mem _ h1,h2⟩
  |true=>
   rw[hb] at h
   simp only[aO,Nat.testBit_or,Bool.or_eq_true] at h
   rcases h with (h|h)|h
   ·refine⟨e,by simp,hb,.inl ?_⟩
    rw[Nat.one_shiftLeft,Nat.testBit_two_pow] at h
    exact of_decide_eq_true h
   ·exact⟨e,by simp,hb,.inr h⟩
   obtain⟨e',h1,h2⟩:=ND (es:=es) h
   exact⟨e',List.mem_cons_of_mem _ h1,h2⟩
def KK (ms:List Nat):List Nat→Bool
 |[]=>true
 |w::r=>r.all (bm ms w)&&KK ms r
def Hm (ops:Array Oper)(ms W As:List Nat):Bool:=
 Nat.beq ms.length ops.size&&KK ms W&&W.all (Nat.blt · ops.size)&&As.all (fun i=>Nat.blt i ops.size&&!W.contains i)&&
 (List.range ops.size).all fun j=>match ops[j]? with
  |none=>false
  | some o => Nat.blt (ms.getD j 0) (2 ^ j) && o.after.toList.all (fun e => !Region.binds .any e || Nat.blt e.on j) && Nat.beq (ms.getD j 0) (DE ms o.after.toList) &&
   (List.range j).all fun i=>bm ms i j||match ops[i]? with
    |none=>true
    |some oi=>oi.apart ops o
theorem SU {ms:List Nat}:∀ {W:List Nat},KK ms W=true→W.Pairwise (fun w w'=>bm ms w w'=true)
 |[],_=>.nil
 |w::r,h=>by
  simp only[KK,bS,List.all_eq_true] at h
  exact .cons h.1 (SU h.2)
def mO (As:List Nat)(n:Nat):Nat:=match As with|[]=>0|_=>n
theorem zwl {ops:Array Oper}{ms W As:List Nat}(h:Hm ops ms W As=true):AN ops (bm ms) W As id (mO As ops.size):=by
 simp only[Hm,bS,List.all_eq_true,Nat.blt_eq,List.mem_range] at h
 obtain⟨⟨⟨⟨h1,h2⟩,h3⟩,h4⟩,h5⟩:=h
 have h1:=uF h1
 have at_:∀j o,ops[j]?=some o→ms.getD j 0<2 ^ j∧(∀e∈o.after.toList,(!Region.binds .any e||Nat.blt e.on j)=true)∧ms.getD j 0=DE ms o.after.toList∧
   ∀i,i<j→(bm ms i j||match ops[i]? with|none=>true|some oi=>oi.apart ops o)=true:=by
  intro j o ho
  have:=h5 j (Array.getElem?_eq_some_iff.1 ho).1
  rw[ho] at this
  simp only[bS,List.all_eq_true,Nat.blt_eq,List.mem_range] at this
  exact⟨this.1.1.1,this.1.1.2,uF this.1.2,this.2⟩
 refine⟨fun i j hb=>?_,fun j o ho e he hb=>?_,fun i j o ho hb=>?_,SU h2,h3,fun i hi=>(h4 i hi).1,fun i hi hw=>?_,fun i hi=>(by cases As with|nil=>cases hi|cons _ _=>exact(h4 i hi).1),fun _ _ _ _ h=>h,fun i j oi oj hoi Ck fH=>?_⟩
 ·rcases Nat.lt_or_ge j ops.size with hj|hj
  ·have aP:=(at_ j ops[j] (by simp[hj])).1
   rcases Nat.lt_or_ge i j with h|h
   ·exact h
   unfold bm at hb
   rw[Nat.testBit_lt_two_pow (Nat.lt_of_lt_of_le aP (Nat.pow_le_pow_right (by omega) h))] at hb
   cases hb
  unfold bm at hb
  rw[List.getD_eq_getElem?_getD,List.getElem?_eq_none (by omega)] at hb
  simp at hb
 ·have:=(at_ j o ho).2.1 e (by simpa using he)
  simp only[hb,Bool.not_true,Bool.false_or,Nat.blt_eq] at this
  exact this
 ·have:=(at_ j o ho).2.2.1
  unfold bm at hb
  rw[this] at hb
  obtain⟨e,he,h6,h7⟩:=ND hb
  exact⟨e,by simpa using he,h6,h7⟩
 ·have:=(h4 i hi).2
  simp[List.contains_iff_mem,hw] at this
 have:=(at_ j oj Ck).2.2.2 i fH
 rw[hoi] at this
 simp only[Bool.or_eq_true] at this
 exact this.symm
def Hn:Op→Bool
 |.move _|.assign _|.pick .. | .build .. | .nilCheck _|.binOp .. | .unOp .. | .convert .. | .makeFunc .. | .slice .. | .fieldAddr .. | .field .. | .indexAddr .. | .index .. | .extract ..=>true
 |.call ⟨.builtin .cap,_,_⟩|.call ⟨.builtin .max,_,_⟩|.call ⟨.builtin .min,_,_⟩=>true
 |_=>false
theorem z5b {P:Program}{lo:Nat}{ts:aL}{h h2 h1:ah}{op:Op}{v:Value}(hp:Hn op=true)(ha:cu P lo ts h op=some (v,h1)):cu P lo ts h2 op=some (v,h2):=by
 have cO:∀ {o:Option Value},o.map (·,h)=some (v,h1)→o.map (·,h2)=some (v,h2):=fun {o} hm=>by
  obtain⟨u,h3,h4⟩:=dq hm
  simp only[bG] at h4
  obtain⟨rfl,rfl⟩:=h4
  rw[h3];rfl
 cases op<;>simp only[Hn,Bool.false_eq_true] at hp<;>simp only[cu] at ha ⊢
 case move x=>exact cO ha
 case assign x=>exact cO ha
 case pick c a b=>
  split at ha
  ·exact cO ha
  ·exact cO ha
  simp at ha
 case build t ps=>
  split at ha
  ·exact cO ha
  simp at ha
 case nilCheck x=>
  split at ha
  ·exact cO ha
  simp at ha
 case binOp o t x y u=>
  split at ha
  ·exact cO ha
  simp at ha
 case unOp o t x=>
  split at ha
  ·exact cO ha
  simp at ha
 case convert s d x=>
  split at ha
  ·exact cO ha
  simp at ha
 case makeFunc fn a b=>
  cases fn<;>simp only at ha ⊢ <;> try (simp at ha)
  split at ha
  ·simp only[ax,bG] at ha;obtain⟨rfl,rfl⟩:=ha
   rfl
  simp at ha
 case slice t x l u m=>
  split at ha
  ·exact cO ha
  simp at ha
 case fieldAddr s x f=>
  split at ha
  ·exact cO ha
  simp at ha
 case field s x f=>
  split at ha
  ·exact cO ha
  simp at ha
 case indexAddr t x y=>
  split at ha
  ·exact cO ha
  simp at ha
 case index t x y=>
  split at ha
  ·exact cO ha
  simp at ha
 case extract x i=>
  split at ha
  ·exact cO ha
  simp at ha
 case call c=>
  obtain⟨callee,args,aT⟩:=c
  cases callee with
  |builtin b=>
   simp only[cu] at ha ⊢
   split at ha
   ·rename_i l hl
    cases b<;>simp only[Bool.false_eq_true] at hp
    ·rcases aT with⟨aT⟩
     rcases aT with _|⟨t,_|⟨u,r⟩⟩<;>rcases l with _|⟨x,_|⟨y,s⟩⟩<;>simp only[qB] at ha ⊢ <;> try (simp at ha;done)
     exact cO ha
    ·rcases l with _|⟨x,s⟩<;>simp only[qB] at ha ⊢ <;> try (simp at ha;done)
     exact cO ha
    rcases l with _|⟨x,s⟩<;>simp only[qB] at ha ⊢ <;> try (simp at ha;done)
    exact cO ha
   simp at ha
  |value f=>simp at hp
  |invoke r m=>simp at hp
inductive iD where
  |op (m:Nat)
  |ck (m:Nat)
def iO (base:Nat)(mask:Nat→Bool):List (Nat×bc)→ah→ah
 |[],h=>h
 |(i,x)::r,h=>bif mask i then (iO base mask r h).put (base+i) (some x) else iO base mask r h
def xg3 (P:Program)(lo:Nat)(ops:Array Oper)(o:Oper)(ts:aL)(h:ah)(next:aL→ah→Prop):Prop:=
 ∀jT,zq ops o jT ts→rj P lo o jT h (fun bf h'=>∃v,bf=bE jT o.dst v∧next (bE ts o.dst v) h')
def zt (P:Program)(lo:Nat)(ops:Array Oper)(base:Nat)(ms W As:List Nat)(K:aL→ah→Prop):List iD→aL→List (Nat×bc)→ah→Prop
 |[],ts,fl,h=>K ts (iO base (fun _=>true) fl h)
 | .op m :: r, ts, fl, h => ∃ o, ops[m]? = some o ∧
  bif Region.wanted o (nD ops ts) then
   bif W.contains m then xg3 P lo ops o ts (iO base (fun i=>bm ms i m) fl h) (fun bf h'=>zt P lo ops base ms W As K r bf (fl.filter fun p=>!bm ms p.1 m) h')
   else bif As.contains m then ∃v x,jk P ts (base+m) o.op=some (v,x)∧zt P lo ops base ms W As K r (bE ts o.dst v) ((m,x)::fl) h
   else ∃v h1,cu P lo ts (iO base (fun i=>bm ms i m) fl h) o.op=some (v,h1)∧zt P lo ops base ms W As K r (bE ts o.dst v) fl h
  else zt P lo ops base ms W As K r (bE ts o.dst Go.undef) fl h
 | .ck m :: r, ts, fl, h => ∃ o d, ops[m]? = some o ∧ o.dst = some d ∧
  (Region.wanted o (nD ops ts)=true→∃v h1,ts[d]?=some v∧cu P lo ts (iO base (fun i=>bm ms i m) fl h) o.op=some (v,h1))∧zt P lo ops base ms W As K r ts fl h
def Ho (ops:Array Oper)(ms:List Nat)(m:Nat)(o:Oper):Bool:=
 (List.range ops.size).all fun j=>match (ops[j]?).bind (·.dst) with
  |none=>true
  |some d=>bif Nat.beq j m then !(o.looksAt ops).contains d else bm ms j m||!((o.looksAt ops).contains d||o.dst==some d)
def zu (ops:Array Oper)(ms W As:List Nat):List Nat→List Nat→List Nat→List iD→Bool
 |d,bC,todo,[]=>bC.isEmpty&&todo.isEmpty&&(List.range ops.size).all (d.contains ·)
 |d,bC,todo,.op m::r=>match ops[m]? with
  |none=>false
  | some o => !d.contains m && (List.range m).all (fun j => !bm ms j m || d.contains j) &&
   bif W.contains m then
    todo.isEmpty&&(match bC with
     |[]=>false
     | w :: Wr => Nat.beq w m && (List.range ops.size).all (fun k => d.contains k || W.contains k || bC.any (fun w => bm ms w k)) &&
      zu ops ms W As (m::d) Wr (d.filter fun k=>!W.contains k&&!As.contains k&&!bm ms k m&&match ops[k]? with|none=>true|some ok=>!Hn ok.op) r)
   else (bif As.contains m then As.all (fun k=>Nat.ble k m||!d.contains k) else vU o.op)&&zu ops ms W As (m::d) bC todo r
 |d,bC,todo,.ck m::r=>match ops[m]? with
  |none=>false
  |some o=>todo.contains m&&Ho ops ms m o&&zu ops ms W As d bC (todo.filter fun k=>!Nat.beq k m) r
def Cn:List Nat→Bool
 |[]=>true
 |a::r=>r.all (Nat.blt · a)&&Cn r
def ep (d M:Nat→Bool)(FO:Nat→Option bc):List Nat→List (Nat×bc)
 |[]=>[]
 |a::r=>match (bif d a&&!M a then FO a else none) with
  |some x=>(a,x)::ep d M FO r
  |none=>ep d M FO r
theorem Hp {d d' M M':Nat→Bool}{FO ev:Nat→Option bc}:∀ {As:List Nat},(∀i∈As,(bif d i&&!M i then FO i else none)=(bif d' i&&!M' i then ev i else none))→ep d M FO As=ep d' M' ev As
 |[],_=>rfl
 |a::r,h=>by
  have ih:=Hp (As:=r) (fun i hi=>h i (List.mem_cons_of_mem _ hi))
  simp only[ep]
  rw[h a (by simp),ih]
def kJ {α:Type}(f:Nat→α)(m:Nat)(v:α):Nat→α:=fun i=>if i=m then v else f i
theorem Co {α:Type}(f:Nat→α)(m:Nat)(v:α):kJ f m v m=v:=by simp[kJ]
theorem FE {α:Type}{f:Nat→α}{m:Nat}{v:α}{i:Nat}(h:i≠m):kJ f m v i=f i:=by simp[kJ,h]
theorem zw9 {a:Nat}{r:List Nat}(h:Cn (a::r)=true):(∀k∈r,k<a)∧Cn r=true:=by
 simp only[Cn,bS,List.all_eq_true,Nat.blt_eq] at h
 exact h
theorem KL {d M:Nat→Bool}{FO:Nat→Option bc}{a:Nat}{r:List Nat}(h:d a=false):ep d M FO (a::r)=ep d M FO r:=by
 simp only[ep,h,Bool.false_and,bz]
theorem SV {d M:Nat→Bool}{FO:Nat→Option bc}{m:Nat}{x:bc}:∀ {As:List Nat},Cn As=true→m∈As→(∀k∈As,k≤m∨d k=false)→d m=false→M m=false→
  ep (fun i=>Nat.beq i m||d i) M (kJ FO m (some x)) As=(m,x)::ep d M FO As
 |[],_,h,_,_,_=>by cases h
 |a::r,lY,hm,hk,hd,hM=>by
  obtain⟨h1,h2⟩:=zw9 lY
  by_cases ha:a=m
  ·subst ha
   have e1:ep (fun i=>Nat.beq i a||d i) M (kJ FO a (some x)) (a::r)=(a,x)::ep (fun i=>Nat.beq i a||d i) M (kJ FO a (some x)) r:=by
    simp only[ep,Nat.beq_refl,Bool.true_or,hM,Bool.not_false,Bool.and_self,aO,Co]
   rw[e1,KL hd]
   congr 1
   refine Hp fun i hi=>?_
   have:i≠a:=by have:=h1 i hi;omega
   rw[pP this,FE this];rfl
  have eI:m∈r:=(List.mem_cons.1 hm).resolve_left (Ne.symm ha)
  have SX:d a=false:=by
   rcases hk a (by simp) with h|h
   ·have:=h1 m eI;omega
   exact h
  rw[KL (by rw[pP ha,SX];rfl),KL SX]
  exact SV h2 eI (fun k kc=>hk k (List.mem_cons_of_mem _ kc)) hd hM
theorem KM {base:Nat}{mask d M:Nat→Bool}{FO:Nat→Option bc}{h:ah}:∀ {As:List Nat},iO base mask (ep d M FO As) h=bU base id FO (fun i=>mask i&&(d i&&!M i)) As h
 |[]=>rfl
 |a::r=>by
  have ih:=KM (base:=base) (mask:=mask) (d:=d) (M:=M) (FO:=FO) (h:=h) (As:=r)
  simp only[bU,ep]
  cases hd:(d a&&!M a) with
  |false=>simp only[bz,Bool.and_false];exact ih
  |true=>
   simp only[aO,Bool.and_true]
   cases hf:FO a with
   |none=>cases mask a<;>exact ih
   |some x=>simp only[iO,id];rw[ih]
theorem SY {c d M:Nat→Bool}{FO:Nat→Option bc}:∀ {As:List Nat},(ep d M FO As).filter (fun p=>!c p.1)=ep d (fun i=>M i||c i) FO As
 |[]=>rfl
 |a::r=>by
  have ih:=SY (c:=c) (d:=d) (M:=M) (FO:=FO) (As:=r)
  simp only[ep]
  have key:(bif d a&&!(M a||c a) then FO a else none)=bif c a then none else (bif d a&&!M a then FO a else none):=by
   cases d a<;>cases M a<;>cases c a<;>rfl
  rw[key]
  generalize (bif d a&&!M a then FO a else none)=z
  cases hc:c a with
  |true=>
   cases z with
   |none=>exact ih
   |some x=>
    have:List.filter (fun p:Nat×bc=>!c p.1) ((a,x)::ep d M FO r)=List.filter (fun p=>!c p.1) (ep d M FO r):=by
     rw[List.filter_cons];simp only[hc,Bool.not_true,Bool.false_eq_true,if_false]
    exact this.trans ih
  |false=>
   cases z with
   |none=>exact ih
   |some x=>
    have:List.filter (fun p:Nat×bc=>!c p.1) ((a,x)::ep d M FO r)=(a,x)::List.filter (fun p=>!c p.1) (ep d M FO r):=by
     rw[List.filter_cons];simp only[hc,Bool.not_false,if_true]
    exact this.trans (by rw[ih];rfl)
section
variable {P:Program} {lo:Nat} {ops:Array Oper} {ms W As:List Nat} {base:Nat} {cb:aL} {Q:lW}
theorem sy.congr {V V':Nat→Value}{FO ev:Nat→Option bc}{M:Nat→Bool}{H:ah}{m:Nat}{o:Oper}
  (hV:∀j,bm ms j m=true→V' j=V j) (hm:V' m=V m) (hF:∀j,bm ms j m=true→ev j=FO j) (hFm:ev m=FO m) (h:sy P lo ops (bm ms) As id base cb V FO M H m o) :
  sy P lo ops (bm ms) As id base cb V' ev M H m o:=by
 have e1:fe ops V' (fun j=>bm ms j m) cb ops.size=fe ops V (fun j=>bm ms j m) cb ops.size:=AM (fun _ _=>rfl) (fun j _ hj=>hV j hj)
 have e2:bU base id ev (fun i=>bm ms i m&&!M i) As H=bU base id FO (fun i=>bm ms i m&&!M i) As H:=Cj fun k _=>by
  cases hb:bm ms k m with
  |false=>rfl
  |true=>rw[hF k hb]
 unfold sy at h ⊢
 simp only[e1,e2,hm,hFm]
 exact h
theorem sy.pure {V:Nat→Value}{FO:Nat→Option bc}{M M':Nat→Bool}{H H':ah}{m:Nat}{o:Oper}(hp:Hn o.op=true∨m∈As)(h:sy P lo ops (bm ms) As id base cb V FO M H m o) :
  sy P lo ops (bm ms) As id base cb V FO M' H' m o:=by
 unfold sy at h ⊢
 rcases h with⟨hw,⟨h1,h0,h2,h3,ha⟩|hA⟩|h
 ·rcases hp with hp|hp
  ·exact .inl ⟨hw,.inl ⟨h1,h0,h2,_,z5b hp ha⟩⟩
  exact absurd hp h0
 ·exact .inl ⟨hw,.inr hA⟩
 exact .inr h
structure SI (P:Program) (lo:Nat) (ops:Array Oper) (ms W As:List Nat) (base:Nat) (cb:aL) (d bC todo:List Nat) (last:Option Nat) (V:Nat→Value) (FO:Nat→Option bc) (M:Nat→Bool) (H:ah) (ts:aL) (fl:List (Nat×bc)):Prop where
  pN:ts=fe ops V (fun i=>d.contains i) cb ops.size
  mu:fl=ep (fun i=>d.contains i) M FO As
  closed:∀i j,bm ms i j=true→d.contains j=true→d.contains i=true
  wr:∀w∈W,(d.contains w=true↔w∉bC)
  DF:∀w∈bC,w∈W
  KN:bC.Pairwise (fun w w'=>bm ms w w'=true)
  fo:∀i,d.contains i=false→FO i=none
  DB:∀i,M i=true→d.contains i=true
  gV:∀m o,ops[m]?=some o→d.contains m=true→m∉W→∃M0 H0,sy P lo ops (bm ms) As id base cb V FO M0 H0 m o
  now:∀m o,ops[m]?=some o→d.contains m=true→m∉W→m∉todo→(∀l,last=some l→bm ms m l=false)→sy P lo ops (bm ms) As id base cb V FO M H m o
theorem contains_cons (m:Nat)(d:List Nat)(i:Nat):(m::d).contains i=(Nat.beq i m||d.contains i):=by
 rw[List.contains_cons]
 have:(i==m)=Nat.beq i m:=by
  rw[Bool.eq_iff_iff,beq_iff_eq]
  exact⟨fun h=>by rw[h];exact Nat.beq_refl m,uF⟩
 rw[this]
theorem KO {d:List Nat}{i:Nat}:d.contains i=false↔i∉d:=by
 rw[← Bool.not_eq_true,List.contains_iff_mem]
theorem SI.rd (st:AN ops (bm ms) W As id (mO As ops.size)){d bC todo:List Nat}{last:Option Nat}{V:Nat→Value}{FO ev:Nat→Option bc}{M:Nat→Bool}{H:ah}{ts:aL}{fl Cp:List (Nat×bc)}{m:Nat}{o:Oper}{v:Value}
  (s:SI P lo ops ms W As base cb d bC todo last V FO M H ts fl) (ho:ops[m]?=some o) (hd:d.contains m=false) (hp:∀j,bm ms j m=true→d.contains j=true) (hW:m∉W)
  (KJ:∀j,j≠m→ev j=FO j) (mu:Cp=ep (fun i=>(m::d).contains i) M ev As) (h:sy P lo ops (bm ms) As id base cb (kJ V m v) ev M H m o) :
  SI P lo ops ms W As base cb (m::d) bC todo last (kJ V m v) ev M H (bE ts o.dst v) Cp:=by
 have cY:∀j,d.contains j=true→j≠m:=fun j hj h=>by subst h;rw[hd] at hj;cases hj
 have Cq:∀j,d.contains j=true→kJ V m v j=V j:=fun j hj=>FE (cY j hj)
 have SZ:∀j,d.contains j=true→ev j=FO j:=fun j hj=>KJ j (cY j hj)
 have mP:∀M0 H0 k ok,d.contains k=true→sy P lo ops (bm ms) As id base cb V FO M0 H0 k ok→sy P lo ops (bm ms) As id base cb (kJ V m v) ev M0 H0 k ok:=fun M0 H0 k ok hk DD=>
  DD.congr (fun j hj=>Cq j (s.closed j k hj hk)) (Cq k hk) (fun j hj=>SZ j (s.closed j k hj hk)) (SZ k hk)
 have eM:∀i j,bm ms i j=true→(m::d).contains j=true→(m::d).contains i=true:=fun i j hb hj=>by
  rw[contains_cons,Bool.or_eq_true] at hj ⊢
  rcases hj with hj|hj
  ·rw[uF hj] at hb;exact .inr (hp i hb)
  exact .inr (s.closed i j hb hj)
 refine⟨?_,mu,eM,fun w hw=>?_,s.DF,s.KN,fun i hi=>?_,fun i hi=>?_,fun k ok fq hk oZ=>?_,fun k ok fq hk oZ ht hl=>?_⟩
 ·have e:(fun i=>(m::d).contains i)=fun i=>d.contains i||Nat.beq i m:=by funext i;rw[contains_cons,Bool.or_comm]
  rw[e,Nx st ho hd s.closed,Co]
  rw[AM (V':=V) (S':=fun i=>d.contains i) (fun _ _=>rfl) (fun j _ hj=>Cq j hj),← s.pN]
 ·have:w≠m:=by rintro rfl;exact hW hw
  rw[contains_cons,pP this,Bool.false_or];exact s.wr w hw
 ·rw[contains_cons,Bool.or_eq_false_iff] at hi
  have cY:i≠m:=fun h=>by subst h;rw[Nat.beq_refl] at hi;exact absurd hi.1 (by simp)
  rw[KJ i cY];exact s.fo i hi.2
 ·rw[contains_cons,s.DB i hi,Bool.or_true]
 ·rw[contains_cons,Bool.or_eq_true] at hk
  by_cases Cr:k=m
  ·subst Cr;rw[ho] at fq;injection fq with fq;subst fq;exact⟨M,H,h⟩
  have hk:d.contains k=true:=hk.resolve_left (by rw[pP Cr];simp)
  obtain⟨M0,H0,h0⟩:=s.gV k ok fq hk oZ
  exact⟨M0,H0,mP M0 H0 k ok hk h0⟩
 rw[contains_cons,Bool.or_eq_true] at hk
 by_cases Cr:k=m
 ·subst Cr;rw[ho] at fq;injection fq with fq;subst fq;exact h
 have hk:d.contains k=true:=hk.resolve_left (by rw[pP Cr];simp)
 exact mP M H k ok hk (s.now k ok fq hk oZ ht hl)
theorem zxc (st:AN ops (bm ms) W As id (mO As ops.size)){V:Nat→Value}{L:Nat→Bool}{m:Nat}{o:Oper}{t:Nat}{v:Value}(ho:ops[m]?=some o)(hs:Ho ops ms m o=true)(hd:o.dst=some t)(hL:L m=true)
  (hv:(fe ops V L cb ops.size)[t]?=some v):v=V m:=by
 have aP:m<ops.size:=(Array.getElem?_eq_some_iff.1 ho).1
 have key:∀n,m<n→n≤ops.size→(fe ops V L cb n)[t]?=some v→v=V m:=by
  intro n
  induction n with
  |zero=>intro h;omega
  |succ n ih=>
   intro hmn hn hv
   simp only[fe] at hv
   by_cases NF:m=n
   ·subst NF
    rw[hL] at hv
    have:uP ops m=some t:=by simp[uP,ho,hd]
    rw[this] at hv
    simp only[aO,bE,List.getElem?_set,if_true] at hv
    split at hv
    ·injection hv with hv;exact hv.symm
    cases hv
   refine ih (by omega) (by omega) ?_
   cases hl:L n with
   |false=>rw[hl] at hv;exact hv
   |true=>
    rw[hl] at hv
    simp only[aO] at hv
    rw[Hd] at hv
    ·exact hv
    intro DG
    simp only[Ho,List.all_eq_true,List.mem_range] at hs
    have:=hs n (by omega)
    have NG:(ops[n]?).bind (·.dst)=some t:=DG
    rw[NG] at this
    simp only[pP (show n≠m by omega),bz,hd,beq_self_eq_true,Bool.or_true,Bool.not_true,Bool.or_false] at this
    have:=st.lt _ _ this
    omega
 exact key ops.size aP (Nat.le_refl _) hv
theorem zrv {V:Nat→Value}{L:Nat→Bool}{m:Nat}{o:Oper}(ho:ops[m]?=some o)(hs:Ho ops ms m o=true)(hL:L m=true)(hc:∀i j,bm ms i j=true→L j=true→L i=true) :
  zq ops o (fe ops V L cb ops.size) (fe ops V (fun j=>bm ms j m) cb ops.size):=by
 intro t ht
 refine Nu fun j hj hd=>?_
 suffices h:L j=bm ms j m by exact⟨h,fun _=>rfl⟩
 simp only[Ho,List.all_eq_true,List.mem_range] at hs
 have:=hs j hj
 have vT:(ops[j]?).bind (·.dst)=some t:=hd
 rw[vT] at this
 have S0:(o.looksAt ops).contains t=true:=by rw[List.contains_iff_mem];exact ht
 by_cases KP:j=m
 ·subst KP
  simp only[Nat.beq_refl,aO,S0,Bool.not_true] at this
  cases this
 simp only[pP KP,bz,S0,Bool.true_or,Bool.not_true,Bool.or_false] at this
 rw[this];exact hc j m this hL
theorem FF (st:AN ops (bm ms) W As id (mO As ops.size))(lY:Cn As=true):∀(items:List iD) (d bC todo:List Nat) (last:Option Nat) (V:Nat→Value) (FO:Nat→Option bc) (M:Nat→Bool) (H:ah) (ts:aL) (fl:List (Nat×bc)),
  zu ops ms W As d bC todo items=true→SI P lo ops ms W As base cb d bC todo last V FO M H ts fl→zt P lo ops base ms W As (Q .normal) items ts fl H→
  ∃V' ev,(∀i,d.contains i=true→V' i=V i∧ev i=FO i)∧DR P lo ops (bm ms) W As id base cb Q bC last V' ev M H
 |[],d,bC,todo,last,V,FO,M,H,ts,fl,hc,s,hs=>by
  simp only[zu,bS,List.isEmpty_iff,List.all_eq_true,List.mem_range] at hc
  obtain⟨⟨rfl,rfl⟩,bs⟩:=hc
  refine⟨V,FO,fun _ _=>⟨rfl,rfl⟩,fun m o ho hW _ hl=>s.now m o ho (bs m (Array.getElem?_eq_some_iff.1 ho).1) hW (by simp) hl,?_⟩
  have e1:fe ops V (fun _=>true) cb ops.size=ts:=by rw[s.pN];exact AM (fun i hi=>(bs i hi).symm) (fun _ _ _=>rfl)
  have e2:bU base id FO (fun i=>!M i) As H=iO base (fun _=>true) fl H:=by
   rw[s.mu,KM]
   refine Cj fun k hk=>?_
   rw[bs k (st.alt k hk)];simp
  rw[e1,e2];exact hs
 |.op m::r,d,bC,todo,last,V,FO,M,H,ts,fl,hc,s,hs=>by
  obtain⟨o,ho,hs⟩:=hs
  simp only[zu,ho,bS,Bool.not_eq_true',List.all_eq_true,List.mem_range,Bool.or_eq_true] at hc
  obtain⟨⟨zw,uR⟩,hc⟩:=hc
  have hp:∀j,bm ms j m=true→d.contains j=true:=fun j hj=>by
   rcases uR j (st.lt j m hj) with h|h
   ·rw[hj] at h;cases h
   exact h
  have aP:m<ops.size:=(Array.getElem?_eq_some_iff.1 ho).1
  have eh:zq ops o ts (fe ops V (fun j=>bm ms j m) cb ops.size):=by
   have:=SS (cb:=cb) (V:=V) (L:=fun i=>d.contains i) st ho zw hp s.closed
   rw[← s.pN] at this;exact this
  have heq:∀DH:Nat→Option bc,(∀j,d.contains j=true→DH j=FO j)→bU base id DH (fun i=>bm ms i m&&!M i) As H=iO base (fun i=>bm ms i m) fl H:=fun DH h1=>by
   rw[s.mu,KM]
   refine Cj fun k _=>?_
   cases hb:bm ms k m with
   |false=>rfl
   |true=>rw[hp k hb,h1 k (hp k hb)];simp
  have cY:∀j,d.contains j=true→j≠m:=fun j hj h=>by subst h;rw[zw] at hj;cases hj
  have hMm:M m=false:=by
   cases hm:M m with
   |false=>rfl
   |true=>rw[s.DB m hm] at zw;cases zw
  have xp:∀v,fe ops (kJ V m v) (fun j=>bm ms j m) cb ops.size=fe ops V (fun j=>bm ms j m) cb ops.size:=fun v=>AM (fun _ _=>rfl) (fun j _ hj=>FE (cY j (hp j hj)))
  have lift:∀(v:Value) (DH:Nat→Option bc),(∀j,j≠m→DH j=FO j)→(∃V' ev,(∀i,(m::d).contains i=true→V' i=kJ V m v i∧ev i=DH i)∧DR P lo ops (bm ms) W As id base cb Q bC last V' ev M H)→
    ∃V' ev,(∀i,d.contains i=true→V' i=V i∧ev i=FO i)∧DR P lo ops (bm ms) W As id base cb Q bC last V' ev M H:=by
   rintro v DH hF ⟨V',ev,h1,h2⟩
   refine⟨V',ev,fun i hi=>?_,h2⟩
   obtain⟨h3,h4⟩:=h1 i (by rw[contains_cons,hi,Bool.or_true])
   exact⟨by rw[h3,FE (cY i hi)],by rw[h4,hF i (cY i hi)]⟩
  by_cases KQ:W.contains m=true
  · -- a writer
   have rq:m∈W:=by rwa [List.contains_iff_mem] at KQ
   simp only[KQ,aO,bS,List.isEmpty_iff] at hc hs
   obtain⟨rfl,hc⟩:=hc
   cases bC with
   |nil=>cases hc
   |cons w Wr=>
    simp only[bS,List.all_eq_true,List.mem_range,Bool.or_eq_true,List.any_eq_true] at hc
    obtain⟨⟨hw,DI⟩,hc⟩:=hc
    have hw:=uF hw
    subst hw
    have Hq:∀k,k<ops.size→k∉W→(∀w'∈w::Wr,bm ms w' k=false)→d.contains k=true:=fun k hk oZ pQ=>by
     rcases DI k hk with (h|h)|⟨w',vV,h⟩
     ·exact h
     ·rw[List.contains_iff_mem] at h;exact absurd h oZ
     rw[pQ w' vV] at h;cases h
    have DD:PC P lo ops (bm ms) W As id base cb (w::Wr) last V FO M H:=fun k ok fq oZ pQ hl=>
     s.now k ok fq (Hq k (Array.getElem?_eq_some_iff.1 fq).1 oZ pQ) oZ (by simp) hl
    have DJ:w∉Wr:=by
     intro dx
     have:=st.lt _ _ ((List.pairwise_cons.1 s.KN).1 w dx)
     omega
    have next:∀(v:Value) (h':ah) (M':Nat→Bool) (Cp:List (Nat×bc)),(∀i,M' i=true→M i=true∨bm ms i w=true)→Cp=ep (fun i=>(w::d).contains i) M' FO As→
      zt P lo ops base ms W As (Q .normal) r (bE ts o.dst v) Cp h'→
      ∃V' ev,Ext ops (bm ms) (w::Wr) V V' FO ev∧V' w=v∧DR P lo ops (bm ms) W As id base cb Q Wr (some w) V' ev M' h':=by
     intro v h' M' Cp qz NH s9
     have Cq:∀j,d.contains j=true→kJ V w v j=V j:=fun j hj=>FE (cY j hj)
     have mP:∀M0 H0 k ok,d.contains k=true→sy P lo ops (bm ms) As id base cb V FO M0 H0 k ok→sy P lo ops (bm ms) As id base cb (kJ V w v) FO M0 H0 k ok:=fun M0 H0 k ok hk DD=>
      DD.congr (fun j hj=>Cq j (s.closed j k hj hk)) (Cq k hk) (fun _ _=>rfl) rfl
     have S1:∀k,(w::d).contains k=true→k∉W→d.contains k=true:=fun k hk oZ=>by
      rw[contains_cons,Bool.or_eq_true] at hk
      refine hk.resolve_left ?_
      have:k≠w:=by rintro rfl;exact oZ rq
      rw[pP this];simp
     have nX:SI P lo ops ms W As base cb (w::d) Wr (d.filter fun k=>!W.contains k&&!As.contains k&&!bm ms k w&&match ops[k]? with|none=>true|some ok=>!Hn ok.op) (some w) (kJ V w v) FO M' h' (bE ts o.dst v) Cp:=by
      refine⟨?_,NH,?_,fun w' vV=>?_,fun w' vV=>s.DF w' (List.mem_cons_of_mem _ vV),(List.pairwise_cons.1 s.KN).2,fun i hi=>?_,fun i hi=>?_,fun k ok fq hk oZ=>?_,fun k ok fq hk oZ ru hl=>?_⟩
      ·have e:(fun i=>(w::d).contains i)=fun i=>d.contains i||Nat.beq i w:=by funext i;rw[contains_cons,Bool.or_comm]
       rw[e,Nx st ho zw s.closed,Co]
       rw[AM (V':=V) (S':=fun i=>d.contains i) (fun _ _=>rfl) (fun j _ hj=>Cq j hj),← s.pN]
      ·intro i j hb hj
       rw[contains_cons,Bool.or_eq_true] at hj ⊢
       rcases hj with hj|hj
       ·rw[uF hj] at hb;exact .inr (hp i hb)
       exact .inr (s.closed i j hb hj)
      ·by_cases Hr:w'=w
       ·subst Hr
        rw[contains_cons,Nat.beq_refl,Bool.true_or]
        exact⟨fun _=>DJ,fun _=>rfl⟩
       rw[contains_cons,pP Hr,Bool.false_or,s.wr w' vV,List.mem_cons]
       exact⟨fun h h2=>h (.inr h2),fun h h2=>h2.elim Hr h⟩
      ·rw[contains_cons,Bool.or_eq_false_iff] at hi
       exact s.fo i hi.2
      ·rw[contains_cons]
       rcases qz i hi with h|h
       ·rw[s.DB i h,Bool.or_true]
       rw[hp i h,Bool.or_true]
      ·have hk:=S1 k hk oZ
       obtain⟨M0,H0,h0⟩:=s.gV k ok fq hk oZ
       exact⟨M0,H0,mP M0 H0 k ok hk h0⟩
      have hk:=S1 k hk oZ
      obtain⟨M0,H0,h0⟩:=s.gV k ok fq hk oZ
      refine(mP M0 H0 k ok hk h0).pure ?_
      have hb:=hl w rfl
      by_cases hA:k∈As
      ·exact .inr hA
      left
      have KR:k∈d:=by rwa [List.contains_iff_mem] at hk
      have NI:W.contains k=false:=KO.2 oZ
      have NJ:As.contains k=false:=KO.2 hA
      rw[List.mem_filter] at ru
      simp only[KR,NI,NJ,hb,fq,Bool.not_false,Bool.and_self,Bool.true_and,true_and,Bool.not_eq_true',Bool.not_eq_false] at ru
      exact ru
     obtain⟨V',ev,h1,h2⟩:=FF st lY r (w::d) Wr _ (some w) (kJ V w v) FO M' h' (bE ts o.dst v) Cp hc nX s9
     refine⟨V',ev,fun i hi xm AR=>?_,by rw[(h1 w (by rw[contains_cons,Nat.beq_refl];rfl)).1,Co],h2⟩
     have hid:d.contains i=true:=by
      by_cases S2:i∈W
      ·exact(s.wr i S2).2 xm
      exact Hq i hi S2 AR
     obtain⟨h3,h4⟩:=h1 i (by rw[contains_cons,hid,Bool.or_true])
     exact⟨by rw[h3,Cq i hid],h4⟩
    refine⟨V,FO,fun _ _=>⟨rfl,rfl⟩,DD,fun o2 KS=>?_⟩
    rw[ho] at KS;injection KS with KS;subst KS
    rw[← eh.wanted]
    constructor
    ·intro o0 jT NK
     rw[o0] at hs
     simp only[aO] at hs
     rw[heq FO (fun _ _=>rfl)]
     refine(hs jT (fun t ht=>(NK t ht).trans (eh t ht).symm)).mono fun bf h' hq=>?_
     obtain⟨v,rfl,s9⟩:=hq
     obtain⟨V',ev,k1,k2,k3⟩:=next v h' (fun i=>M i||bm ms i w) _ (fun i hi=>by simpa using hi) (by
      rw[s.mu,SY (c:=fun i=>bm ms i w)]
      refine Hp fun i hi=>?_
      have:i≠w:=by rintro rfl;exact st.aw i hi rq
      rw[contains_cons,pP this,Bool.false_or]) s9
     exact⟨V',ev,k1,by rw[k2],k3⟩
    intro o0
    rw[o0] at hs
    simp only[bz] at hs
    exact next Go.undef H M fl (fun i hi=>.inl hi) (by
     rw[s.mu]
     refine Hp fun i hi=>?_
     have:i≠w:=by rintro rfl;exact st.aw i hi rq
     rw[contains_cons,pP this,Bool.false_or]) hs
  have rq:m∉W:=by rwa [List.contains_iff_mem] at KQ
  have hWc:W.contains m=false:=KO.2 rq
  simp only[hWc,bz,bS] at hc hs
  obtain⟨iC,gW⟩:=hc
  have eK:FO m=none:=s.fo m zw
  have uk:fl=ep (fun i=>(m::d).contains i) M FO As:=by
   rw[s.mu]
   refine Hp fun i hi=>?_
   by_cases S3:i=m
   ·subst S3;rw[eK];cases (d.contains i&&!M i)<;>cases ((i::d).contains i&&!M i)<;>rfl
   rw[contains_cons,pP S3,Bool.false_or]
  by_cases o0:Region.wanted o (nD ops ts)=true
  ·have uS:=o0
   rw[eh.wanted] at uS
   simp only[o0,aO] at hs
   by_cases hA:As.contains m=true
   ·have Hs:m∈As:=by rwa [List.contains_iff_mem] at hA
    simp only[hA,aO,List.all_eq_true,Bool.or_eq_true,Bool.not_eq_true'] at iC hs
    obtain⟨v,x,ha,s9⟩:=hs
    have Aq:∀j,j≠m→kJ FO m (some x) j=FO j:=fun j hj=>FE hj
    refine lift v (kJ FO m (some x)) Aq (FF st lY r (m::d) bC todo last _ _ M H _ _ gW (s.rd st ho zw hp rq Aq ?_ ?_) s9)
    ·have e:(fun i=>(m::d).contains i)=fun i=>Nat.beq i m||d.contains i:=by funext i;rw[contains_cons]
     rw[e,SV lY Hs (fun k hk=>(iC k hk).imp (fun h=>aY h) (fun h=>h)) zw hMm,← s.mu]
    refine .inl ⟨?_,.inr ⟨x,Hs,Co _ _ _,?_⟩⟩
    ·rw[xp];exact uS
    rw[xp,Co,← SM eh.eval];exact ha
   have Hs:m∉As:=by rwa [List.contains_iff_mem] at hA
   have hAc:As.contains m=false:=KO.2 Hs
   simp only[hAc,bz] at iC hs
   obtain⟨v,h1,ha,s9⟩:=hs
   refine lift v FO (fun _ _=>rfl) (FF st lY r (m::d) bC todo last _ _ M H _ _ gW (s.rd st ho zw hp rq (fun _ _=>rfl) uk ?_) s9)
   refine .inl ⟨?_,.inl ⟨iC,Hs,eK,h1,?_⟩⟩
   ·rw[xp];exact uS
   rw[xp,Co,heq FO (fun _ _=>rfl),← Cf eh.eval];exact ha
  have o0:Region.wanted o (nD ops ts)=false:=by rwa [Bool.not_eq_true] at o0
  have uS:=o0
  rw[eh.wanted] at uS
  simp only[o0,bz] at hs
  refine lift Go.undef FO (fun _ _=>rfl) (FF st lY r (m::d) bC todo last _ _ M H _ _ gW (s.rd st ho zw hp rq (fun _ _=>rfl) uk ?_) hs)
  refine .inr ⟨?_,Co _ _ _,eK⟩
  rw[xp];exact uS
 |.ck m::r,d,bC,todo,last,V,FO,M,H,ts,fl,hc,s,hs=>by
  obtain⟨o,t,ho,NL,gP,hs⟩:=hs
  simp only[zu,ho,bS] at hc
  obtain⟨⟨_,cN⟩,hc⟩:=hc
  refine FF st lY r d bC _ last V FO M H ts fl hc ⟨s.pN,s.mu,s.closed,s.wr,s.DF,s.KN,s.fo,s.DB,s.gV,fun k ok fq hk oZ ru hl=>?_⟩ hs
  by_cases Cr:k=m
  ·subst Cr
   rw[ho] at fq;injection fq with fq;subst fq
   obtain⟨M0,H0,h0⟩:=s.gV k o ho hk oZ
   have eh:=zrv (cb:=cb) (V:=V) (L:=fun i=>d.contains i) ho cN hk s.closed
   rw[← s.pN] at eh
   have hp:∀j,bm ms j k=true→d.contains j=true:=fun j hj=>s.closed j k hj hk
   have heq:bU base id FO (fun i=>bm ms i k&&!M i) As H=iO base (fun i=>bm ms i k) fl H:=by
    rw[s.mu,KM]
    refine Cj fun j _=>?_
    cases hb:bm ms j k with
    |false=>rfl
    |true=>rw[hp j hb];simp
   rcases h0 with⟨hw,⟨h1,h2,h3,h4,ha⟩|hA⟩|h0
   ·obtain⟨v,h5,hv,rz⟩:=gP (by rw[eh.wanted];exact hw)
    rw[s.pN] at hv
    have hvm:=zxc (cb:=cb) st (V:=V) (L:=fun i=>d.contains i) ho cN NL hk hv
    subst hvm
    exact .inl ⟨hw,.inl ⟨h1,h2,h3,h5,by rw[heq,← Cf eh.eval];exact rz⟩⟩
   ·exact .inl ⟨hw,.inr hA⟩
   exact .inr h0
  refine s.now k ok fq hk oZ (fun h=>ru ?_) hl
  rw[List.mem_filter]
  exact⟨h,by rw[pP Cr];rfl⟩
theorem AW.sched {id:Nat}{ts:aL}{h:ah}{items:List iD}(hm:P.follows .mixedOrders=true)(cN:Hm ops ms W As=true)(lY:Cn As=true)(hc:zu ops ms W As [] W [] items=true)
  (hs:zt P lo ops h.next ms W As (Q .normal) items ts [] (ah.oV (mO As ops.size) h)):AW P lo (.region id ops true) Q ts h:=by
 have st:=zwl cN
 have e1:fe ops (fun _=>Go.undef) (fun _=>false) ts ops.size=ts:=by
  have:∀n,fe ops (fun _=>Go.undef) (fun _=>false) ts n=ts:=by
   intro n
   induction n with
   |zero=>rfl
   |succ n ih=>simp only[fe,bz];exact ih
  exact this _
 have e2:[]=ep (fun _=>false) (fun _=>false) (fun _=>none) As:=by
  have:∀as,ep (fun _=>false) (fun _=>false) (fun _=>none) as=[]:=by
   intro as
   induction as with
   |nil=>rfl
   |cons a r ih=>rw[KL rfl];exact ih
  exact(this As).symm
 obtain⟨V',ev,_,hD⟩:=FF (P:=P) (lo:=lo) (base:=h.next) (cb:=ts) (Q:=Q) st lY items [] W [] none (fun _=>Go.undef) (fun _=>none) (fun _=>false) (ah.oV (mO As ops.size) h) ts [] hc
  ⟨e1.symm,e2,fun _ _ _ h=>(by cases h),fun w hw=>⟨fun h=>(by cases h),fun h=>absurd hw h⟩,fun _ h=>h,st.chain,fun _ _=>rfl,fun _ h=>(by cases h),fun _ _ _ h=>(by cases h),fun _ _ _ h=>(by cases h)⟩ hs
 exact AW.drawn hm st hD
end
section
variable {P:Program} {lo:Nat} {Q:lW} {ts:aL} {h:ah}
theorem Rel.kill {U:Mu}{w:World}(r:Rel U lo h w)(l:Nat)(hl:l<h.next):Rel U lo (h.put l none) w:=
 r.sub (Nat.le_refl _) (fun o x hx=>by
  rw[ah.dJ _ _ _ _ hl] at hx
  by_cases ho:o=l
  ·simp[ho] at hx
  simpa[ho] using hx) (Nat.le_refl _) r.bO
theorem Frame.kill {U aS:Mu}{h':ah}{w w':World}(f:Frame lo U h w aS h' w')(l:Nat)(hl:l<h'.next)(cg:lo≤l):Frame lo U h w aS (h'.put l none) w' where
  le:=f.le
  size:=f.size
  next:=f.next
  kept:=f.kept
  own b hb:=by
    rintro⟨o,x,a,C,h1,h2,h3⟩
    rw[ah.dJ _ _ _ _ hl] at h2
    by_cases ho:o=l
    · simp[ho] at h2
    exact f.own b hb ⟨o,x,a,C,h1,by simpa[ho] using h2,h3⟩
  low o ho:=by rw[ah.dJ _ _ _ _ hl,if_neg (by omega)];exact f.low o ho
  gV:=f.gV
  born o ho hn:=by
    rw[ah.dJ _ _ _ _ hl]
    by_cases Dk:o=l
    · simp[Dk]
    simpa[Dk] using f.born o ho hn
  calm:=f.calm
theorem S4 {U:Mu}{w:World}(r:Rel U lo h w){l b a C:Nat}{x:bc}(cg:lo≤l)(hx:h.get l=some x)(hm:U l=some (b,a,C)):w9 U (h.put l none) b:=by
 intro o y a' C' hy eI
 rw[ah.dJ _ _ _ _ (ah.gx hx)] at hy
 by_cases ho:o=l
 ·simp[ho] at hy
 simp[ho] at hy
 exact ho (r.inj l o x y b a C a' C' cg hx hy hm eI).symm
theorem Rel.NM {U:Mu}{w:World}{o:Obj}(r:Rel U lo h w){l b C:Nat}{x:bc}(hl:l<h.next)(hm:U l=some (b,0,C))(u:w9 U h b)(hK:bF.K≤b)(hx:gd U (w.putObj b o) b 0 C x)(hf:∀off,(w.putObj b o).frozen? ⟨b,off,none⟩=false) :
  Rel U lo (h.put l (some x)) (w.putObj b o):=by
 have r':=KC o r u hK
 refine⟨fun p y hy=>?_,fun p p' y y' b' a C1 a' C2 wQ hy qW cj ig=>?_,r.pF,fun p y b' a C1 hp hy cj off=>?_,r.bO,⟨r'.kq.gl,r'.kq.ks,fun p y b' a C1 hp hy cj=>?_⟩⟩
 ·rw[ah.dJ _ _ _ _ hl] at hy
  by_cases jh:p=l
  ·subst jh;simp at hy;subst hy;exact⟨b,0,C,hm,hx⟩
  exact r'.bq p y (by simpa[jh] using hy)
 ·rw[ah.dJ _ _ _ _ hl] at hy qW
  by_cases jh:p=l
  ·by_cases sX:p'=l
   ·rw[jh,sX]
   simp[sX] at qW
   subst jh;rw[hm] at cj;injection cj with cj;injection cj with cj _;subst cj
   exact(u p' y' a' C2 qW ig).elim
  simp[jh] at hy
  by_cases sX:p'=l
  ·subst sX;rw[hm] at ig;injection ig with ig;injection ig with ig _;subst ig
   exact(u p y a C1 hy cj).elim
  simp[sX] at qW
  exact r.inj p p' y y' b' a C1 a' C2 wQ hy qW cj ig
 ·rw[ah.dJ _ _ _ _ hl] at hy
  by_cases jh:p=l
  ·subst jh;rw[hm] at cj;injection cj with cj;injection cj with cj _;subst cj;exact hf off
  exact r'.eY p y b' a C1 hp (by simpa[jh] using hy) cj off
 rw[ah.dJ _ _ _ _ hl] at hy
 by_cases jh:p=l
 ·subst jh;rw[hm] at cj;injection cj with cj;injection cj with cj _;subst cj;exact hK
 exact r'.kq.hi p y b' a C1 hp (by simpa[jh] using hy) cj
theorem Frame.NM {U aS:Mu}{h':ah}{w w':World}(f:Frame lo U h w aS h' w'){l b C:Nat}{x y:bc}(hl:l<h'.next)(cg:lo≤l)(hx:h.get l=some x)(hm:U l=some (b,0,C)):Frame lo U h w aS (h'.put l (some y)) w' where
  le:=f.le
  size:=f.size
  next:=f.next
  kept:=f.kept
  own b' hb:=by
    rintro⟨o,z,a,C',h1,h2,h3⟩
    rw[ah.dJ _ _ _ _ hl] at h2
    by_cases ho:o=l
    · subst ho
      rw[f.le _ _ hm] at h3;injection h3 with h3;injection h3 with h3 _;subst h3
      exact⟨o,x,0,C,cg,hx,hm⟩
    exact f.own b' hb ⟨o,z,a,C',h1,by simpa[ho] using h2,h3⟩
  low o ho:=by rw[ah.dJ _ _ _ _ hl,if_neg (by omega)];exact f.low o ho
  gV:=f.gV
  born o ho hn:=by
    rw[ah.dJ _ _ _ _ hl,if_neg (by rintro rfl;rw[hx] at hn;cases hn)]
    exact f.born o ho hn
  calm:=f.calm
def um (ts:aL):List (Tmp×Value)→aL
 |[]=>ts
 |(t,v)::r=>um (ts.set t v) r
theorem S5 {U:Mu}:∀(ps:List Tmp) {vs lP:List Value} {ts:aL} {tmps:Array Value},bA U vs lP→dA U ts tmps→
  dA U (um ts (ps.zip vs)) ((ps.zip lP).foldl (fun tmps (x:Tmp×Value)=>tmps.setIfInBounds x.1 x.2) tmps)
 |[],_,_,_,_,_,ht=>by simpa[um] using ht
 |p::ps,[],lP,_,_,hv,ht=>by
  have:=hv.jM;subst this
  simpa[um] using ht
 |p::ps,v::vs,lP,ts,tmps,hv,ht=>by
  obtain⟨v',r',rfl,h1,h2⟩:=hv.dE
  simp only[List.zip_cons_cons,um,List.foldl_cons]
  refine S5 ps h2 ?_
  have:=bA.set p ht h1
  simpa[dA] using this
def xc2 (L:MM)(l:Nat)(K:Bool→ah→Prop):lW
 |.normal,_,h=>K true (h.put l (some (.loop L none)))
 |.ret,_,h=>K false (h.put l (some (.loop L (some .ret))))
 |.exit id,_,h=>K false (h.put l (some (.loop L (some (.exit id)))))
 |.goto t,_,h=>K false (h.put l (some (.loop L (some (.goto t)))))
 |_,_,_=>False
theorem rj.yield {o:Oper}{fo:Operand}{args:Array Operand}{aT:Array TypeId}{l:Nat}{L:MM}{vs:List Value}{next:aL→ah→Prop}(ho:o.op=.call ⟨.value fo,args,aT⟩)
  (hf:cX ts fo=some (.func (.yield l) #[] #[])) (hl:pM ts args.toList=some vs) (hg:h.get l=some (.loop L none)) (cg:lo≤l) (hlen:vs.length=L.params.size)
  (hc:AW P lo L.assign (Kz (AW P lo L.body (xc2 L l fun b h'=>next (bE ts o.dst (.bool b)) h')) (fun _ _ _=>False)) (um L.ts (L.params.toList.zip vs)) (h.put l none)):rj P lo o ts h next:=by
 intro F hF n U a w Q ht r
 refine⟨Dz F hF,?_⟩
 rw[Oper.semAt_eq _ _ _ (fun c hc=>by rw[ho] at hc;cases hc)]
 have sx:=gf ht hf
 generalize ug:a.eval fo=fv at sx
 cases sx with
 |kS _ b C hm=>
  obtain⟨b',a',C',eI,rb⟩:=r.bq l _ hg
  rw[hm] at eI;injection eI with eI;injection eI with e1 e2;injection e2 with e2 e3;subst e1;subst e2;subst e3
  obtain⟨_,rec,AS,cN,S6,DK,has,S7,pN⟩:=rb
  have hb:=Dx AS
  have S8:=Fy ht hl
  have eJ:(#[]++args.map a.eval:Array Value).size=rec.params.size:=by
   have:=S8.1
   rw[DK,← hlen,this];simp
  have fm:(execOp a.eval o).run P w=.ok (.round b rec.fn ((rec.params.zip (#[]++args.map a.eval)).foldl (fun tmps (t,a)=>tmps.setIfInBounds t a) rec.tmps) rec.assign rec.body) w:=by
   simp only[execOp,ho,resolve,ug,Deferred.ofValue,Sem.run_bind,Sem.run_pure,Result.andThen_ok,invoke,run_yield AS eJ]
  rw[fm]
  refine⟨hF.one n,?_⟩
  refine roundIn_of_wpIn (hF.fn _) ?_
  have fc:=ah.gx hg
  have uT:Aj U lo h b:=⟨l,_,0,C,cg,hg,hm⟩
  have hu:=S4 r cg hg hm
  have rk:=r.kill l fc
  have fk:Frame lo U h w U (h.put l none) w:=(Frame.refl lo U h w).kill l fc cg
  have Ht:dA U (um L.ts (L.params.toList.zip vs)) ((rec.params.zip (#[]++args.map a.eval)).foldl (fun tmps (t,a)=>tmps.setIfInBounds t a) rec.tmps):=by
   have:=S5 L.params.toList (U:=U) (vs:=vs) (lP:=(args.map a.eval).toList) (by simpa using S8) pN
   rw[← Array.foldl_toList,DK]
   simpa using this
  rw[has]
  refine wpIn_mono (hc (F.inRound b) (hF.inRound b) (n - 1) U { tmps:=_,defers:=[] } w Ht rk (fun l' qw=>?_)) fun e a1 w1 qy=>?_
  ·have:b=l':=by simpa[Fence.inRound] using qw
   subst this;exact⟨rec,AS,hu⟩
  obtain⟨jT,h1,oO,ms1,zx,r1,f1,lf,_,hq⟩:=qy
  cases e with
  |normal=>
   have Cs:w1.heap[b]?=some (.loop rec):=by rw[f1.kept b hb hu.own];exact AS
   have Hu:=hu.frame hb f1
   refine⟨_,run_beginRound Cs (by rw[cN];rfl),?_⟩
   rw[← S7] at hq
   have kf:=Dx Cs
   have r2:=KC (.loop { rec with state:=.busy }) r1 Hu (r.kq.hi l _ b 0 _ cg hg hm)
   have f2:=KD (.loop { rec with state:=.busy }) (fk.trans f1) (.inr uT)
   have xq:(w1.putObj b (.loop { rec with state:=.busy })).heap[b]?=some (.loop { rec with state:=.busy }):=World.putObj_heap_same kf
   refine wpIn_mono (hq (F.inRound b) (hF.inRound b) (n - 1) oO a1 _ zx r2 (fun l' qw=>?_)) fun e a2 w3 mq=>?_
   ·have:b=l':=by simpa[Fence.inRound] using qw
    subst this;exact⟨_,xq,Hu⟩
   obtain⟨ts3,h3,μ3,ms3,S9,r3,f3,Ta,_,zo⟩:=mq
   have cT:=Dx xq
   have Ct:w3.heap[b]?=some (.loop { rec with state:=.busy }):=by rw[f3.kept b cT Hu.own];exact xq
   have nY:=Dx Ct
   have DL:=Hu.frame cT f3
   have Hv:=f2.trans f3
   have Dg:=Hv.le _ _ hm
   have DM:l<h3.next:=Nat.lt_of_lt_of_le fc Hv.next
   have fin:∀(jump:Option Code),next (bE ts o.dst (.bool jump.isNone)) (h3.put l (some (.loop L jump)))→
     ∃v w',(Instr.endRound b jump).run P w3=.ok v w'∧gj lo U h w a.defers (fun _=>next) .normal (a.put o.dst v) w':=by
    intro jump hn
    refine⟨_,_,run_endRound jump Ct,bE ts o.dst (.bool jump.isNone),h3.put l (some (.loop L jump)),μ3,Dy (ht.mono Hv.le) (.bool _) o.dst,?_,?_,put_defers _ _ _,hn⟩
    ·refine r3.NM DM Dg DL (r.kq.hi l _ b 0 _ cg hg hm) ⟨rfl,_,World.putObj_heap_same nY,rfl,rfl,DK,has,S7,pN.mono Hv.le⟩ fun off=>?_
     simp only[World.frozen?,World.putObj_heap_same nY]
    exact(KD _ Hv (.inr uT)).NM DM cg hg hm
   cases e with
   |normal=>exact fin none zo
   |ret=>exact fin (some .ret) zo
   |exit id=>exact fin (some (.exit id)) zo
   |goto t=>exact fin (some (.goto t)) zo
   |panic ch=>exact zo.elim
   |outgrown=>exact zo.elim
  |exit id=>exact hq.elim
  |goto l=>exact hq.elim
  |ret=>exact hq.elim
  |panic ch=>exact hq.elim
  |outgrown=>exact hq.elim
theorem zqy {U:Mu}{w:World}(o:Obj)(r:Rel U lo h w):Rel U lo h (w.alloc o)∧Frame lo U h w U h (w.alloc o)∧w9 U h w.heap.size:=by
 have hblk:∀p y b a C',h.get p=some y→U p=some (b,a,C')→b<w.heap.size:=fun p y b a C' hy hm=>by
  obtain⟨b',a',qV,h1,h2⟩:=r.bq p y hy
  rw[hm] at h1;injection h1 with h1;injection h1 with h1 _;subst h1
  exact h2.tZ
 refine⟨⟨fun p y hy=>?_,r.inj,r.pF,fun p y b a C hl hy hm off=>?_,r.bO,r.kq.step (by simp) (fun b hb _=>heap_alloc_old _ _ hb) fun o x b a C h1 h2 h3 _=>⟨o,x,a,C,h1,h2,h3⟩⟩,⟨Mu.le_refl _,by simp,Nat.le_refl _,fun b hb _=>heap_alloc_old _ _ hb,fun _ _ h=>h,fun _ _=>rfl,fun _ _=>rfl,fun _ _ h=>h,⟨rfl,rfl,rfl,fun _=>by first|exact Nat.le_refl _|exact Nat.le_add_right _ _|exact Nat.le_succ _⟩⟩,fun p y a C hy hm=>?_⟩
 ·obtain⟨b,a,C,h1,h2⟩:=r.bq p y hy
  exact⟨b,a,C,h1,h2.kept (heap_alloc_old _ _ h2.tZ)⟩
 ·rw[Ak (heap_alloc_old _ _ (hblk p y b a C hy hm))]
  exact r.eY p y b a C hl hy hm off
 exact Nat.lt_irrefl _ (hblk p y _ a C hy hm)
theorem AW.rangeFunc (tag:Nat){g:Operand}{ps:Array Tmp}{assign body:Code}{f:FuncId}{first captured:Array Value}(hg:cX ts g=some (.func (.func f) first captured))(dM:∀as w,(callFunc f as).run P w=.ok (.enter f as) w)
  (hc:nU P lo f (first.toList++[.func (.yield h.next) #[] #[]]++captured.toList) (h.alloc (.loop ⟨ps,assign,body,ts,tag⟩ none)) fun _ h'=>
   ∃L jump,h'.get h.next=some (.loop L jump)∧match jump with
    |none=>Q .normal ts (h'.put h.next none)
    |some c=>AW P lo c Q ts (h'.put h.next none)):AW P lo (.rangeFunc g ps assign body) Q ts h:=by
 intro F hF n U a w ht r ro
 refine wpIn_rangeFunc fun fn FG=>?_
 have enter:∃mark w' rec,(Instr.enterLoop fn a.tmps ps assign body F.round).run P w=.ok (w'.heap.size,mark) (w'.alloc (.loop rec))∧Rel U lo h w'∧Frame lo U h w U h w'∧oU w.heap.size U h w' mark∧
   rec.state=.ready∧rec.pending=none∧rec.params=ps∧rec.assign=assign∧rec.body=body∧rec.tmps=a.tmps:=by
  cases qC:F.round with
  |none=>
   obtain⟨k1,k2,k3⟩:=zqy (.deferred (some [])) r
   refine⟨[{ target:=.collected w.heap.size,args:=#[] }],w.alloc (.deferred (some [])),{ state:=.ready,pending:=none,fn,tmps:=a.tmps,params:=ps,assign,body,defers:=w.heap.size },?_,k1,k2,
    ⟨⟨w.heap.size,rfl,Nat.le_refl _,by rw[heap_alloc];simp,k3,fun _ h=>(by cases h)⟩,trivial⟩,rfl,rfl,rfl,rfl,rfl,rfl⟩
   rw[run_enterLoop_outer,World.size_alloc]
  |some l0=>
   obtain⟨r0,h1,_⟩:=ro l0 qC
   refine⟨[],w,{ state:=.ready,pending:=none,fn,tmps:=a.tmps,params:=ps,assign,body,defers:=r0.defers },?_,r,Frame.refl _ _ _ _,trivial,rfl,rfl,rfl,rfl,rfl,rfl⟩
   simp only[Instr.enterLoop,Sem.run_bind,run_getLoop h1,Result.andThen_ok,Sem.run_pure,run_newObj_alloc]
 obtain⟨mark,w',rec,fm,r',f',Fv,rp,gy,hs3,hs4,hs5,hs6⟩:=enter
 have rb:gd (U.put h.next (w'.heap.size,0,0)) (w'.alloc (.loop rec)) w'.heap.size 0 0 (.loop ⟨ps,assign,body,ts,tag⟩ none):=
  ⟨rfl,rec,by rw[heap_alloc];simp,rp,gy,hs3,hs4,hs5,by rw[hs6];exact ht.mono (r'.C6 _)⟩
 obtain⟨r1,f1⟩:=MO r' (.loop rec) 0 (.loop ⟨ps,assign,body,ts,tag⟩ none) rb (fun off=>by simp only[World.frozen?,heap_alloc];simp)
 have sx:=gf ht hg
 generalize ug:a.eval g=fv at sx
 cases sx with
 |func _ _ _ iM dN hx hy rx ry=>
  refine⟨w'.heap.size,mark,w'.alloc (.loop rec),{ target:=.fn (.func f) dN,args:=iM++#[.func (.yield w'.heap.size) #[] #[]] },w'.alloc (.loop rec),f,iM++#[.func (.yield w'.heap.size) #[] #[]]++dN,w'.alloc (.loop rec),fm,?_,fun f' _=>hF.fn f',by simp only[invoke];exact dM _ _,hF.one n,?_⟩
  ·have hev:Array.map a.eval #[Operand.const (.func (.yield w'.heap.size) #[] #[])]=#[.func (.yield w'.heap.size) #[] #[]]:=by simp[Act.eval]
   simp only[resolve,ug,Deferred.ofValue,Sem.run_pure,hev]
  have jh:ir F.plain:=⟨hF.fn,hF.depth,hF.alive⟩
  have iN:bA (U.put h.next (w'.heap.size,0,0)) (first.toList++[Value.func (.yield h.next) #[] #[]]++captured.toList) (iM++#[Value.func (.yield w'.heap.size) #[] #[]]++dN).toList:=by
   simp only[Array.toList_append]
   exact(((sV.2 ⟨hx,rx⟩).mono (r'.C6 _)).append (.cons (.kS _ _ 0 (Mu.cB _ _ _)) (.nil _))).append ((sV.2 ⟨hy,ry⟩).mono (r'.C6 _))
  have xc:CallsIn F (n - 1) P f (iM++#[.func (.yield w'.heap.size) #[] #[]]++dN) (w'.alloc (.loop rec)) _:=hc F.plain jh rfl (n - 1) _ _ _ iN r1
  refine xc.mono fun e w3 ⟨r2,v,h',aS,e1,e2,r3,f3,L,jump,hj,hq⟩=>?_
  subst e1
  obtain⟨b,a',C',eI,rA⟩:=r3.bq h.next _ hj
  rw[f3.le _ _ (Mu.cB _ _ _)] at eI
  injection eI with eI;injection eI with k1 k2;injection k2 with k2 k3;subst k1;subst k2;subst k3
  obtain⟨_,DN,Hw,NN,DO,_⟩:=rA
  have KT:DN.state≠.busy:=by rw[NN];cases jump<;>simp
  have hu:=S4 r3 r.bO hj (f3.le _ _ (Mu.cB _ _ _))
  have aP:=ah.gx hj
  have Hx:=r.bO
  have r4:=KC (.loop { DN with state:=.exhausted }) (r3.kill h.next aP) hu r'.kq.ks
  have f4:Frame lo U h w' aS (h'.put h.next none) (w3.putObj w'.heap.size (.loop { DN with state:=.exhausted })):=
   KD _ ((f1.trans f3).kill h.next aP Hx) (.inl (Nat.le_refl _))
  refine⟨jump,_,(run_endLoop Hw KT).trans (congrArg (fun j=>Result.ok j _) DO),?_⟩
  cases jump with
  |none=>exact⟨ts,_,aS,mark,ht.mono f4.le,r4,f'.trans f4,rfl,Fv.frame f4,hq⟩
  |some c=>
   have:=hq F hF n aS { a with defers:=mark++a.defers } _ (ht.mono f4.le) r4 (ro.frame (f'.trans f4))
   exact wpIn_mono this fun _ _ _ hl=>hl.trans (f'.trans f4) (Fv.frame f4)
theorem FH {b:Go.Frame}{a:Act}{k:List Item}{cs:List Go.Frame}{w:World}{c:Code}:step P (lone (b.atR a (.code (.scope c)::k)) cs w)=.next (lone (b.atR a (.code c::.inScope c::k)) cs w):=
 step_lone_go (by simp[stepG,stepG.exec,Frame.atR])
theorem zqh {b:Go.Frame}{a:Act}{k:List Item}{cs:List Go.Frame}{w:World}{c:Code}:step P (lone (b.atR a (.inScope c::k)) cs w)=.next (lone (b.atR a k) cs w):=
 step_lone_go (by simp[stepG,stepG.exec,Frame.atR])
theorem zju {F:Fence}{n:Nat}{c:Code}{Q:Exit→Act→World→Prop}{a:Act}{w:World}(h:c.wpIn F n P (Exit.noGoto Q) a w):(Code.scope c).wpIn F n P Q a w:=by
 intro b k cs qC hb hr
 have h0:(lone (b.atR a (.code (.scope c)::k)) cs w).fenced P F:=fenced_calm hb hr rfl
 obtain⟨e,xr,xt,hq,pJ⟩:=h b (.inScope c::k) cs qC hb hr
 cases e with
 |normal=>exact⟨.normal,xr,xt,hq,.head h0 FH (StepsIn.trans pJ (.one (fenced_calm hb hr rfl) zqh))⟩
 |exit id=>
  have hx:exitTo id (.inScope c::k)=exitTo id k:=by simp[exitTo]
  exact⟨_,xr,xt,hq,fun k' hk=>.head h0 FH (pJ.1 k' (by rw[hx];exact hk)),
   fun q7 hk=>let ⟨k₁,h1,h2⟩:=pJ.2 q7 (by rw[hx];exact hk);⟨k₁,h1,.head h0 FH h2⟩⟩
 |goto l=>exact hq.elim
 |ret=>exact⟨_,xr,xt,hq,.of_steps (.one h0 FH) pJ⟩
 |panic ch=>exact⟨_,xr,xt,hq,.of_steps (.one h0 FH) pJ⟩
 |outgrown=>exact⟨_,xr,xt,hq,.of_steps (.one h0 FH) pJ⟩
def z6r (Q:lW):lW
 |.goto _,_,_=>False
 |e,ts,h=>Q e ts h
theorem AW.scope {c:Code}(hc:AW P lo c (z6r Q) ts h):AW P lo (.scope c) Q ts h:=by
 intro F hF n U a w ht r ro
 refine zju (wpIn_mono (hc F hF n U a w ht r ro) fun e a' w' hl=>?_)
 cases e with
 |goto l=>obtain⟨_,_,_,_,_,_,_,_,_,h⟩:=hl;exact h.elim
 |normal=>exact hl
 |exit id=>exact hl
 |ret=>exact hl
 |panic ch=>exact hl
 |outgrown=>exact hl
end
structure Tb where
  call:FuncId→List Value→ah→Option (Value×ah)
  bY:Nat→List Value→ah→Option (Value×ah)
section
variable (P:Program) (lo:Nat) (orc:Tb) (n:Nat)
end
section
variable {P:Program} {lo:Nat} {orc:Tb} {n:Nat}
end
section
variable {P:Program} {lo:Nat}
end
section
variable {P:Program} {lo:Nat} {ts:aL} {h:ah}
end
section
variable {P:Program} {lo:Nat} {Q:lW} {ts:aL} {h:ah} {pv:Value}
end
section
variable {P:Program} {lo:Nat} {ts:aL} {h:ah}
end
end Go.Am
end
