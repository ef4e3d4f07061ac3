/-
 What is used in the proof of a statement (part Am1); no condition.
-/
import Derived.CallsIn
import Derived.RangeFuncIn
import Derived.OrdersIn
import Derived.Laws.World
import Derived.Laws.Cells
import Derived.Laws.IdiomCopy
import Derived.Laws.StructEq
import Derived.Laws.NewBlocks
import Derived.Laws.Append
import Derived.WideKeyRuns
set_option linter.all false
set_option maxHeartbeats 40000000
set_option maxRecDepth 100000
section
namespace Go.Am
theorem ax.{u} {α : Type u} (a b : α) : (some a = some b) = (a = b) := Option.some.injEq a b
theorem bI.{u, v} {α : Type u} {β : Type v} (a : α) (b : β) (c : α) (d : β) : ((a, b) = (c, d)) = (a = c ∧ b = d) := Prod.mk.injEq a b c d
theorem aS {n m : Nat}(h : Nat.ble n m = true) : n ≤ m := Nat.le_of_ble_eq_true h
theorem aJ.{u} {α : Sort u} {a b : α} : cond true a b = a := rfl
theorem bl.{u} {α : Sort u} {a b : α} : cond false a b = b := rfl
theorem bR (a b : Bool) : ((a && b) = true) = (a = true ∧ b = true) := Bool.and_eq_true a b
theorem sf {n m : Nat}(h : Nat.beq n m = true) : n = m := Nat.eq_of_beq_eq_true h
class bE where
  K:Nat
  obj:Nat→Option Obj
  dr:Prop
@[reducible] def bE.no:bE:=⟨0,fun _=>none,True⟩
instance (priority:=1) Oe:bE:=bE.no
variable [bE]
inductive Tr (α:Type) where
  |nil
  |node (l:Tr α) (v:Option α) (r:Tr α)
def Tr.get {α:Type}:Tr α→Nat→Option α
 |.nil,_=>none
 |.node l v r,i=>bif Nat.beq i 0 then v else bif Nat.beq (i % 2) 1 then l.get (i / 2) else r.get (i / 2 - 1)
def Tr.set {α:Type}(v:Option α):Nat→Tr α→Nat→Tr α
 |0,t,_=>t
 |n+1,.nil,i=>bif Nat.beq i 0 then .node .nil v .nil else bif Nat.beq (i % 2) 1 then .node (Tr.set v n .nil (i / 2)) none .nil else .node .nil none (Tr.set v n .nil (i / 2 - 1))
 |n+1,.node l u r,i=>bif Nat.beq i 0 then .node l v r else bif Nat.beq (i % 2) 1 then .node (Tr.set v n l (i / 2)) u r else .node l u (Tr.set v n r (i / 2 - 1))
theorem Tr.Jk {α:Type}(v:Option α):∀(n:Nat) (t:Tr α) (i j:Nat),i<n→(Tr.set v n t i).get j=if j=i then v else t.get j:=by
 intro n
 induction n with
 |zero=>intro t i j h;omega
 |succ n ih=>
  intro t i j h
  have e0:∀k:Nat,Nat.beq k 0=decide (k=0):=fun k=>by rw[Bool.eq_iff_iff];simp
  have e1:∀k:Nat,Nat.beq k 1=decide (k=1):=fun k=>by rw[Bool.eq_iff_iff];simp
  cases t with
  |nil=>
   simp only[Tr.set,e0,e1]
   by_cases h0:i=0
   ·subst h0
    simp only[decide_true,aJ,Tr.get,e0,e1]
    by_cases hj:j=0<;>simp[hj]
   by_cases h1:i % 2=1
   ·simp only[h0,h1,decide_true,decide_false,aJ,bl,Tr.get,e0,e1]
    by_cases hj:j=0
    ·have:¬j=i:=by omega
     simp[hj,Ne.symm h0]
    by_cases dN:j % 2=1
    ·simp only[hj,dN,decide_true,decide_false,aJ,bl]
     rw[ih _ _ _ (by omega)]
     by_cases gP:j=i
     ·subst gP;simp
     have:¬j / 2=i / 2:=by omega
     simp[gP,this,Tr.get]
    have:¬j=i:=by intro hh;subst hh;exact dN h1
    simp[hj,dN,this]
   simp only[h0,h1,decide_false,bl,Tr.get,e0,e1]
   by_cases hj:j=0
   ·have:¬j=i:=by omega
    simp[hj,Ne.symm h0]
   by_cases dN:j % 2=1
   ·have:¬j=i:=by intro hh;subst hh;exact h1 dN
    simp[hj,dN,this]
   simp only[hj,dN,decide_false,bl]
   rw[ih _ _ _ (by omega)]
   by_cases gP:j=i
   ·subst gP;simp
   have:¬j / 2 - 1=i / 2 - 1:=by omega
   simp[gP,this,Tr.get]
  |node l u r=>
   simp only[Tr.set,e0,e1]
   by_cases h0:i=0
   ·subst h0
    simp only[decide_true,aJ,Tr.get,e0,e1]
    by_cases hj:j=0<;>simp[hj]
   by_cases h1:i % 2=1
   ·simp only[h0,h1,decide_true,decide_false,aJ,bl,Tr.get,e0,e1]
    by_cases hj:j=0
    ·simp[hj,Ne.symm h0]
    by_cases dN:j % 2=1
    ·simp only[hj,dN,decide_true,decide_false,aJ,bl]
     rw[ih _ _ _ (by omega)]
     by_cases gP:j=i
     ·subst gP;simp
     have:¬j / 2=i / 2:=by omega
     simp[gP,this]
    have:¬j=i:=by intro hh;subst hh;exact dN h1
    simp[hj,dN,this]
   simp only[h0,h1,decide_false,bl,Tr.get,e0,e1]
   by_cases hj:j=0
   ·simp[hj,Ne.symm h0]
   by_cases dN:j % 2=1
   ·have:¬j=i:=by intro hh;subst hh;exact h1 dN
    simp[hj,dN,this]
   simp only[hj,dN,decide_false,bl]
   rw[ih _ _ _ (by omega)]
   by_cases gP:j=i
   ·subst gP;simp
   have:¬j / 2 - 1=i / 2 - 1:=by omega
   simp[gP,this]
structure Jl where
  params:Array Tmp
  assign:Code
  body:Code
  ts:List Value
  tag:Nat
inductive a7 where
  |cells (s:Nat) (cs:List Value)
  |map (es:List (Value×Value))
  |emap (es:List (Value×Value)) (k:Value) (born:Nat)
  |loop (L:Jl) (jump:Option Code)
structure ae where
  next:Nat
  tr:Tr a7
def ae.get (h:ae)(o:Nat):Option a7:=bif Nat.blt o h.next then h.tr.get o else none
def ae.put (h:ae)(o:Nat)(x:Option a7):ae:=⟨h.next,h.tr.set x (o+1) o⟩
def ae.alloc (h:ae)(x:a7):ae:=⟨h.next+1,h.tr.set (some x) (h.next+1) h.next⟩
def ae.empty:ae:=⟨0,.nil⟩
theorem ae.get_eq (h:ae)(o:Nat):h.get o=if o<h.next then h.tr.get o else none:=by
 unfold ae.get
 by_cases ho:o<h.next
 ·have:Nat.blt o h.next=true:=by rw[Nat.blt_eq];exact ho
  simp[this,ho]
 have:Nat.blt o h.next=false:=by rw[← Bool.not_eq_true,Nat.blt_eq];exact ho
 simp[this,ho]
theorem ae.fC {h:ae}{o:Nat}{x:a7}(hx:h.get o=some x):o<h.next:=by
 rw[ae.get_eq] at hx
 by_cases ho:o<h.next
 ·exact ho
 simp[ho] at hx
theorem ae.dB (h:ae)(o p:Nat)(x:Option a7)(ho:o<h.next):(h.put o x).get p=if p=o then x else h.get p:=by
 simp only[ae.get_eq,ae.put]
 rw[Tr.Jk _ _ _ _ _ (by omega)]
 by_cases hp:p=o
 ·subst hp;simp[ho]
 simp[hp]
theorem ae.gX (h:ae)(p:Nat)(x:a7):(h.alloc x).get p=if p=h.next then some x else h.get p:=by
 simp only[ae.get_eq,ae.alloc]
 rw[Tr.Jk _ _ _ _ _ (by omega)]
 by_cases hp:p=h.next
 ·subst hp;simp
 by_cases hl:p<h.next
 ·have:p<h.next+1:=by omega
  simp[hp,hl,this]
 have:¬p<h.next+1:=by omega
 simp[hp,hl,this]
@[simp] theorem ae.Hh (h:ae)(o:Nat)(x:Option a7):(h.put o x).next=h.next:=rfl
@[simp] theorem ae.z7h (h:ae)(x:a7):(h.alloc x).next=h.next+1:=rfl
theorem ae.Of (o:Nat):ae.empty.get o=none:=by simp[ae.get_eq,ae.empty]
abbrev Mu:=Nat→Option (Nat×Nat×Nat)
def ar:Nat:=4611686018427387904
def Mu.le (U ν:Mu):Prop:=∀o x,U o=some x→ν o=some x
theorem Mu.le_refl (U:Mu):U.le U:=fun _ _ h=>h
theorem Mu.le_trans {U ν ρ:Mu}(h:U.le ν)(h':ν.le ρ):U.le ρ:=fun o x hx=>h' o x (h o x hx)
def gb (C k:Nat):Nat:=if k<ar then k else C - (k - ar)
def dC:Nat:=9223372036854775808
inductive aj (U:Mu):Value→Value→Prop where
  |bool (b:Bool):aj U (.bool b) (.bool b)
  |int (k:IntKind) (n:Int):aj U (.int k n) (.int k n)
  |string (s:ByteArray):aj U (.string s) (.string s)
  |nilFunc:aj U .nilFunc .nilFunc
  |nilIface:aj U .nilIface .nilIface
  |kZ:aj U (.pointer none) (.pointer none)
  |ptr (o off b a C:Nat) (h:U o=some (b,a,C)):aj U (.pointer (some ⟨o,off,none⟩)) (.pointer (some ⟨b,a+off,none⟩))
  |dH:aj U (.slice none 0 0) (.slice none 0 0)
  |slice (o off l k b a C:Nat) (h:U o=some (b,a,C)) (hl:l≤gb C k) (hk:k<dC):aj U (.slice (some ⟨o,off,none⟩) l k) (.slice (some ⟨b,a+off,none⟩) l (gb C k))
  |bK (p p':Addr) (c:Nat):aj U (.slice (some p) 0 dC) (.slice (some p') 0 c)
  |b7 (p p':Addr):aj U (.slice (some p) 0 0) (.slice (some p') 0 0)
  |lf:aj U (.map none) (.map none)
  |map (o b C:Nat) (h:U o=some (b,0,C)):aj U (.map (some o)) (.map (some b))
  |func (f:FuncId) (xs ys bk dq:Array Value) (hx:xs.size=bk.size) (hy:ys.size=dq.size)
      (rx:∀(i:Nat) (h:i<xs.size) (h':i<bk.size),aj U xs[i] bk[i]) (ry:∀(i:Nat) (h:i<ys.size) (h':i<dq.size),aj U ys[i] dq[i]) :
      aj U (.func (.func f) xs ys) (.func (.func f) bk dq)
  |jU (l b C:Nat) (h:U l=some (b,0,C)):aj U (.func (.yield l) #[] #[]) (.func (.yield b) #[] #[])
  |iface (t:TypeId) (v v':Value) (h:aj U v v'):aj U (.iface t v) (.iface t v')
  |agg (cs ao:Array Value) (hs:cs.size=ao.size) (r:∀(i:Nat) (h:i<cs.size) (h':i<ao.size),aj U cs[i] ao[i]):aj U (.agg cs) (.agg ao)
  |tuple (cs ao:Array Value) (hs:cs.size=ao.size) (r:∀(i:Nat) (h:i<cs.size) (h':i<ao.size),aj U cs[i] ao[i]):aj U (.tuple cs) (.tuple ao)
theorem aj.mono {U ν:Mu}(hle:U.le ν){v v':Value}(h:aj U v v'):aj ν v v':=by
 induction h with
 |bool b=>exact .bool b
 |int k n=>exact .int k n
 |string s=>exact .string s
 |nilFunc=>exact .nilFunc
 |nilIface=>exact .nilIface
 |kZ=>exact .kZ
 |ptr o off b a C h=>exact .ptr o off b a C (hle _ _ h)
 |dH=>exact .dH
 |slice o off l k b a C h hl hk=>exact .slice o off l k b a C (hle _ _ h) hl hk
 |bK p p' c=>exact .bK p p' c
 |b7 p p'=>exact .b7 p p'
 |lf=>exact .lf
 |map o b C h=>exact .map o b C (hle _ _ h)
 |func f xs ys bk dq hx hy _ _ rx ry=>exact .func f xs ys bk dq hx hy rx ry
 |jU l b C h=>exact .jU l b C (hle _ _ h)
 |iface t v v' _ ih=>exact .iface t v v' ih
 |agg cs ao hs _ r=>exact .agg cs ao hs r
 |tuple cs ao hs _ r=>exact .tuple cs ao hs r
def bn (U:Mu)(l l':List Value):Prop:=l.length=l'.length∧∀(i:Nat) (v:Value),l[i]?=some v→∃v',l'[i]?=some v'∧aj U v v'
theorem bn.mono {U ν:Mu}(hle:U.le ν){l l':List Value}(h:bn U l l'):bn ν l l':=
 ⟨h.1,fun i v hv=>let ⟨v',h1,h2⟩:=h.2 i v hv;⟨v',h1,h2.mono hle⟩⟩
theorem bn.nil (U:Mu):bn U [] []:=⟨rfl,fun i v h=>by simp at h⟩
theorem bn.cons {U:Mu}{v v':Value}{l l':List Value}(hv:aj U v v')(h:bn U l l'):bn U (v::l) (v'::l'):=by
 refine⟨by simp[h.1],fun i u hu=>?_⟩
 cases i with
 |zero=>simp at hu;subst hu;exact⟨v',by simp,hv⟩
 |succ i=>simp at hu;obtain⟨u',h1,h2⟩:=h.2 i u hu;exact⟨u',by simpa using h1,h2⟩
theorem bn.iP {U:Mu}{l:List Value}(h:bn U [] l):l=[]:=by
 have:=h.1;simp at this;exact List.eq_nil_of_length_eq_zero this.symm
theorem bn.dt {U:Mu}{v:Value}{l r:List Value}(h:bn U (v::l) r):∃v' l',r=v'::l'∧aj U v v'∧bn U l l':=by
 cases r with
 |nil=>have:=h.1;simp at this
 |cons v' l'=>
  obtain⟨u,h1,h2⟩:=h.2 0 v (by simp)
  simp at h1;subst h1
  exact⟨v',l',rfl,h2,by have:=h.1;simpa using this,fun i x hx=>by have:=h.2 (i+1) x (by simpa using hx);simpa using this⟩
theorem bn.append {U:Mu}{l l' r r':List Value}(h:bn U l l')(h2:bn U r r'):bn U (l++r) (l'++r'):=by
 refine⟨by simp[h.1,h2.1],fun i v hv=>?_⟩
 by_cases hi:i<l.length
 ·rw[List.getElem?_append_left hi] at hv
  rw[List.getElem?_append_left (by have:=h.1;omega)]
  exact h.2 i v hv
 rw[List.getElem?_append_right (by omega)] at hv
 rw[List.getElem?_append_right (by have:=h.1;omega)]
 have:=h2.2 _ v hv
 rwa [h.1] at this
theorem bn.take {U:Mu}{l l':List Value}(n:Nat)(h:bn U l l'):bn U (l.take n) (l'.take n):=by
 refine⟨by simp[h.1],fun i v hv=>?_⟩
 rw[List.getElem?_take] at hv ⊢
 split at hv
 ·rename_i aU;simp only[aU,if_true];exact h.2 i v hv
 simp at hv
theorem bn.drop {U:Mu}{l l':List Value}(n:Nat)(h:bn U l l'):bn U (l.drop n) (l'.drop n):=by
 refine⟨by simp[h.1],fun i v hv=>?_⟩
 rw[List.getElem?_drop] at hv ⊢
 exact h.2 _ v hv
theorem bn.set {U:Mu}{l l':List Value}{v v':Value}(n:Nat)(h:bn U l l')(hv:aj U v v'):bn U (l.set n v) (l'.set n v'):=by
 refine⟨by simp[h.1],fun i u hu=>?_⟩
 rw[List.getElem?_set] at hu ⊢
 by_cases hi:n=i
 ·subst hi
  simp only[if_true] at hu ⊢
  by_cases hn:n<l.length
  ·simp[hn] at hu;subst hu
   have:n<l'.length:=by have:=h.1;omega
   exact⟨v',by simp[this],hv⟩
  simp[hn] at hu
 simp only[hi,if_false] at hu ⊢
 exact h.2 i u hu
theorem qa {U:Mu}{cs ao:Array Value}:bn U cs.toList ao.toList↔(cs.size=ao.size∧∀(i:Nat) (h:i<cs.size) (h':i<ao.size),aj U cs[i] ao[i]):=by
 constructor
 ·intro ⟨h1,h2⟩
  refine⟨by simpa using h1,fun i hi dD=>?_⟩
  obtain⟨v',hv,hr⟩:=h2 i cs[i] (by simp[hi])
  simp[dD] at hv
  rw[hv];exact hr
 intro ⟨h1,h2⟩
 refine⟨by simpa using h1,fun i v hv=>?_⟩
 have hi:i<cs.size:=by
  rcases Nat.lt_or_ge i cs.size with h|h
  ·exact h
  rw[List.getElem?_eq_none (by simpa using h)] at hv;simp at hv
 simp[hi] at hv
 subst hv
 exact⟨ao[i],by simp[h1▸hi],h2 i hi (h1▸hi)⟩
theorem aj.ky {U:Mu}{cs ao:List Value}(h:bn U cs ao):aj U (.agg cs.toArray) (.agg ao.toArray):=by
 have:=(qa (U:=U) (cs:=cs.toArray) (ao:=ao.toArray)).1 (by simpa using h)
 exact .agg _ _ this.1 this.2
theorem aj.qb {U:Mu}{cs ao:List Value}(h:bn U cs ao):aj U (.tuple cs.toArray) (.tuple ao.toArray):=by
 have:=(qa (U:=U) (cs:=cs.toArray) (ao:=ao.toArray)).1 (by simpa using h)
 exact .tuple _ _ this.1 this.2
theorem aj.undef {U:Mu}:aj U Go.undef Go.undef:=.tuple #[] #[] rfl (fun i h=>by simp at h)
theorem aj.CS {U:Mu}{cs:Array Value}{v':Value}(h:aj U (.agg cs) v'):∃ao,v'=.agg ao∧bn U cs.toList ao.toList:=by
 cases h with
 |agg _ ao hs r=>exact⟨ao,rfl,qa.2 ⟨hs,r⟩⟩
theorem aj.Og {U:Mu}{cs:Array Value}{v':Value}(h:aj U (.tuple cs) v'):∃ao,v'=.tuple ao∧bn U cs.toList ao.toList:=by
 cases h with
 |tuple _ ao hs r=>exact⟨ao,rfl,qa.2 ⟨hs,r⟩⟩
theorem aj.UY {U:Mu}{v v':Value}(h:aj U v v'):v'.oneCell'=v.oneCell':=by cases h<;>rfl
theorem aj.cells {U:Mu}{v v':Value}(h:aj U v v'):bn U v.cells.toList v'.cells.toList:=by
 cases h with
 |agg cs ao hs r=>exact qa.2 ⟨hs,r⟩
 |tuple cs ao hs r=>simpa[Value.cells] using bn.cons (aj.tuple cs ao hs r) (bn.nil U)
 |bool b=>simpa[Value.cells] using bn.cons (aj.bool b) (bn.nil U)
 |int k n=>simpa[Value.cells] using bn.cons (aj.int k n) (bn.nil U)
 |string s=>simpa[Value.cells] using bn.cons (aj.string s) (bn.nil U)
 |nilFunc=>simpa[Value.cells] using bn.cons (aj.nilFunc) (bn.nil U)
 |nilIface=>simpa[Value.cells] using bn.cons (aj.nilIface) (bn.nil U)
 |kZ=>simpa[Value.cells] using bn.cons (aj.kZ) (bn.nil U)
 |ptr o off b a C h=>simpa[Value.cells] using bn.cons (aj.ptr o off b a C h) (bn.nil U)
 |dH=>simpa[Value.cells] using bn.cons (aj.dH) (bn.nil U)
 |slice o off l k b a C h hl hk=>simpa[Value.cells] using bn.cons (aj.slice o off l k b a C h hl hk) (bn.nil U)
 |bK p p' c=>simpa[Value.cells] using bn.cons (aj.bK p p' c) (bn.nil U)
 |b7 p p'=>simpa[Value.cells] using bn.cons (aj.b7 p p') (bn.nil U)
 |lf=>simpa[Value.cells] using bn.cons (aj.lf) (bn.nil U)
 |map o b C h=>simpa[Value.cells] using bn.cons (aj.map o b C h) (bn.nil U)
 |func f xs ys bk dq hx hy rx ry=>simpa[Value.cells] using bn.cons (aj.func f xs ys bk dq hx hy rx ry) (bn.nil U)
 |jU l b C h=>simpa[Value.cells] using bn.cons (aj.jU l b C h) (bn.nil U)
 |iface t v v' h=>simpa[Value.cells] using bn.cons (aj.iface t v v' h) (bn.nil U)
def AP (U:Mu)(p:Value×Value)(e:MapEntry):Prop:=e.key=p.1∧aj U p.2 e.val
def fQ (U:Mu)(es:List (Value×Value))(entries:Array MapEntry)(clock:Nat):Prop:=
 ∃l:List (Value×Value),l.Perm es∧(l.map (·.1)).Nodup∧l.length=entries.size∧(∀(i:Nat) p e,l[i]?=some p→entries[i]?=some e→AP U p e)∧
  (entries.toList.map (·.born)).Pairwise (·<·)∧(∀e∈entries.toList,e.born<clock)
def fp (U:Mu)(w:World)(b a C:Nat):a7→Prop
 | .cells s cs => b < w.heap.size ∧ (∀ (i : Nat) v, cs[i]? = some v → ∃ v', w.cell? ⟨b, a + i, none⟩ = some v' ∧ aj U v v') ∧
  (0<s→cs.length≤C*s∧∀i,i<C*s→∃v',w.cell? ⟨b,a+i,none⟩=some v')
 |.map es=>a=0∧∃entries clock,w.heap[b]?=some (.map entries clock)∧fQ U es entries clock
 |.emap es k born=>a=0∧∃entries clock,w.heap[b]?=some (.map entries clock)∧fQ U es entries clock∧∃e∈entries.toList,e.key=k∧e.born=born
 |.loop L jump=>a=0∧∃r:Loop,w.heap[b]?=some (.loop r)∧r.state=(if jump.isNone then .ready else .done)∧r.pending=jump∧r.params=L.params∧r.assign=L.assign∧r.body=L.body∧bn U L.ts r.tmps.toList
def xV (U:Mu)(lo:Nat)(h:ae)(b:Nat):Prop:=∃o x a C,lo≤o∧h.get o=some x∧U o=some (b,a,C)
structure Gl (U:Mu) (lo:Nat) (h:ae) (w:World):Prop where
  gl:∀b,b<bE.K→w.heap[b]?=bE.obj b
  ks:bE.K≤w.heap.size
  hi:∀o x b a C,lo≤o→h.get o=some x→U o=some (b,a,C)→bE.K≤b
theorem Gl.step {U aN:Mu}{lo eQ:Nat}{h h':ae}{w w':World}(g:Gl U lo h w)(hs:w.heap.size≤w'.heap.size)(hk:∀b,b<w.heap.size→¬xV U lo h b→w'.heap[b]?=w.heap[b]?)(ho:∀o x b a C,eQ≤o→h'.get o=some x→aN o=some (b,a,C)→b<w.heap.size→xV U lo h b):Gl aN eQ h' w' where
  gl b hb:=by
    rw[hk b (Nat.lt_of_lt_of_le hb g.ks) fun⟨o,x,a,C,h1,h2,h3⟩=>by have:=g.hi o x b a C h1 h2 h3;omega]
    exact g.gl b hb
  ks:=Nat.le_trans g.ks hs
  hi o x b a C h1 h2 h3:=by
    by_cases hb:b<w.heap.size
    · obtain⟨o',x',a',C',k1,k2,k3⟩:=ho o x b a C h1 h2 h3 hb
      exact g.hi o' x' b a' C' k1 k2 k3
    have:=g.ks;omega
theorem Gl.same {U:Mu}{lo eQ:Nat}{h h':ae}{w w':World}(g:Gl U lo h w)(hw:w'.heap=w.heap)(hs:∀o x,eQ≤o→h'.get o=some x→lo≤o∧∃y,h.get o=some y):Gl U eQ h' w':=
 g.step (by rw[hw];exact Nat.le_refl _) (fun b _ _=>by rw[hw]) fun o x b a C h1 h2 h3 _=>let ⟨k1,y,k2⟩:=hs o x h1 h2;⟨o,y,a,C,k1,k2,h3⟩
structure Rel (U:Mu) (lo:Nat) (h:ae) (w:World):Prop where
  be:∀o x,h.get o=some x→∃b a C,U o=some (b,a,C)∧fp U w b a C x
  inj:∀o o' x x' b a C a' C',lo≤o→h.get o=some x→h.get o'=some x'→U o=some (b,a,C)→U o'=some (b,a',C')→o=o'
  ng:∀o x,U o=some x→o<h.next
  eo:∀o x b a C,lo≤o→h.get o=some x→U o=some (b,a,C)→∀off,w.frozen? ⟨b,off,none⟩=false
  bA:lo≤h.next
  jA:Gl U lo h w
structure Calm (w w':World):Prop where
  os:w'.os=w.os
  out:w'.output=w.output
  tape:w'.tape=w.tape
  drawn:bE.dr→w.drawn≤w'.drawn
theorem Calm.refl (w:World):Calm w w:=⟨rfl,rfl,rfl,fun _=>Nat.le_refl _⟩
theorem Calm.trans {a b c:World}(h:Calm a b)(g:Calm b c):Calm a c:=⟨g.1.trans h.1,g.2.trans h.2,g.3.trans h.3,fun hd=>Nat.le_trans (h.4 hd) (g.4 hd)⟩
structure Frame (lo:Nat) (U:Mu) (h:ae) (w:World) (aN:Mu) (h':ae) (w':World):Prop where
  le:U.le aN
  size:w.heap.size≤w'.heap.size
  next:h.next≤h'.next
  kept:∀b,b<w.heap.size→¬xV U lo h b→w'.heap[b]?=w.heap[b]?
  own:∀b,b<w.heap.size→xV aN lo h' b→xV U lo h b
  low:∀o,o<lo→h'.get o=h.get o
  fR:∀o,o<h.next→aN o=U o
  born:∀o,o<h.next→h.get o=none→h'.get o=none
  calm:Calm w w'
theorem Frame.refl (lo:Nat)(U:Mu)(h:ae)(w:World):Frame lo U h w U h w:=⟨Mu.le_refl U,Nat.le_refl _,Nat.le_refl _,fun _ _ _=>rfl,fun _ _ h=>h,fun _ _=>rfl,fun _ _=>rfl,fun _ _ h=>h,.refl w⟩
theorem Frame.trans {lo:Nat}{U mK zD:Mu}{h h1 h2:ae}{w w1 w2:World}(f:Frame lo U h w mK h1 w1)(g:Frame lo mK h1 w1 zD h2 w2):Frame lo U h w zD h2 w2 where
  le:=Mu.le_trans f.le g.le
  size:=Nat.le_trans f.size g.size
  next:=Nat.le_trans f.next g.next
  kept b hb hn:=by rw[g.kept b (Nat.lt_of_lt_of_le hb f.size) (fun ho=>hn (f.own b hb ho)),f.kept b hb hn]
  own b hb ho:=f.own b hb (g.own b (Nat.lt_of_lt_of_le hb f.size) ho)
  low o ho:=by rw[g.low o ho,f.low o ho]
  fR o ho:=by rw[g.fR o (Nat.lt_of_lt_of_le ho f.next),f.fR o ho]
  born o ho hn:=g.born o (Nat.lt_of_lt_of_le ho f.next) (f.born o ho hn)
  calm:=f.calm.trans g.calm
theorem Gl.frame {U aN:Mu}{lo:Nat}{h h':ae}{w w':World}(g:Gl U lo h w)(f:Frame lo U h w aN h' w'):Gl aN lo h' w':=
 g.step f.size f.kept fun o x b a C hl hx hm hb=>f.own b hb ⟨o,x,a,C,hl,hx,hm⟩
theorem Rel.Jm {U aN:Mu}{lo:Nat}{h h':ae}{w w':World}(r:Rel U lo h w)
 (be:∀o x,h'.get o=some x→∃b a C,aN o=some (b,a,C)∧fp aN w' b a C x)
 (inj:∀o o' x x' b a C a' C',lo≤o→h'.get o=some x→h'.get o'=some x'→aN o=some (b,a,C)→aN o'=some (b,a',C')→o=o')
 (ng:∀o x,aN o=some x→o<h'.next)
 (eo:∀o x b a C,lo≤o→h'.get o=some x→aN o=some (b,a,C)→∀off,w'.frozen? ⟨b,off,none⟩=false)
 (bA:lo≤h'.next) (f:Frame lo U h w aN h' w'):Rel aN lo h' w'∧Frame lo U h w aN h' w':=⟨⟨be,inj,ng,eo,bA,r.jA.frame f⟩,f⟩
theorem AQ {w w':World}{b off:Nat}(h:w'.heap[b]?=w.heap[b]?):w'.cell? ⟨b,off,none⟩=w.cell? ⟨b,off,none⟩:=by
 simp[World.cell?,h]
theorem xW {w w':World}{b off:Nat}(h:w'.heap[b]?=w.heap[b]?):w'.frozen? ⟨b,off,none⟩=w.frozen? ⟨b,off,none⟩:=by
 simp[World.frozen?,h]
theorem fQ.mono {U ν:Mu}(hle:U.le ν){es:List (Value×Value)}{entries:Array MapEntry}{clock:Nat}(h:fQ U es entries clock):fQ ν es entries clock:=by
 obtain⟨l,h1,h0,h2,h3,h4,h5⟩:=h
 exact⟨l,h1,h0,h2,fun i p e hp he=>⟨(h3 i p e hp he).1,(h3 i p e hp he).2.mono hle⟩,h4,h5⟩
theorem fp.mono {U ν:Mu}(hle:U.le ν){w:World}{b a C:Nat}{x:a7}(h:fp U w b a C x):fp ν w b a C x:=by
 cases x with
 |cells s cs=>exact⟨h.1,fun i v hv=>let ⟨v',h1,h2⟩:=h.2.1 i v hv;⟨v',h1,h2.mono hle⟩,h.2.2⟩
 |map es=>obtain⟨h1,entries,clock,h2,h3⟩:=h;exact⟨h1,entries,clock,h2,h3.mono hle⟩
 |emap es k born=>obtain⟨h1,entries,clock,h2,h3,h4⟩:=h;exact⟨h1,entries,clock,h2,h3.mono hle,h4⟩
 |loop L jump=>obtain⟨h1,r,h2,h3,h4,h5,h6,h7,h8⟩:=h;exact⟨h1,r,h2,h3,h4,h5,h6,h7,h8.mono hle⟩
theorem fp.rD {U:Mu}{w:World}{b a C:Nat}{x:a7}(h:fp U w b a C x):b<w.heap.size:=by
 cases x with
 |cells s cs=>exact h.1
 |map es=>
  obtain⟨_,entries,clock,h2,_⟩:=h
  rcases Nat.lt_or_ge b w.heap.size with h'|h'
  ·exact h'
  simp[Array.getElem?_eq_none h'] at h2
 |emap es k born=>
  obtain⟨_,entries,clock,h2,_⟩:=h
  rcases Nat.lt_or_ge b w.heap.size with h'|h'
  ·exact h'
  simp[Array.getElem?_eq_none h'] at h2
 |loop L jump=>
  obtain⟨_,r,h2,_⟩:=h
  rcases Nat.lt_or_ge b w.heap.size with h'|h'
  ·exact h'
  simp[Array.getElem?_eq_none h'] at h2
theorem fp.kept {U:Mu}{w w':World}{b a C:Nat}{x:a7}(h:fp U w b a C x)(hb:w'.heap[b]?=w.heap[b]?):fp U w' b a C x:=by
 have aU:b<w'.heap.size:=by
  have h0:=h.rD
  rcases Nat.lt_or_ge b w'.heap.size with h'|h'
  ·exact h'
  rw[Array.getElem?_eq_none h',Array.getElem?_eq_getElem h0] at hb;simp at hb
 cases x with
 |cells s cs=>
  refine⟨aU,fun i v hv=>?_,fun hs=>⟨(h.2.2 hs).1,fun i hi=>?_⟩⟩
  ·obtain⟨v',h1,h2⟩:=h.2.1 i v hv
   exact⟨v',by rw[AQ hb];exact h1,h2⟩
  obtain⟨v',h1⟩:=(h.2.2 hs).2 i hi
  exact⟨v',by rw[AQ hb];exact h1⟩
 |map es=>obtain⟨h1,entries,clock,h2,h3⟩:=h;exact⟨h1,entries,clock,by rw[hb];exact h2,h3⟩
 |emap es k born=>obtain⟨h1,entries,clock,h2,h3⟩:=h;exact⟨h1,entries,clock,by rw[hb];exact h2,h3⟩
 |loop L jump=>obtain⟨h1,r,h2,h3⟩:=h;exact⟨h1,r,by rw[hb];exact h2,h3⟩
theorem Rel.sub {U:Mu}{lo eQ:Nat}{h h':ae}{w:World}(r:Rel U lo h w)(hn:h.next≤h'.next)(hs:∀o x,h'.get o=some x→h.get o=some x)(cw:lo≤eQ)(hl:eQ≤h'.next):Rel U eQ h' w where
  bA:=hl
  jA:=r.jA.same rfl fun o x h1 h2=>⟨Nat.le_trans cw h1,x,hs o x h2⟩
  be o x hx:=r.be o x (hs o x hx)
  inj o o' x x' b a C a' C' hl hx tD:=r.inj o o' x x' b a C a' C' (Nat.le_trans cw hl) (hs o x hx) (hs o' x' tD)
  ng o x hx:=Nat.lt_of_lt_of_le (r.ng o x hx) hn
  eo o x b a C hl hx:=r.eo o x b a C (Nat.le_trans cw hl) (hs o x hx)
theorem Rel.drew {U:Mu}{lo:Nat}{h:ae}{w:World}(r:Rel U lo h w):Rel U lo h w.drew where
  be o x hx:=let ⟨b,a,C,h1,h2⟩:=r.be o x hx;⟨b,a,C,h1,h2.kept rfl⟩
  inj:=r.inj
  ng:=r.ng
  eo:=r.eo
  bA:=r.bA
  jA:=r.jA.same rfl fun o x h1 h2=>⟨h1,x,h2⟩
theorem Frame.drew (lo:Nat)(U:Mu)(h:ae)(w:World):Frame lo U h w U h w.drew:=⟨Mu.le_refl U,Nat.le_refl _,Nat.le_refl _,fun _ _ _=>rfl,fun _ _ h=>h,fun _ _=>rfl,fun _ _=>rfl,fun _ _ h=>h,⟨rfl,rfl,rfl,fun _=>by first|exact Nat.le_refl _|exact Nat.le_add_right _ _|exact Nat.le_succ _⟩⟩
end Go.Am
end
section
namespace Go.Am
variable [bE]
def Mu.put (U:Mu)(o:Nat)(x:Nat×Nat×Nat):Mu:=fun p=>if p=o then some x else U p
theorem Mu.ct (U:Mu)(o:Nat)(x:Nat×Nat×Nat):U.put o x o=some x:=by simp[Mu.put]
theorem Mu.iQ {U:Mu}{o p:Nat}(x:Nat×Nat×Nat)(h:p≠o):U.put o x p=U p:=by simp[Mu.put,h]
theorem Rel.Oh {U:Mu}{lo:Nat}{h:ae}{w:World}(r:Rel U lo h w){o:Nat}(ho:h.next≤o):U o=none:=by
 cases hx:U o with
 |none=>rfl
 |some x=>have:=r.ng o x hx;omega
theorem Rel.AR {U:Mu}{lo:Nat}{h:ae}{w:World}(r:Rel U lo h w)(x:Nat×Nat×Nat):U.le (U.put h.next x):=by
 intro o y hy
 have:o≠h.next:=by
  intro ho;subst ho
  rw[r.Oh (Nat.le_refl _)] at hy;simp at hy
 rw[Mu.iQ _ this];exact hy
theorem heap_alloc (w:World)(o:Obj):(w.alloc o).heap=w.heap.push o:=rfl
theorem heap_alloc_old (w:World)(o:Obj){b:Nat}(hb:b<w.heap.size):(w.alloc o).heap[b]?=w.heap[b]?:=by
 have:b≠w.heap.size:=by omega
 rw[heap_alloc,Array.getElem?_push];simp[this]
theorem Jn {U:Mu}{lo:Nat}{h:ae}{w:World}(r:Rel U lo h w)(ob:Obj)(C:Nat)(x:a7)
  (hx:fp (U.put h.next (w.heap.size,0,C)) (w.alloc ob) w.heap.size 0 C x) (hf:∀off,(w.alloc ob).frozen? ⟨w.heap.size,off,none⟩=false) :
  Rel (U.put h.next (w.heap.size,0,C)) lo (h.alloc x) (w.alloc ob)∧Frame lo U h w (U.put h.next (w.heap.size,0,C)) (h.alloc x) (w.alloc ob):=by
 have hle:=r.AR (w.heap.size,0,C)
 have hold:∀o y,h.get o=some y→o≠h.next:=fun o y hy=>by have:=ae.fC hy;omega
 have hblk:∀o y b a C',h.get o=some y→U o=some (b,a,C')→b<w.heap.size:=fun o y b a C' hy hm=>by
  obtain⟨b',a',oy,h1,h2⟩:=r.be o y hy
  rw[hm] at h1;injection h1 with h1;injection h1 with h1 _;subst h1
  exact h2.rD
 constructor
 ·constructor
  ·intro o y hy
   rw[ae.gX] at hy
   by_cases ho:o=h.next
   ·subst ho
    simp at hy;subst hy
    exact⟨_,_,_,Mu.ct _ _ _,hx⟩
   simp[ho] at hy
   obtain⟨b,a,C',h1,h2⟩:=r.be o y hy
   exact⟨b,a,C',by rw[Mu.iQ _ ho];exact h1,(h2.mono hle).kept (heap_alloc_old _ _ h2.rD)⟩
  ·intro o o' y y' b a C' a' oy hl hy oz hm dZ
   rw[ae.gX] at hy oz
   by_cases ho:o=h.next
   ·by_cases lg:o'=h.next
    ·rw[ho,lg]
    simp[lg] at oz
    rw[Mu.iQ _ lg] at dZ
    have:=hblk o' y' _ _ _ oz dZ
    subst ho;rw[Mu.ct] at hm;injection hm with hm;injection hm with hm _;omega
   simp[ho] at hy
   rw[Mu.iQ _ ho] at hm
   have h1:=hblk o y _ _ _ hy hm
   by_cases lg:o'=h.next
   ·subst lg;rw[Mu.ct] at dZ;injection dZ with dZ;injection dZ with dZ _;omega
   simp[lg] at oz
   rw[Mu.iQ _ lg] at dZ
   exact r.inj o o' y y' b a C' a' oy hl hy oz hm dZ
  ·intro o y hy
   by_cases ho:o=h.next
   ·subst ho;simp
   rw[Mu.iQ _ ho] at hy
   have:=r.ng o y hy
   simp;omega
  ·intro o y b a C' hl hy hm off
   rw[ae.gX] at hy
   by_cases ho:o=h.next
   ·subst ho
    rw[Mu.ct] at hm;injection hm with hm;injection hm with hm _;subst hm
    exact hf off
   simp[ho] at hy
   rw[Mu.iQ _ ho] at hm
   rw[xW (heap_alloc_old _ _ (hblk o y _ _ _ hy hm))]
   exact r.eo o y b a C' hl hy hm off
  ·have:=r.bA;simp;omega
  refine r.jA.step (by simp) (fun b hb _=>heap_alloc_old _ _ hb) fun o y b a C' hl hy hm hb=>?_
  rw[ae.gX] at hy
  by_cases ho:o=h.next
  ·subst ho;rw[Mu.ct] at hm;injection hm with hm;injection hm with hm _;omega
  simp[ho] at hy
  rw[Mu.iQ _ ho] at hm
  exact⟨o,y,a,C',hl,hy,hm⟩
 refine⟨hle,by simp,by simp,fun b hb _=>heap_alloc_old _ _ hb,fun b hb=>?_,fun o ho=>?_,fun o ho=>Mu.iQ _ (by omega),fun o ho hn=>by rw[ae.gX,if_neg (by omega)];exact hn,⟨rfl,rfl,rfl,fun _=>by first|exact Nat.le_refl _|exact Nat.le_add_right _ _|exact Nat.le_succ _⟩⟩
 ·rintro⟨o,y,a,C',hl,hy,hm⟩
  rw[ae.gX] at hy
  by_cases ho:o=h.next
  ·subst ho;rw[Mu.ct] at hm;injection hm with hm;injection hm with hm _;omega
  simp[ho] at hy
  rw[Mu.iQ _ ho] at hm
  exact⟨o,y,a,C',hl,hy,hm⟩
 rw[ae.gX]
 have:=r.bA
 have:o≠h.next:=by omega
 simp[this]
theorem Oi {U:Mu}{lo:Nat}{h:ae}{w:World}(r:Rel U lo h w)(arr:Array Value)(ty:TypeId)(s C:Nat)(cs:List Value)
  (hc:∀(i:Nat) v,cs[i]?=some v→∃v',arr[i]?=some v'∧aj U v v') (hs:0<s→cs.length≤C*s∧C*s≤arr.size) :
  ∃aN,aN h.next=some (w.heap.size,0,C)∧Rel aN lo (h.alloc (.cells s cs)) (w.alloc (.cells arr ty))∧Frame lo U h w aN (h.alloc (.cells s cs)) (w.alloc (.cells arr ty)):=by
 refine⟨U.put h.next (w.heap.size,0,C),Mu.ct _ _ _,Jn r _ C _ ?_ (fun off=>by simp)⟩
 refine⟨by simp,fun i v hv=>?_,fun h0=>⟨(hs h0).1,fun i hi=>?_⟩⟩
 ·obtain⟨v',h1,h2⟩:=hc i v hv
  exact⟨v',by simpa using h1,h2.mono (r.AR _)⟩
 have dD:i<arr.size:=Nat.lt_of_lt_of_le hi (hs h0).2
 exact⟨arr[i],by simp[dD]⟩
theorem UZ {U:Mu}{lo:Nat}{h:ae}{w:World}(r:Rel U lo h w) :
  ∃aN,aN h.next=some (w.heap.size,0,0)∧Rel aN lo (h.alloc (.map [])) (w.alloc (.map #[] 0))∧Frame lo U h w aN (h.alloc (.map [])) (w.alloc (.map #[] 0)):=by
 refine⟨U.put h.next (w.heap.size,0,0),Mu.ct _ _ _,Jn r _ 0 _ ?_ (fun off=>?_)⟩
 ·refine⟨rfl,#[],0,by rw[heap_alloc];simp,⟨[],.nil,by simp,rfl,fun i p e h=>by simp at h,by simp,fun e h=>by simp at h⟩⟩
 simp only[World.frozen?,heap_alloc];simp
theorem Jo {U:Mu}{lo:Nat}{h:ae}{w w':World}(r:Rel U lo h w){o:Nat}{x:a7}(hx:h.get o=some x)(hl:lo≤o){b a C:Nat}(hm:U o=some (b,a,C))(y:a7)
  (e8:w'.heap.size=w.heap.size) (hk:∀b',b'≠b→w'.heap[b']?=w.heap[b']?) (hy:fp U w' b a C y) (sg:∀off,w'.frozen? ⟨b,off,none⟩=false) (uH:Calm w w') :
  Rel U lo (h.put o (some y)) w'∧Frame lo U h w U (h.put o (some y)) w':=by
 have aU:=ae.fC hx
 have ea:∀p z b' a' C',h.get p=some z→U p=some (b',a',C')→p≠o→b'≠b:=fun p z b' a' C' hz dZ hp hb=>by
  subst hb;exact hp (r.inj o p x z b' a C a' C' hl hx hz hm dZ).symm
 constructor
 ·constructor
  ·intro p z hz
   rw[ae.dB _ _ _ _ aU] at hz
   by_cases hp:p=o
   ·subst hp;simp at hz;subst hz;exact⟨b,a,C,hm,hy⟩
   simp[hp] at hz
   obtain⟨b',a',C',h1,h2⟩:=r.be p z hz
   exact⟨b',a',C',h1,h2.kept (hk b' (ea p z b' a' C' hz h1 hp))⟩
  ·intro p p' z z' b' a' C' wW oy uI hz iC cj gu
   rw[ae.dB _ _ _ _ aU] at hz iC
   by_cases hp:p=o
   ·by_cases rE:p'=o
    ·rw[hp,rE]
    simp[rE] at iC;subst hp
    exact r.inj p p' x z' b' a' C' wW oy uI hx iC cj gu
   simp[hp] at hz
   by_cases rE:p'=o
   ·subst rE;exact r.inj p p' z x b' a' C' wW oy uI hz hx cj gu
   simp[rE] at iC
   exact r.inj p p' z z' b' a' C' wW oy uI hz iC cj gu
  ·exact fun p z hz=>r.ng p z hz
  ·intro p z b' a' C' nV hz dZ off
   rw[ae.dB _ _ _ _ aU] at hz
   by_cases hp:p=o
   ·subst hp;rw[hm] at dZ;injection dZ with dZ;injection dZ with dZ _;subst dZ;exact sg off
   simp[hp] at hz
   rw[xW (hk b' (ea p z b' a' C' hz dZ hp))]
   exact r.eo p z b' a' C' nV hz dZ off
  ·exact r.bA
  refine r.jA.step (by omega) (fun b' _ hn=>hk b' (fun hb=>hn (hb▸⟨o,x,a,C,hl,hx,hm⟩))) fun p z b' a' C' nV hz dZ _=>?_
  rw[ae.dB _ _ _ _ aU] at hz
  by_cases hp:p=o
  ·subst hp;exact⟨p,x,a',C',nV,hx,dZ⟩
  simp[hp] at hz;exact⟨p,z,a',C',nV,hz,dZ⟩
 refine⟨Mu.le_refl U,by omega,by simp,fun b' _ hn=>hk b' (fun hb=>hn (hb▸⟨o,x,a,C,hl,hx,hm⟩)),fun b' _=>?_,fun p hp=>?_,fun _ _=>rfl,fun p hp hn=>by rw[ae.dB _ _ _ _ aU,if_neg (by intro h;subst h;rw[hx] at hn;cases hn)];exact hn,uH⟩
 ·rintro⟨p,z,a',C',nV,hz,dZ⟩
  rw[ae.dB _ _ _ _ aU] at hz
  by_cases hp:p=o
  ·subst hp;exact⟨p,x,a',C',nV,hx,dZ⟩
  simp[hp] at hz;exact⟨p,z,a',C',nV,hz,dZ⟩
 rw[ae.dB _ _ _ _ aU]
 have:p≠o:=by omega
 simp[this]
theorem heap_setCell_other (w:World)(a:Addr)(v:Value){b:Nat}(hb:b≠a.block):(w.setCell a v).heap[b]?=w.heap[b]?:=by
 have:a.block≠b:=fun h=>hb h.symm
 simp[World.setCell,Array.getElem?_modify,this]
theorem Jp (b:Nat):∀(vs:List Value) (o:Nat) (w:World) {b':Nat},b'≠b→(w.setCells b o vs).heap[b']?=w.heap[b']?
 |[],_,_,_,_=>rfl
 |v::r,o,w,b',hb=>by
  show ((w.setCell ⟨b,o,none⟩ v).setCells b (o+1) r).heap[b']?=_
  rw[Jp b r (o+1) _ hb,heap_setCell_other _ _ _ hb]
theorem Em (b:Nat):∀(vs:List Value) (o:Nat) (w:World),(w.setCells b o vs).heap.size=w.heap.size
 |[],_,_=>rfl
 |v::r,o,w=>by
  show ((w.setCell ⟨b,o,none⟩ v).setCells b (o+1) r).heap.size=_
  rw[Em b r (o+1) _];simp
def e9 (cs:List Value)(off:Nat)(vs:List Value):List Value:=cs.take off++vs++cs.drop (off+vs.length)
theorem Jq (cs:List Value)(off:Nat)(vs:List Value)(h:off+vs.length≤cs.length):(e9 cs off vs).length=cs.length:=by
 simp[e9];omega
theorem Hi (cs:List Value)(off:Nat)(vs:List Value)(h:off+vs.length≤cs.length)(i:Nat) :
  (e9 cs off vs)[i]?=if off≤i∧i<off+vs.length then vs[i - off]? else cs[i]?:=by
 unfold e9
 by_cases h1:i<off
 ·have:¬(off≤i∧i<off+vs.length):=by omega
  simp only[this,if_false]
  rw[List.append_assoc,List.getElem?_append_left (by simp;omega),List.getElem?_take];simp[h1]
 by_cases h2:i<off+vs.length
 ·have:off≤i∧i<off+vs.length:=by omega
  simp only[this,and_self,if_true]
  rw[List.append_assoc,List.getElem?_append_right (by simp;omega),List.getElem?_append_left (by simp;omega)]
  congr 1
  simp;omega
 have:¬(off≤i∧i<off+vs.length):=by omega
 simp only[this,if_false]
 rw[List.getElem?_append_right (by simp;omega),List.getElem?_drop]
 congr 1
 simp;omega
theorem Jr (b:Nat):∀(vs:List Value) (o:Nat) (w:World),Calm w (w.setCells b o vs)
 |[],_,w=>.refl w
 |v::r,o,w=>Calm.trans (by unfold World.setCell;split<;>exact⟨rfl,rfl,rfl,fun _=>Nat.le_refl _⟩:Calm w (w.setCell ⟨b,o,none⟩ v)) (Jr b r (o+1) _)
theorem CT {U:Mu}{lo:Nat}{h:ae}{w:World}(r:Rel U lo h w){o s:Nat}{cs:List Value}(hx:h.get o=some (.cells s cs))(hl:lo≤o){b a C:Nat}(hm:U o=some (b,a,C))
  (off:Nat) (vs kz:List Value) (hv:bn U vs kz) (hlen:off+vs.length≤cs.length) :
  Rel U lo (h.put o (some (.cells s (e9 cs off vs)))) (w.setCells b (a+off) kz)∧Frame lo U h w U (h.put o (some (.cells s (e9 cs off vs)))) (w.setCells b (a+off) kz):=by
 obtain⟨b',a',C',h1,h2⟩:=r.be o _ hx
 rw[hm] at h1;injection h1 with h1;injection h1 with h1 nj;injection nj with nj AS;subst h1 nj AS
 obtain⟨hb,oA,rF⟩:=h2
 have jV:∀j,j<kz.length→(w.cell? ⟨b,a+off+j,none⟩).isSome=true:=fun j hj=>by
  have mL:off+j<cs.length:=by have:=hv.1;omega
  obtain⟨v',h3,_⟩:=oA (off+j) cs[off+j] (by simp[mL])
  rw[show a+off+j=a+(off+j) by omega,h3];rfl
 refine Jo r hx hl hm _ (Em _ _ _ _) (fun b' oB=>Jp _ _ _ _ oB) ?_ (fun mo=>by rw[World.frozen?_setCells];exact r.eo o _ b a C hl hx hm mo) (Jr _ _ _ _)
 refine⟨by rw[Em];exact hb,fun i v hi=>?_,fun h0=>?_⟩
 ·rw[Hi _ _ _ hlen] at hi
  by_cases di:off≤i∧i<off+vs.length
  ·simp only[di,and_self,if_true] at hi
   obtain⟨v',h3,h4⟩:=hv.2 _ v hi
   have hj:i - off<kz.length:=by have:=hv.1;omega
   refine⟨v',?_,h4⟩
   have:=World.cell?_setCells_in b kz (a+off) w jV (i - off) hj
   rw[show a+off+(i - off)=a+i by omega] at this
   rw[this]
   rw[List.getElem?_eq_getElem hj] at h3
   exact h3
  simp only[di,if_false] at hi
  obtain⟨v',h3,h4⟩:=oA i v hi
  refine⟨v',?_,h4⟩
  rw[World.cell?_setCells_out b kz (a+off) w _ (fun _ _=>by have:=hv.1;simp;omega)]
  exact h3
 rw[Jq _ _ _ hlen]
 refine⟨(rF h0).1,fun i hi=>?_⟩
 obtain⟨v',h3⟩:=(rF h0).2 i hi
 by_cases di:off≤i∧i<off+kz.length
 ·have hj:i - off<kz.length:=by omega
  have:=World.cell?_setCells_in b kz (a+off) w jV (i - off) hj
  rw[show a+off+(i - off)=a+i by omega] at this
  exact⟨_,this⟩
 refine⟨v',?_⟩
 rw[World.cell?_setCells_out b kz (a+off) w _ (fun _ _=>by simp;omega)]
 exact h3
abbrev aC:=List Value
def tF:Value→Bool
 |.bool _|.int _ _|.string _|.nilFunc|.nilIface|.pointer none|.map none=>true
 |.slice none 0 0=>true
 |_=>false
def kB:Value→Bool
 |.agg cs=>cs.toList.all tF
 |.tuple cs=>cs.toList.all tF
 |v=>tF v
theorem aj.Oj {U:Mu}{v:Value}(h:tF v=true):aj U v v:=by
 unfold tF at h
 split at h<;>first|exact .bool _|exact .int _ _|exact .string _|exact .nilFunc|exact .nilIface|exact .kZ|exact .lf|exact .dH|cases h
theorem bn.Ol {U:Mu}{l:List Value}(h:l.all tF=true):bn U l l:=
 ⟨rfl,fun i v hv=>⟨v,hv,.Oj (by rw[List.all_eq_true] at h;exact h v (List.mem_of_getElem? hv))⟩⟩
theorem aj.xX {U:Mu}{v:Value}(h:kB v=true):aj U v v:=by
 unfold kB at h
 split at h
 ·have:=aj.ky (bn.Ol (U:=U) h);simpa using this
 ·have:=aj.qb (bn.Ol (U:=U) h);simpa using this
 exact .Oj h
def cI (ts:aC):Operand→Option Value
 |.tmp t=>some (ts.getD t Go.undef)
 |.const v=>bif kB v then some v else none
 |.func f=>some (.func (.func f) #[] #[])
 |.global _=>none
def dd (U:Mu)(ts:aC)(tmps:Array Value):Prop:=bn U ts tmps.toList
theorem dd.mono {U ν:Mu}(hle:U.le ν){ts:aC}{tmps:Array Value}(h:dd U ts tmps):dd ν ts tmps:=bn.mono hle h
theorem dd.getD {U:Mu}{ts:aC}{tmps:Array Value}(h:dd U ts tmps)(t:Nat):aj U (ts.getD t Go.undef) (tmps.getD t Go.undef):=by
 by_cases ht:t<ts.length
 ·obtain⟨v',h1,h2⟩:=h.2 t ts[t] (by simp[ht])
  have:t<tmps.size:=by have:=h.1;simp at this;omega
  simp[this] at h1
  simp[List.getD,ht,Array.getD,this,h1,h2]
 have:¬t<tmps.size:=by have:=h.1;simp at this;omega
 simp[List.getD,ht,Array.getD,this]
 exact .undef
theorem fq {U:Mu}{ts:aC}{a:Act}(h:dd U ts a.tmps){x:Operand}{v:Value}(hv:cI ts x=some v):aj U v (a.eval x):=by
 cases x with
 |tmp t=>simp only[cI,ax] at hv;subst hv;exact h.getD t
 |const u=>
  simp only[cI] at hv
  cases hs:kB u with
  |true=>simp[hs] at hv;subst hv;exact .xX hs
  |false=>simp[hs] at hv
 |func f=>simp only[cI,ax] at hv;subst hv;exact .func f #[] #[] #[] #[] rfl rfl (fun i h=>by simp at h) (fun i h=>by simp at h)
 |global g=>simp[cI] at hv
def dc (P:Program)(t:TypeId):Option Nat:=(P.info? t).map (·.size)
def oC (P:Program)(t:TypeId):Option (List Value):=
 match (P.info? t).bind (·.zero) with
 |some v=>bif kB v then some v.cells.toList else none
 |none=>none
def bB (P:Program)(t:TypeId):Option Bool:=
 match P.underlying t with
 |some (.struct _)|some (.array _ _)=>some true
 |some _=>some false
 |none=>none
theorem mq {P:Program}{t:TypeId}{n:Nat}(h:dc P t=some n)(w:World):(sizeOf t).run P w=.ok n w:=by
 unfold dc at h
 cases hi:P.info? t with
 |none=>simp[hi] at h
 |some i=>simp[hi] at h;subst h;simp[sizeOf,typeInfo,hi]
theorem xY {P:Program}{t:TypeId}{z:List Value}(h:oC P t=some z)(w:World):∃v,(zeroValue t).run P w=.ok v w∧v.cells.toList=z∧kB v=true:=by
 unfold oC at h
 cases hi:P.info? t with
 |none=>simp[hi] at h
 |some i=>
  simp only[hi,Option.bind_some] at h
  cases hz:i.zero with
  |none=>simp[hz] at h
  |some v=>
   simp only[hz] at h
   cases hs:kB v with
   |false=>simp[hs] at h
   |true=>simp[hs] at h;exact⟨v,by simp[zeroValue,typeInfo,hi,hz],h,hs⟩
theorem CU {P:Program}{t:TypeId}{b:Bool}(h:bB P t=some b)(w:World):(isAgg t).run P w=.ok b w:=by
 unfold bB at h
 split at h
 ·rename_i hu;simp at h;subst h;simp[isAgg,run_underlying hu]
 ·rename_i hu;simp at h;subst h;simp[isAgg,run_underlying hu]
 ·rename_i d h1 h2 hu
  simp at h;subst h
  cases d<;>simp_all[isAgg,run_underlying hu]
 simp at h
theorem AT {U:Mu}{v:Value}(h:kB v=true):bn U v.cells.toList v.cells.toList:=(aj.xX h).cells
def dW (P:Program)(lo:Nat)(s:Sem Value)(U:Mu)(h:ae)(w:World)(v:Value)(h':ae):Prop:=
 ∃v' w' aN,s.run P w=.ok v' w'∧aj aN v v'∧Rel aN lo h' w'∧Frame lo U h w aN h' w'
theorem dW.same {P:Program}{lo:Nat}{s:Sem Value}{U:Mu}{h:ae}{w:World}{v v':Value}(r:Rel U lo h w)(hr:s.run P w=.ok v' w)(hv:aj U v v'):dW P lo s U h w v h:=
 ⟨v',w,U,hr,hv,r,Frame.refl _ _ _ _⟩
theorem Js {P:Program}{lo:Nat}{U:Mu}{h:ae}{w:World}(r:Rel U lo h w)(t:TypeId)(arr:Array Value)(cs:List Value)(hc:bn U cs arr.toList) :
  ∃aN,(newRow t arr).run P w=.ok ⟨w.heap.size,0,none⟩ (w.alloc (.cells arr t))∧aN h.next=some (w.heap.size,0,0)∧Rel aN lo (h.alloc (.cells 0 cs)) (w.alloc (.cells arr t))∧
   Frame lo U h w aN (h.alloc (.cells 0 cs)) (w.alloc (.cells arr t)):=by
 obtain⟨aN,h1,h2,h3⟩:=Oi r arr t 0 0 cs (fun i v hv=>by obtain⟨v',h1,h2⟩:=hc.2 i v hv;exact⟨v',by simpa using h1,h2⟩) (fun h=>by omega)
 exact⟨aN,rfl,h1,h2,h3⟩
theorem Om {P:Program}{lo:Nat}{U:Mu}{h:ae}{w:World}(r:Rel U lo h w)(t:TypeId)(v v':Value)(hv:aj U v v') :
  dW P lo (do pure (.pointer (some (← newVar t v')))) U h w (.pointer (some ⟨h.next,0,none⟩)) (h.alloc (.cells 0 v.cells.toList)):=by
 obtain⟨aN,h1,h2,h3,h4⟩:=Js (P:=P) r t v'.cells v.cells.toList hv.cells
 exact⟨_,_,aN,by simp[newVar,h1],.ptr _ 0 _ 0 0 h2,h3,h4⟩
def CW (P:Program)(h:ae)(t:TypeId):Option (Value×ae):=
 match oC P t with
 |some z=>some (.pointer (some ⟨h.next,0,none⟩),h.alloc (.cells 0 z))
 |none=>none
theorem U0 {P:Program}{lo:Nat}{U:Mu}{h:ae}{w:World}(r:Rel U lo h w){t:TypeId}{v:Value}{h':ae}(ha:CW P h t=some (v,h')) :
  dW P lo (Instr.alloc t true (.tuple #[])) U h w v h':=by
 unfold CW at ha
 cases hz:oC P t with
 |none=>simp[hz] at ha
 |some z=>
  simp only[hz,ax,bI] at ha
  obtain⟨rfl,rfl⟩:=ha
  obtain⟨zv,h1,h2,h3⟩:=xY hz w
  obtain⟨v',w',aN,h4,h5⟩:=Om (P:=P) r t zv zv (.xX h3)
  rw[h2] at h5
  exact⟨v',w',aN,by simpa[Instr.alloc,h1] using h4,h5⟩
def sh (h:ae)(v:Value):Value×ae:=(.pointer (some ⟨h.next,0,none⟩),h.alloc (.cells 0 v.cells.toList))
theorem U1 {P:Program}{lo:Nat}{U:Mu}{h:ae}{w:World}(r:Rel U lo h w)(t:TypeId){v v':Value}(hv:aj U v v') :
 dW P lo (Instr.box t v') U h w (sh h v).1 (sh h v).2:=Om r t v v' hv
def sj (P:Program)(h:ae)(t:TypeId)(p:Value):Option Value:=
 match p with
 |.pointer (some ⟨o,off,none⟩)=>
  match h.get o with
  |some (.cells _ cs)=>
   match bB P t with
   |some true=>
    match dc P t with
    |some n=>bif Nat.ble (off+n) cs.length then some (.agg ((cs.drop off).take n).toArray) else none
    |none=>none
   |some false=>cs[off]?
   |none=>none
  |_=>none
 |_=>none
theorem mM {U:Mu}{lo:Nat}{h:ae}{w:World}(r:Rel U lo h w){o b a C:Nat}{x:a7}(hx:h.get o=some x)(hm:U o=some (b,a,C)):fp U w b a C x:=by
 obtain⟨b',a',C',h1,h2⟩:=r.be o x hx
 rw[hm] at h1;injection h1 with h1;injection h1 with h1 nj;injection nj with nj AS;subst h1 nj AS
 exact h2
theorem sn (b a n:Nat):(⟨b,a,none⟩:Addr).add n=⟨b,a+n,none⟩:=by unfold Addr.add;split<;>simp_all
theorem Hj {U:Mu}{w:World}{b a C s:Nat}{cs:List Value}(ho:fp U w b a C (.cells s cs))(off n:Nat)(hn:off+n≤cs.length) :
  ∃ao:List Value,bn U ((cs.drop off).take n) ao∧ao.length=n∧∀j v,ao[j]?=some v→w.cell? ((⟨b,a+off,none⟩:Addr).add j)=some v:=by
 obtain⟨_,oA,_⟩:=ho
 have hex:∀i,i<cs.length→∃v',w.cell? ⟨b,a+i,none⟩=some v'∧∀v,cs[i]?=some v→aj U v v':=fun i hi=>by
  obtain⟨v',h1,h2⟩:=oA i cs[i] (by simp[hi])
  exact⟨v',h1,fun v hv=>by simp[hi] at hv;subst hv;exact h2⟩
 refine⟨(List.range n).map fun j=>(w.cell? ⟨b,a+off+j,none⟩).getD Go.undef,⟨by simp;omega,fun i v hv=>?_⟩,by simp,fun j v hj=>?_⟩
 ·have hi:i<n:=by
   rcases Nat.lt_or_ge i n with h|h
   ·exact h
   rw[List.getElem?_eq_none (by simp;omega)] at hv;simp at hv
  obtain⟨v',h1,h2⟩:=hex (off+i) (by omega)
  refine⟨v',by simp[hi,show a+off+i=a+(off+i) by omega,h1],h2 v ?_⟩
  rw[List.getElem?_take,if_pos hi,List.getElem?_drop] at hv
  exact hv
 have hi:j<n:=by
  rcases Nat.lt_or_ge j n with h|h
  ·exact h
  rw[List.getElem?_eq_none (by simp;omega)] at hj;simp at hj
 obtain⟨v',h1,h2⟩:=hex (off+j) (by omega)
 simp[hi] at hj
 rw[sn,← hj,show a+off+j=a+(off+j) by omega,h1]
 rfl
theorem Jt {P:Program}{lo:Nat}{U:Mu}{h:ae}{w:World}(r:Rel U lo h w){t:TypeId}{p p' v:Value}(hp:aj U p p')(ha:sj P h t p=some v) :
  dW P lo (Instr.loadAt t p') U h w v h:=by
 unfold sj at ha
 split at ha
 ·rename_i o off
  cases hp with
  |ptr _ _ b a C hm=>
   split at ha
   ·rename_i s cs hx
    have ho:=mM r hx hm
    split at ha
    ·rename_i hg
     split at ha
     ·rename_i n hn
      cases hle:Nat.ble (off+n) cs.length with
      |false=>simp[hle] at ha
      |true=>
       simp only[hle,aJ,ax] at ha;subst ha
       obtain⟨ao,h1,h2,h3⟩:=Hj ho off n (by simpa using hle)
       refine .same r (v':=.agg ao.toArray) ?_ (.ky h1)
       have hl:=run_loadCells_list (P:=P) w _ ao h3
       rw[h2] at hl
       simp[Instr.loadAt,Instr.sureAddr,loadVar,CU hg,mq hn,hl]
     simp at ha
    ·rename_i hg
     obtain⟨v',h1,h2⟩:=ho.2.1 off v ha
     exact .same r (v':=v') (by simp[Instr.loadAt,Instr.sureAddr,loadVar,CU hg,h1]) h2
    simp at ha
   simp at ha
 simp at ha
def CX (P:Program)(lo:Nat)(h:ae)(t:TypeId)(p v:Value):Option ae:=
 match p with
 |.pointer (some ⟨o,off,none⟩)=>
  match h.get o,dc P t with
  |some (.cells s cs),some n=>
   bif Nat.ble lo o&&Nat.beq v.cells.toList.length n&&v.cells.toList.all (·.oneCell')&&Nat.ble (off+n) cs.length then
    some (h.put o (some (.cells s (e9 cs off v.cells.toList)))) else none
  |_,_=>none
 |_=>none
theorem On {U:Mu}{l l':List Value}(h:bn U l l')(ha:l.all (·.oneCell')=true):∀v∈l',v.oneCell'=true:=by
 intro v hv
 obtain⟨i,hi⟩:=List.getElem?_of_mem hv
 have aU:i<l.length:=by
  have:=h.1
  rcases Nat.lt_or_ge i l.length with h'|h'
  ·exact h'
  rw[List.getElem?_eq_none (by omega)] at hi;simp at hi
 obtain⟨v',h1,h2⟩:=h.2 i l[i] (by simp[aU])
 rw[hi] at h1;injection h1 with h1;subst h1
 rw[h2.UY]
 rw[List.all_eq_true] at ha
 exact ha _ (List.getElem_mem aU)
theorem Hk {P:Program}{lo:Nat}{U:Mu}{h:ae}{w:World}(r:Rel U lo h w){o s:Nat}{cs:List Value}(hx:h.get o=some (.cells s cs))(hl:lo≤o){b a C:Nat}(hm:U o=some (b,a,C))
  (off:Nat) (vs kz:List Value) (hv:bn U vs kz) (xZ:vs.all (·.oneCell')=true) (hlen:off+vs.length≤cs.length) :
  (storeCells ⟨b,a+off,none⟩ kz).run P w=.ok () (w.setCells b (a+off) kz):=by
 have ho:=mM r hx hm
 have:=run_storeCells_cells (P:=P) b (a+off) kz 0 w (fun j hj=>by
   have mL:off+j<cs.length:=by have:=hv.1;omega
   obtain⟨v',h3,_⟩:=ho.2.1 (off+j) cs[off+j] (by simp[mL])
   rw[show a+off+0+j=a+(off+j) by omega,h3];rfl)
  (fun j hj=>r.eo o _ b a C hl hx hm _) (On hv xZ)
 simpa using this
theorem U2 {P:Program}{lo:Nat}{U:Mu}{h:ae}{w:World}(r:Rel U lo h w){t:TypeId}{p p' v v':Value}{h':ae}(hp:aj U p p')(hv:aj U v v')(ha:CX P lo h t p v=some h') :
  ∃w',(Instr.storeAt t p' v').run P w=.ok () w'∧Rel U lo h' w'∧Frame lo U h w U h' w':=by
 unfold CX at ha
 split at ha
 ·rename_i o off
  cases hp with
  |ptr _ _ b a C hm=>
   split at ha
   ·rename_i s cs n hx hn
    cases hc:(Nat.ble lo o&&Nat.beq v.cells.toList.length n&&v.cells.toList.all (·.oneCell')&&Nat.ble (off+n) cs.length) with
    |false=>rw[hc] at ha;simp at ha
    |true=>
     rw[hc] at ha
     simp only[aJ,ax] at ha;subst ha
     simp only[bR] at hc
     obtain⟨⟨⟨h1,h2⟩,h3⟩,h4⟩:=hc
     have h1:lo≤o:=by simpa using h1
     have h2:v.cells.toList.length=n:=by simpa using h2
     have h4:off+n≤cs.length:=by simpa using h4
     obtain⟨h5,h6⟩:=CT r hx h1 hm off v.cells.toList v'.cells.toList hv.cells (by omega)
     refine⟨_,?_,h5,h6⟩
     have dw:=Hk (P:=P) r hx h1 hm off _ _ hv.cells h3 (by omega)
     have e8:v'.cells.size=n:=by have:=hv.cells.1;simp at this h2;omega
     simp[Instr.storeAt,Instr.sureAddr,storeVar,mq hn,e8,dw]
   simp at ha
 simp at ha
def dL (P:Program)(s:TypeId)(f:Nat):Option (TypeId×Nat×Nat):=
 match P.underlying s with
 |some (.struct fields)=>
  match fields.toList[f]? with
  |some fd=>match dc P fd.type with
   |some n=>some (fd.type,fd.offset,n)
   |none=>none
  |none=>none
 |_=>none
theorem Oo {P:Program}{s:TypeId}{f:Nat}{ty:TypeId}{off n:Nat}(h:dL P s f=some (ty,off,n)) :
  ∃fields fd,P.underlying s=some (.struct fields)∧fields[f]?=some fd∧fd.type=ty∧fd.offset=off∧dc P fd.type=some n:=by
 unfold dL at h
 split at h
 ·rename_i fields hu
  split at h
  ·rename_i fd hf
   split at h
   ·rename_i m hm
    simp only[ax,bI] at h
    obtain⟨h1,h2,h3⟩:=h
    exact⟨fields,fd,hu,by simpa using hf,h1,h2,by rw[hm,h3]⟩
   simp at h
  simp at h
 simp at h
def CY (P:Program)(s:TypeId)(p:Value)(f:Nat):Option Value:=
 match p,dL P s f with
 |.pointer (some ⟨o,off,none⟩),some (_,fo,n)=>bif Nat.beq n 0 then none else some (.pointer (some ⟨o,off+fo,none⟩))
 |_,_=>none
theorem U3 {P:Program}{U:Mu}{w:World}{s:TypeId}{f:Nat}{p p' v:Value}(hp:aj U p p')(ha:CY P s p f=some v) :
  ∃v',(Instr.fieldAt s p' f).run P w=.ok v' w∧aj U v v':=by
 unfold CY at ha
 split at ha
 ·rename_i o off ty fo n hf
  obtain⟨fields,fd,h1,h2,h3,h4,h5⟩:=Oo hf
  cases hn:Nat.beq n 0 with
  |true=>simp[hn] at ha
  |false=>
   simp only[hn,bl,ax] at ha;subst ha
   cases hp with
   |ptr _ _ b a C hm=>
    have mN:n≠0:=by intro h;subst h;simp at hn
    refine⟨_,?_,.ptr o (off+fo) b a C hm⟩
    simp[Instr.fieldAt,run_underlying h1,h2,Instr.sureAddr,fieldPlace,mq h5,mN,sn,h4,Nat.add_assoc]
 simp at ha
def fS (P:Program)(t:TypeId):Option (TypeId×Nat):=
 match P.underlying t with
 |some (.slice e)=>match dc P e with
  |some n=>some (e,n)
  |none=>none
 |_=>none
theorem tG {P:Program}{t e:TypeId}{n:Nat}(h:fS P t=some (e,n)):P.underlying t=some (.slice e)∧dc P e=some n:=by
 unfold fS at h
 split at h
 ·rename_i e' hu
  split at h
  ·rename_i m hm
   simp only[ax,bI] at h
   obtain⟨rfl,rfl⟩:=h
   exact⟨hu,hm⟩
  simp at h
 simp at h
def gY (P:Program)(t:TypeId):Option (Nat×TypeId×Nat):=
 match P.underlying t with
 |some (.array len e)=>match dc P e with
  |some n=>some (len,e,n)
  |none=>none
 |_=>none
theorem Oq {P:Program}{t e:TypeId}{len n:Nat}(h:gY P t=some (len,e,n)):P.underlying t=some (.array len e)∧dc P e=some n:=by
 unfold gY at h
 split at h
 ·rename_i l' e' hu
  split at h
  ·rename_i m hm
   simp only[ax,bI] at h
   obtain⟨rfl,rfl,rfl⟩:=h
   exact⟨hu,hm⟩
  simp at h
 simp at h
def within (i:Int)(n:Nat):Option Nat:=
 match i with
 |.ofNat k=>bif Nat.blt k n then some k else none
 |.negSucc _=>none
theorem Ju {i:Int}{n k:Nat}(h:within i n=some k):i=(k:Int)∧k<n:=by
 unfold within at h
 split at h
 ·rename_i j
  cases hj:Nat.blt j n with
  |false=>simp[hj] at h
  |true=>simp[hj] at h;subst h;rw[Nat.blt_eq] at hj;exact⟨rfl,hj⟩
 simp at h
def x5 (P:Program)(t:TypeId)(x i:Value):Option Value:=
 match x,i with
 |.slice (some ⟨o,off,none⟩) len _,.int _ n=>
  match fS P t,within n len with
  |some (_,sz),some k=>some (.pointer (some ⟨o,off+k*sz,none⟩))
  |_,_=>none
 |.pointer (some ⟨o,off,none⟩),.int _ n=>
  match gY P t with
  |some (len,_,sz)=>
   match within n len with
   |some k=>some (.pointer (some ⟨o,off+k*sz,none⟩))
   |none=>none
  |none=>none
 |_,_=>none
theorem U4 {P:Program}{U:Mu}{w:World}{t:TypeId}{x x' i i' v:Value}(hx:aj U x x')(hi:aj U i i')(ha:x5 P t x i=some v) :
  ∃v',(Instr.indexAt t x' i').run P w=.ok v' w∧aj U v v':=by
 unfold x5 at ha
 split at ha
 ·rename_i o off len k kd n
  cases hi with
  |int=>
  split at ha
  ·rename_i e sz kk h1 h2
   obtain⟨h3,h4⟩:=tG h1
   obtain⟨rfl,h6⟩:=Ju h2
   simp only[ax] at ha;subst ha
   cases hx with
   |slice _ _ _ _ b a C hm hl hk=>
    refine⟨_,?_,.ptr o (off+kk*sz) b a C hm⟩
    simp[Instr.indexAt,asIntOf,run_underlying h3,mq h4,sn,h6,Nat.add_assoc]
   |bK=>omega
   |b7=>omega
  simp at ha
 ·rename_i o off kd n
  cases hi with
  |int=>
  split at ha
  ·rename_i len e sz h1
   obtain⟨h3,h4⟩:=Oq h1
   split at ha
   ·rename_i kk h2
    obtain⟨rfl,h6⟩:=Ju h2
    simp only[ax] at ha;subst ha
    cases hx with
    |ptr _ _ b a C hm=>
     refine⟨_,?_,.ptr o (off+kk*sz) b a C hm⟩
     simp[Instr.indexAt,asIntOf,run_underlying h3,Instr.sureAddr,mq h4,sn,h6,Nat.add_assoc]
   simp at ha
  simp at ha
 simp at ha
def apart (P:Program)(t:TypeId)(cs:List Value)(off n:Nat):Option Value:=
 match bB P t with
 |some true=>bif Nat.ble (off+n) cs.length then some (.agg ((cs.drop off).take n).toArray) else none
 |some false=>cs[off]?
 |none=>none
theorem En {P:Program}{U:Mu}{w:World}{t:TypeId}{cs ao:Array Value}{off n:Nat}{v:Value}(hc:bn U cs.toList ao.toList)(hn:dc P t=some n)(ha:apart P t cs.toList off n=some v) :
  ∃v',(part t ao off).run P w=.ok v' w∧aj U v v':=by
 unfold apart at ha
 split at ha
 ·rename_i hg
  cases hle:Nat.ble (off+n) cs.toList.length with
  |false=>rw[hle] at ha;simp at ha
  |true=>
   rw[hle] at ha
   simp only[aJ,ax] at ha;subst ha
   refine⟨_,?_,.ky ((hc.drop off).take n)⟩
   have he:ao.extract off (off+n)=((ao.toList.drop off).take n).toArray:=by
    apply Array.ext'
    simp[List.extract_eq_take_drop]
   simp[part,CU hg,mq hn,he]
 ·rename_i hg
  obtain⟨v',h1,h2⟩:=hc.2 off v ha
  have nj:ao[off]?=some v':=by simpa using h1
  exact⟨v',by simp[part,CU hg,nj],h2⟩
 simp at ha
def Eo (P:Program)(t:TypeId)(x:Value)(f:Nat):Option Value:=
 match x,dL P t f with
 |.agg cs,some (ty,off,n)=>apart P ty cs.toList off n
 |_,_=>none
theorem U5 {P:Program}{U:Mu}{w:World}{t:TypeId}{f:Nat}{x x' v:Value}(hx:aj U x x')(ha:Eo P t x f=some v) :
  ∃v',(Instr.field t x' f).run P w=.ok v' w∧aj U v v':=by
 unfold Eo at ha
 split at ha
 ·rename_i cs ty off n hf
  obtain⟨fields,fd,h1,h2,h3,h4,h5⟩:=Oo hf
  obtain⟨ao,rfl,hc⟩:=hx.CS
  obtain⟨v',h6,h7⟩:=En (w:=w) hc (h3▸h5) ha
  exact⟨v',by simp[Instr.field,run_underlying h1,h2,asAgg,h3,h4,h6],h7⟩
 simp at ha
def AU (P:Program)(t:TypeId)(x i:Value):Option Value:=
 match x,i with
 |.agg cs,.int _ n=>
  match gY P t with
  |some (len,e,sz)=>
   match within n len with
   |some k=>apart P e cs.toList (k*sz) sz
   |none=>none
  |none=>none
 |.string s,.int _ n=>
  match P.underlying t,n with
  |some .string,.ofNat k=>match s.data.toList[k]? with
   |some b=>some (.int .u8 b.toNat)
   |none=>none
  |_,_=>none
 |_,_=>none
theorem U6 {P:Program}{U:Mu}{w:World}{t:TypeId}{x x' i i' v:Value}(hx:aj U x x')(hi:aj U i i')(ha:AU P t x i=some v) :
  ∃v',(Instr.index t x' i').run P w=.ok v' w∧aj U v v':=by
 unfold AU at ha
 split at ha
 ·rename_i cs kd n
  cases hi with
  |int=>
  split at ha
  ·rename_i len e sz h1
   obtain⟨h3,h4⟩:=Oq h1
   split at ha
   ·rename_i kk h2
    obtain⟨rfl,h6⟩:=Ju h2
    obtain⟨ao,rfl,hc⟩:=hx.CS
    obtain⟨v',h7,h8⟩:=En (w:=w) hc h4 ha
    exact⟨v',by simp[Instr.index,asIntOf,run_underlying h3,mq h4,h6,h7],h8⟩
   simp at ha
  simp at ha
 ·rename_i s kd n
  cases hi with
  |int=>
  cases hx with
  |string=>
  split at ha
  ·rename_i k hu
   split at ha
   ·rename_i b hb
    simp only[ax] at ha;subst ha
    have h1:s[k]?=some b:=by
     have aU:k<s.data.toList.length:=by
      rcases Nat.lt_or_ge k s.data.toList.length with h|h
      ·exact h
      rw[List.getElem?_eq_none h] at hb;cases hb
     have sq:k<s.size:=by rw[ByteArray.size,← Array.length_toList];exact aU
     rw[getElem?_pos s k sq]
     rw[List.getElem?_eq_getElem aU] at hb
     injection hb with hb
     rw[← hb]
     rfl
    refine⟨.int .u8 b.toNat,?_,.int .u8 b.toNat⟩
    have h0:(0:Int)≤Int.ofNat k:=Int.natCast_nonneg k
    have h2:(Int.ofNat k).toNat=k:=rfl
    simp only[Instr.index,asIntOf,Sem.run_bind,Sem.run_pure,Result.andThen_ok,run_underlying hu,h0,if_true,h2,h1]
   simp at ha
  simp at ha
 simp at ha
def Ep (x:Value)(i:Nat):Option Value:=
 match x with
 |.tuple vs=>vs.toList[i]?
 |_=>none
theorem U7 {P:Program}{U:Mu}{w:World}{i:Nat}{x x' v:Value}(hx:aj U x x')(ha:Ep x i=some v) :
  ∃v',(Instr.extract x' i).run P w=.ok v' w∧aj U v v':=by
 unfold Ep at ha
 split at ha
 ·obtain⟨ao,rfl,hc⟩:=hx.Og
  obtain⟨v',h1,h2⟩:=hc.2 i v ha
  have nj:ao[i]?=some v':=by simpa using h1
  exact⟨v',by simp[Instr.extract,nj],h2⟩
 simp at ha
def tH (place:Nat→Option (Nat×Nat)):List Value→List (Nat×Value)→Option (List Value)
 |cells,[]=>some cells
 |cells,(i,v)::rest=>
  match place i with
  |none=>none
  |some (off,size)=>
   bif Nat.beq v.cells.toList.length size&&Nat.ble (off+v.cells.toList.length) cells.length then tH place (e9 cells off v.cells.toList) rest else none
theorem U8 (vs:List Value):∀(k off:Nat) (arr:Array Value),off+k+vs.length≤arr.size→
  ((vs.zipIdx k).foldl (fun cs (x:Value×Nat)=>cs.setIfInBounds (off+x.2) x.1) arr).toList=e9 arr.toList (off+k) vs:=by
 induction vs with
 |nil=>intro k off arr h;simp[e9]
 |cons v r ih=>
  intro k off arr h
  simp only[List.length_cons] at h
  simp only[List.zipIdx_cons,List.foldl_cons]
  rw[ih (k+1) off _ (by simp;omega)]
  apply List.ext_getElem?
  intro j
  rw[Hi _ _ _ (by simp;omega),Hi _ _ _ (by simp;omega)]
  simp only[Array.toList_setIfInBounds,List.length_cons]
  by_cases h1:j=off+k
  ·subst h1
   have e1:¬(off+(k+1)≤off+k∧off+k<off+(k+1)+r.length):=by omega
   have e2:off+k≤off+k∧off+k<off+k+(r.length+1):=by omega
   simp only[e1,e2,and_self,if_true,if_false]
   rw[List.getElem?_set_self (by simp;omega)]
   simp
  rw[List.getElem?_set_ne (by omega)]
  by_cases h2:off+(k+1)≤j∧j<off+(k+1)+r.length
  ·have e2:off+k≤j∧j<off+k+(r.length+1):=by omega
   simp only[h2,e2,and_self,if_true]
   rw[show j - (off+k)=(j - (off+(k+1)))+1 by omega,List.getElem?_cons_succ]
  have e2:¬(off+k≤j∧j<off+k+(r.length+1)):=by omega
  simp only[h2,e2,if_false]
def uJ (U:Mu)(l l':List (Nat×Value)):Prop:=l.map (·.1)=l'.map (·.1)∧bn U (l.map (·.2)) (l'.map (·.2))
theorem U9 {U:Mu}{cs ao vs kz:List Value}{off:Nat}(hc:bn U cs ao)(hv:bn U vs kz):bn U (e9 cs off vs) (e9 ao off kz):=by
 unfold e9
 rw[← hv.1]
 exact((hc.take off).append hv).append (hc.drop _)
theorem Hl {U:Mu}(place:Nat→Option (Nat×Nat)):∀(l l':List (Nat×Value)) (cs:List Value) (arr:Array Value) (out:List Value),
  uJ U l l'→bn U cs arr.toList→tH place cs l=some out→∃eR,Instr.fill place arr l'=some eR∧bn U out eR.toList:=by
 intro l
 induction l with
 |nil=>
  intro l' cs arr out hl hc ha
  have:l'=[]:=by have:=hl.1;simp at this;exact this
  subst this
  simp only[tH,ax] at ha;subst ha
  exact⟨arr,rfl,hc⟩
 |cons p rest ih=>
  intro l' cs arr out hl hc ha
  obtain⟨i,v⟩:=p
  cases l' with
  |nil=>have:=hl.1;simp at this
  |cons p' Er=>
   obtain⟨i',v'⟩:=p'
   have h1:=hl.1
   simp only[List.map_cons,List.cons.injEq] at h1
   obtain⟨rfl,h1⟩:=h1
   obtain⟨u,l2,hu,hv,h2⟩:=bn.dt (by simpa using hl.2)
   simp only[List.cons.injEq] at hu
   obtain⟨rfl,rfl⟩:=hu
   simp only[tH] at ha
   cases hp:place i with
   |none=>simp[hp] at ha
   |some q=>
    obtain⟨off,size⟩:=q
    simp only[hp] at ha
    cases uK:(Nat.beq v.cells.toList.length size&&Nat.ble (off+v.cells.toList.length) cs.length) with
    |false=>rw[uK] at ha;simp at ha
    |true=>
     rw[uK] at ha
     simp only[aJ] at ha
     simp only[bR] at uK
     have e1:v.cells.toList.length=size:=by simpa using uK.1
     have e2:off+v.cells.toList.length≤cs.length:=by simpa using uK.2
     have uL:v'.cells.toList.length=v.cells.toList.length:=hv.cells.1.symm
     have ef:arr.toList.length=cs.length:=hc.1.symm
     have hz:(v'.cells.zipIdx.foldl (fun cs (x:Value×Nat)=>cs.setIfInBounds (off+x.2) x.1) arr).toList=e9 arr.toList off v'.cells.toList:=by
      have:=U8 v'.cells.toList 0 off arr (by simp at uL ef e2 ⊢;omega)
      rw[← Array.foldl_toList,Array.toList_zipIdx]
      simpa using this
     have hs:v'.cells.size=size:=by simp at uL e1 ⊢;omega
     have ft:¬(off+v'.cells.size > arr.size):=by simp at ef e2 uL;omega
     obtain⟨eR,h3,h4⟩:=ih Er _ (v'.cells.zipIdx.foldl (fun cs (x:Value×Nat)=>cs.setIfInBounds (off+x.2) x.1) arr) out ⟨h1,h2⟩ (by rw[hz];exact U9 hc hv.cells) ha
     refine⟨eR,?_,h4⟩
     simp only[Instr.fill,hp]
     rw[if_neg (by simp[hs];omega)]
     exact h3
def CZ (P:Program):List Field→Option (List (Nat×Nat))
 |[]=>some []
 |f::fs=>match dc P f.type,CZ P fs with
  |some n,some r=>some ((f.offset,n)::r)
  |_,_=>none
theorem run_places {P:Program}{w:World}:∀ {fs:List Field} {l:List (Nat×Nat)},CZ P fs=some l→
  (fs.mapM (fun f=>(sizeOf f.type >>= fun s=>pure (f.offset,s):Sem (Nat×Nat)))).run P w=.ok l w
 |[],l,h=>by simp only[CZ,ax] at h;subst h;simp only[List.mapM_nil,Sem.run_pure]
 |f::fs,l,h=>by
  simp only[CZ] at h
  split at h
  ·rename_i n r h1 h2
   simp only[ax] at h;subst h
   simp only[List.mapM_cons,Sem.run_bind,mq h1,Result.andThen_ok,Sem.run_pure,run_places h2]
  simp at h
def C0 (P:Program)(t:TypeId)(parts:List (Nat×Value)):Option Value:=
 match oC P t,P.underlying t with
 |some z,some (.struct fields)=>
  match CZ P fields.toList with
  |some l=>(tH (l[·]?) z parts).map fun cs=>.agg cs.toArray
  |none=>none
 |some z,some (.array _ e)=>
  match dc P e with
  |some n=>(tH (fun i=>some (i*n,n)) z parts).map fun cs=>.agg cs.toArray
  |none=>none
 |_,_=>none
theorem Va {P:Program}{U:Mu}{w:World}{t:TypeId}{parts:List (Nat×Value)}{b8:Array (Nat×Value)}{v:Value}(hp:uJ U parts b8.toList)(ha:C0 P t parts=some v) :
  ∃v',(Instr.build t b8).run P w=.ok v' w∧aj U v v':=by
 unfold C0 at ha
 split at ha
 ·rename_i z fields hz hu
  obtain⟨zv,h1,h2,h3⟩:=xY hz w
  split at ha
  ·rename_i l hl
   cases hf:tH (l[·]?) z parts with
   |none=>rw[hf] at ha;simp at ha
   |some cs=>
    rw[hf] at ha;simp at ha;subst ha
    obtain⟨out,h4,h5⟩:=Hl (U:=U) (l[·]?) parts b8.toList z zv.cells cs hp (h2▸AT h3) hf
    have gZ:=run_places (w:=w) hl
    have qc:(fields.mapM (fun f=>(sizeOf f.type >>= fun s=>pure (f.offset,s):Sem (Nat×Nat)))).run P w=.ok l.toArray w:=by
     rw[Array.mapM_eq_mapM_toList,Sem.run_map,gZ,Result.andThen_ok]
    refine⟨.agg out,?_,.agg _ _ ?_ ?_⟩
    ·have Vb:Instr.fill (fun i=>l.toArray[i]?) zv.cells b8.toList=some out:=by simpa using h4
     simp only[Instr.build,Sem.run_bind,h1,Result.andThen_ok,run_underlying hu,qc,Vb,Sem.run_pure]
    ·exact((qa (cs:=cs.toArray)).1 (by simpa using h5)).1
    exact((qa (cs:=cs.toArray)).1 (by simpa using h5)).2
  simp at ha
 ·rename_i z len e hz hu
  obtain⟨zv,h1,h2,h3⟩:=xY hz w
  split at ha
  ·rename_i n hn
   cases hf:tH (fun i=>some (i*n,n)) z parts with
   |none=>rw[hf] at ha;simp at ha
   |some cs=>
    rw[hf] at ha;simp at ha;subst ha
    obtain⟨out,h4,h5⟩:=Hl (U:=U) (fun i=>some (i*n,n)) parts b8.toList z zv.cells cs hp (h2▸AT h3) hf
    refine⟨.agg out,?_,.agg _ _ ?_ ?_⟩
    ·simp[Instr.build,h1,run_underlying hu,mq hn,h4]
    ·exact((qa (cs:=cs.toArray)).1 (by simpa using h5)).1
    exact((qa (cs:=cs.toArray)).1 (by simpa using h5)).2
  simp at ha
 simp at ha
def cJ (z:List Value):Nat→List Value
 |0=>[]
 |n+1=>z++cJ z n
theorem Hm (z:List Value):∀n,(cJ z n).length=n*z.length
 |0=>by simp[cJ]
 |n+1=>by simp[cJ,Hm z n,Nat.succ_mul];omega
theorem Ot (z:List Value):∀(n i:Nat),i<n*z.length→(cJ z n)[i]?=z[i % z.length]?
 |0,i,h=>by simp at h
 |n+1,i,h=>by
  have hz:0<z.length:=by
   rcases Nat.eq_zero_or_pos z.length with h0|h0
   ·rw[h0] at h;simp at h
   exact h0
  by_cases hi:i<z.length
  ·rw[cJ,List.getElem?_append_left hi,Nat.mod_eq_of_lt hi]
  rw[cJ,List.getElem?_append_right (by omega),Ot z n (i - z.length) (by rw[Nat.succ_mul] at h;omega)]
  rw[Nat.mod_eq_sub_mod (by omega:i≥z.length)]
theorem range_zero (z:Array Value)(n:Nat):((Array.range (n*z.size)).map fun i=>z[i % z.size]!).toList=cJ z.toList n:=by
 apply List.ext_getElem?
 intro i
 by_cases hi:i<n*z.size
 ·rw[Ot _ _ _ (by simpa using hi)]
  have hz:0<z.size:=by
   rcases Nat.eq_zero_or_pos z.size with h0|h0
   ·rw[h0] at hi;simp at hi
   exact h0
  have hm:i % z.size<z.size:=Nat.mod_lt _ hz
  simp[hi,hm]
 rw[List.getElem?_eq_none (by simp;omega),List.getElem?_eq_none (by rw[Hm];simp;omega)]
theorem C3 {U:Mu}{z z':List Value}(h:bn U z z'):∀n,bn U (cJ z n) (cJ z' n)
 |0=>bn.nil U
 |n+1=>h.append (C3 h n)
def C4 (P:Program)(h:ae)(t:TypeId)(len:Nat)(parts:List (Nat×Value)):Option (Value×ae):=
 match fS P t with
 |some (e,n)=>
  match oC P e with
  |some z=>
   bif Nat.beq z.length n&&Nat.ble (len*n) 16777216&&Nat.blt 0 n then
    match tH (fun i=>some (i*n,n)) (cJ z len) parts with
    |some cs=>some (.slice (some ⟨h.next,0,none⟩) len len,h.alloc (.cells 0 cs))
    |none=>none
   else none
  |none=>none
 |none=>none
theorem nk {C k:Nat}(h:k<ar):gb C k=k:=by simp[gb,h]
theorem Vc {P:Program}{lo:Nat}{U:Mu}{h:ae}{w:World}(r:Rel U lo h w){t:TypeId}{len:Nat}{parts:List (Nat×Value)}{b8:Array (Nat×Value)}{v:Value}{h':ae}
  (hp:uJ U parts b8.toList) (ha:C4 P h t len parts=some (v,h')):dW P lo (Instr.buildSlice t len b8) U h w v h':=by
 unfold C4 at ha
 split at ha
 ·rename_i e n he
  obtain⟨hu,hn⟩:=tG he
  split at ha
  ·rename_i z hz
   obtain⟨zv,h1,h2,h3⟩:=xY hz w
   cases hc:(Nat.beq z.length n&&Nat.ble (len*n) 16777216&&Nat.blt 0 n) with
   |false=>rw[hc] at ha;simp at ha
   |true=>
    rw[hc] at ha
    simp only[aJ] at ha
    simp only[bR] at hc
    obtain⟨⟨gQ,fT⟩,hP⟩:=hc
    have gQ:z.length=n:=by simpa using gQ
    have fT:len*n≤16777216:=by simpa using fT
    have hP:0<n:=by rw[Nat.blt_eq] at hP;exact hP
    split at ha
    ·rename_i cs hf
     simp only[ax,bI] at ha
     obtain⟨rfl,rfl⟩:=ha
     have zF:zv.cells.size=n:=by rw[← gQ,← h2];simp
     have hlen:len≤16777216:=Nat.le_trans (Nat.le_mul_of_pos_right len hP) fT
     have qe:bn U (cJ z len) ((Array.range (len*n)).map (zv.cells[· % zv.cells.size]!)).toList:=by
      have:=range_zero zv.cells len
      rw[zF] at this ⊢
      rw[this,h2]
      exact C3 (h2▸AT h3) len
     obtain⟨out,h4,h5⟩:=Hl (U:=U) (fun i=>some (i*n,n)) parts b8.toList (cJ z len) _ cs hp qe hf
     obtain⟨aN,h6,h7,h8,h9⟩:=Js (P:=P) r e out cs h5
     have fF:len=gb 0 len:=by rw[nk];unfold ar;omega
     refine⟨.slice (some ⟨w.heap.size,0,none⟩) len len,_,aN,?_,?_,h8,h9⟩
     ·have fU:¬(len*n > 2 ^ 24):=by omega
      by_cases h0:len*n=0
      ·have kN:len=0:=by
        rcases Nat.mul_eq_zero.1 h0 with h|h
        ·exact h
        omega
       subst kN
       have mO:Array.range 0=#[]:=rfl
       rw[Nat.zero_mul,mO] at h4
       simp only[List.map_toArray,List.map_nil] at h4
       simp[Instr.buildSlice,run_underlying hu,mq hn,mO,h4,h6]
      simp[Instr.buildSlice,run_underlying hu,mq hn,fU,h0,h1,h4,h6]
     have:=aj.slice h.next 0 len len w.heap.size 0 0 h7 (Nat.le_of_eq fF) (by unfold dC;omega)
     rwa [← fF] at this
    simp at ha
  simp at ha
 simp at ha
def C5 (P:Program)(h:ae)(t:TypeId)(l c:Value):Option (Value×ae):=
 match l,c,fS P t with
 |.int .i64 (.ofNat l),.int .i64 (.ofNat c),some (e,n)=>
  match oC P e,(P.info? e).map (·.bytes) with
  |some z,some bytes=>
   bif Nat.beq z.length n&&Nat.ble l c&&Nat.ble (bytes*c) 281474976710656&&Nat.blt 0 n&&Nat.ble c 281474976710656 then
    some (.slice (some ⟨h.next,0,none⟩) l c,h.alloc (.cells 0 (cJ z c)))
   else none
  |_,_=>none
 |_,_,_=>none
theorem Hn {n:Nat}(h:n≤281474976710656):IntKind.i64.wrap (n:Int)=n:=by
 simp[IntKind.wrap,IntKind.signed,IntKind.bits]
 omega
theorem Vd {P:Program}{lo:Nat}{U:Mu}{h:ae}{w:World}(r:Rel U lo h w){t:TypeId}{l l' c c':Value}{v:Value}{h':ae}
  (hl:aj U l l') (iD:aj U c c') (ha:C5 P h t l c=some (v,h')):dW P lo (Instr.makeSlice t l' c') U h w v h':=by
 unfold C5 at ha
 split at ha
 ·rename_i l c e n he
  cases hl with
  |int=>
  cases iD with
  |int=>
  obtain⟨hu,hn⟩:=tG he
  split at ha
  ·rename_i z bytes hz hb
   obtain⟨zv,h1,h2,h3⟩:=xY hz w
   cases hc:(Nat.beq z.length n&&Nat.ble l c&&Nat.ble (bytes*c) 281474976710656&&Nat.blt 0 n&&Nat.ble c 281474976710656) with
   |false=>rw[hc] at ha;simp at ha
   |true=>
    rw[hc] at ha
    simp only[aJ,ax,bI] at ha
    obtain⟨rfl,rfl⟩:=ha
    simp only[bR] at hc
    obtain⟨⟨⟨⟨gQ,fT⟩,hP⟩,AV⟩,AX⟩:=hc
    have gQ:z.length=n:=by simpa using gQ
    have fT:l≤c:=by simpa using fT
    have hP:bytes*c≤281474976710656:=by simpa using hP
    have AV:0<n:=by rw[Nat.blt_eq] at AV;exact AV
    have AX:c≤281474976710656:=by simpa using AX
    have zF:zv.cells.size=n:=by rw[← gQ,← h2];simp
    have Ho:IntKind.i64.wrap (c:Int)=c:=Hn AX
    have ss:IntKind.i64.wrap (l:Int)=l:=Hn (by omega)
    have qe:bn U (cJ z c) ((Array.range (c*n)).map (zv.cells[· % zv.cells.size]!)).toList:=by
     have:=range_zero zv.cells c
     rw[zF] at this ⊢
     rw[this,h2]
     exact C3 (h2▸AT h3) c
    obtain⟨aN,h6,h7,h8,h9⟩:=Js (P:=P) r e _ _ qe
    have fF:c=gb 0 c:=by rw[nk];unfold ar;omega
    refine⟨.slice (some ⟨w.heap.size,0,none⟩) l c,_,aN,?_,?_,h8,h9⟩
    ·cases hi:P.info? e with
     |none=>simp[hi] at hb
     |some i=>
      simp only[hi,Option.map_some,ax] at hb
      subst hb
      have Es:(typeInfo e).run P w=.ok i w:=by simp[typeInfo,hi]
      have Et:¬((281474976710656:Int)<(i.bytes:Int)*(c:Int)):=by
       have:((i.bytes*c:Nat):Int)≤((281474976710656:Nat):Int):=Int.ofNat_le.2 hP
       rw[Int.natCast_mul] at this
       exact Int.not_lt.2 this
      have zG:¬((c:Int)<(l:Int)):=by omega
      by_cases h0:c*n=0
      ·have zH:c=0:=by
        rcases Nat.mul_eq_zero.1 h0 with h|h
        ·exact h
        omega
       subst zH
       have kN:l=0:=by omega
       subst kN
       have mO:Array.range 0=#[]:=rfl
       have x6:IntKind.i64.wrap 0=0:=by decide
       rw[Nat.zero_mul,mO] at h6
       simp only[Array.map_empty] at h6
       simp[Instr.makeSlice,run_underlying hu,asInt,asIntOf,Es,mq hn,x6,mO,h6]
      simp[Instr.makeSlice,run_underlying hu,asInt,asIntOf,Es,mq hn,Ho,ss,zG,h0,h1,h6]
      rintro ((hh|hh)|hh)
      ·omega
      ·exact absurd hh Et
      omega
    have:=aj.slice h.next 0 l c w.heap.size 0 0 h7 (by rw[← fF];exact fT) (by unfold dC;omega)
    rwa [← fF] at this
  simp at ha
 simp at ha
def hU (op:BinOp)(k:IntKind)(a b:Int):Option Value:=
 match op with
 |.add=>some (.int k (k.wrap (a+b)))
 |.sub=>some (.int k (k.wrap (a - b)))
 |.mul=>some (.int k (k.wrap (a*b)))
 |.quo=>bif decide (b=0) then none else some (.int k (k.wrap (a.tdiv b)))
 |.rem=>bif decide (b=0) then none else some (.int k (a.tmod b))
 |.and=>some (.int k (k.wrap (BitVec.ofInt k.bits a &&& BitVec.ofInt k.bits b).toNat))
 |.or=>some (.int k (k.wrap (BitVec.ofInt k.bits a ||| BitVec.ofInt k.bits b).toNat))
 |.xor=>some (.int k (k.wrap (BitVec.ofInt k.bits a ^^^ BitVec.ofInt k.bits b).toNat))
 |.andNot=>some (.int k (k.wrap (BitVec.ofInt k.bits a &&& ~~~ BitVec.ofInt k.bits b).toNat))
 |.eql=>some (.bool (a==b))
 |.neq=>some (.bool (a != b))
 |.lss=>some (.bool (decide (a<b)))
 |.leq=>some (.bool (decide (a≤b)))
 |.gtr=>some (.bool (decide (a > b)))
 |.geq=>some (.bool (decide (a≥b)))
 |_=>none
def pA (op:BinOp)(k:IntKind)(a b:Int):Option Value:=
 match op with
 |.shl=>bif decide (b<0) then none else some (.int k (k.wrap (a*2 ^ min b.toNat k.bits)))
 |.shr=>bif decide (b<0) then none else some (.int k (a.fdiv (2 ^ min b.toNat k.bits)))
 |_=>none
def AY (P:Program)(t:TypeId)(a b:Value):Option Bool:=
 match P.underlying t,a,b with
 |some (.int _),.int k x,.int k' y=>bif decide (k=k') then some (x==y) else none
 |some .bool,.bool x,.bool y=>some (x==y)
 |some .string,.string x,.string y=>some (x.toList==y.toList)
 |_,_,_=>none
def tJ (P:Program)(xs ys:List Value):List Field→Option Bool
 |[]=>some true
 |f::fs=>
  bif f.name == "_" then tJ P xs ys fs else
  match dc P f.type with
  |some n=>
   match apart P f.type xs f.offset n,apart P f.type ys f.offset n with
   |some a,some b=>
    match AY P f.type a b with
    |some true=>tJ P xs ys fs
    |some false=>some false
    |none=>none
   |_,_=>none
  |none=>none
def dx (P:Program)(t:TypeId)(a b:Value):Option Bool:=
 match a,b with
 |.bool x,.bool y=>match P.underlying t with|some .bool=>some (x==y)|_=>none
 |.pointer none,.pointer none=>match P.underlying t with|some (.pointer _)=>some true|_=>none
 |.pointer none,.pointer (some _)=>match P.underlying t with|some (.pointer _)=>some false|_=>none
 |.pointer (some _),.pointer none=>match P.underlying t with|some (.pointer _)=>some false|_=>none
 |.slice none _ _,.slice none _ _=>match P.underlying t with|some (.slice _)=>some true|_=>none
 |.slice none _ _,.slice (some _) _ _=>match P.underlying t with|some (.slice _)=>some false|_=>none
 |.slice (some _) _ _,.slice none _ _=>match P.underlying t with|some (.slice _)=>some false|_=>none
 |.agg xs,.agg ys=>
  match P.underlying t with
  |some (.struct fs)=>bif P.stoodInHeld t||P.eqGuardType P.depth t then none else tJ P xs.toList ys.toList fs.toList
  |_=>none
 |_,_=>none
def Eu (op:BinOp)(x y:ByteArray):Option Value:=
 match op with
 |.eql=>some (.bool (x.toList==y.toList))
 |.neq=>some (.bool !(x.toList==y.toList))
 |.lss=>some (.bool (Op.bytesLess x.toList y.toList))
 |.add=>bif Nat.ble (x.size+y.size) 4611686018427387904 then some (.string (x++y)) else none
 |_=>none
def lV (P:Program)(op:BinOp)(t:TypeId)(a b:Value):Option Value:=
 match op,a,b with
 |.shl,.int k x,.int _ y=>pA .shl k x y
 |.shr,.int k x,.int _ y=>pA .shr k x y
 |op,.int k x,.int k' y=>bif decide (k=k') then hU op k x y else none
 |op,.string x,.string y=>Eu op x y
 |.eql,x,y=>(dx P t x y).map .bool
 |.neq,x,y=>(dx P t x y).map fun r=>.bool !r
 |_,_,_=>none
theorem Ve {P:Program}{w:World}{op:BinOp}{t:TypeId}{k:IntKind}{x y:Int}{v:Value}(h:hU op k x y=some v) :
    (binOp op t (.int k x) (.int k y)).run P w=.ok v w:=by
  cases op<;>simp only[hU,ax,reduceCtorEq] at h
  all_goals first
    |(subst h;simp[binOp,Op.intArith,Op.intBits,Op.intCmp];done)
    | (cases hb : decide (y = 0) with
       |true=>rw[hb] at h;simp at h
       |false=>rw[hb] at h;simp at h;simp at hb;subst h;simp[binOp,Op.intDiv,hb])
theorem Ou {P:Program}{w:World}{U:Mu}{t:TypeId}{d:Nat}{a b a' b':Value}{r:Bool}(ha:aj U a a')(hb:aj U b b')(h:AY P t a b=some r) :
  (Op.equalIn (d+1) t a' b').run P w=.ok r w:=by
 unfold AY at h
 split at h
 ·rename_i k0 k x k' y hu
  cases ha;cases hb
  cases hk:decide (k=k') with
  |false=>rw[hk] at h;simp at h
  |true=>rw[hk] at h;simp at h hk;subst hk h;exact run_equalIn_int w d t k k0 x y hu
 ·rename_i hu;cases ha;cases hb;simp at h;subst h;exact run_equalIn_bool' w d t _ _ hu
 ·rename_i hu;cases ha;cases hb;simp at h;subst h;exact run_equalIn_string w d t _ _ hu
 simp at h
theorem Jv {P:Program}{w:World}{U:Mu}{d:Nat}{xs ys bk dq:Array Value}(hx:bn U xs.toList bk.toList)(hy:bn U ys.toList dq.toList):∀ {fs:List Field} {r:Bool},
  tJ P xs.toList ys.toList fs=some r→(Op.eqFields (d+1) bk dq fs).run P w=.ok r w
 |[],r,h=>by simp[tJ] at h;subst h;simp[Op.eqFields]
 |f::fs,r,h=>by
  simp only[tJ] at h
  cases hn:(f.name == "_") with
  |true=>
   rw[hn] at h
   simp only[aJ] at h
   have mN:f.name = "_" := by simpa using hn
   simp only[Op.eqFields,mN,ne_eq,not_true,if_false]
   exact Jv hx hy h
  |false=>
   rw[hn] at h
   simp only[bl] at h
   have mN:f.name ≠ "_" := by simpa using hn
   simp only[Op.eqFields,mN,ne_eq,not_false_eq_true,if_true]
   split at h
   ·rename_i n e8
    split at h
    ·rename_i a b h1 h2
     obtain⟨a',h3,h4⟩:=En (w:=w) hx e8 h1
     obtain⟨b',h5,h6⟩:=En (w:=w) hy e8 h2
     split at h
     ·rename_i h7
      have h8:=Ou (P:=P) (w:=w) (d:=d) h4 h6 h7
      simp only[Sem.run_bind,h3,h5,h8,Result.andThen_ok,Bool.not_true,Bool.false_eq_true,if_false]
      exact Jv hx hy h
     ·rename_i h7
      simp only[ax] at h;subst h
      have h8:=Ou (P:=P) (w:=w) (d:=d) h4 h6 h7
      simp only[Sem.run_bind,h3,h5,h8,Result.andThen_ok,Bool.not_false,if_true,Sem.run_pure]
     simp at h
    simp at h
   simp at h
theorem AZ {P:Program}{w:World}{t:TypeId}{x y:Value}{r:Result Bool}(h:∀d,(Op.equalIn (d+1) t x y).run P w=r):(Op.equal t x y).run P w=r:=h 9999
theorem Jw {P:Program}{w:World}{U:Mu}{t:TypeId}{a b a' b':Value}{r:Bool}(ha:aj U a a')(hb:aj U b b')(h:dx P t a b=some r) :
    (Op.equal t a' b').run P w=.ok r w∧(∀op x y,(eqGuard op t x y a' b').run P w=.ok () w)∧
      (∀op,(∀k x k' y,¬(a'=.int k x∧b'=.int k' y))∧(∀x y,¬(a'=.string x∧b'=.string y))∧(op=BinOp.eql→binOp op t a' b'=(do pure (.bool (← Op.equal t a' b'))))∧(op=BinOp.neq→binOp op t a' b'=(do pure (.bool (!(← Op.equal t a' b')))))):=by
  have iR:∀(op:BinOp) (x y:Operand) (u v:Value),(∀xs ys,¬(u=.agg xs∧v=.agg ys))→¬(u=.nilIface∧v=.nilIface)→(eqGuard op t x y u v).run P w=.ok () w:=by
    intro op x y u v h1 h2
    cases op<;>simp only[eqGuard]<;>simp
    all_goals (cases u<;>cases v<;>simp_all)
  unfold dx at h
  split at h
  · cases ha;cases hb
    split at h
    · rename_i hu;simp at h;subst h
      exact⟨AZ fun d=>run_equalIn_bool' w d t _ _ hu,fun op x y=>iR op x y _ _ (by simp) (by simp),fun op=>⟨by simp,by simp,by rintro rfl;rfl,by rintro rfl;rfl⟩⟩
    simp at h
  · cases ha;cases hb
    split at h
    · rename_i hu;simp at h;subst h
      exact⟨AZ fun d=>by simp[Op.equalIn,run_underlying hu],fun op x y=>iR op x y _ _ (by simp) (by simp),fun op=>⟨by simp,by simp,by rintro rfl;rfl,by rintro rfl;rfl⟩⟩
    simp at h
  · cases ha;cases hb
    split at h
    · rename_i hu;simp at h;subst h
      exact⟨AZ fun d=>by simp[Op.equalIn,run_underlying hu],fun op x y=>iR op x y _ _ (by simp) (by simp),fun op=>⟨by simp,by simp,by rintro rfl;rfl,by rintro rfl;rfl⟩⟩
    simp at h
  · cases ha;cases hb
    split at h
    · rename_i hu;simp at h;subst h
      exact⟨AZ fun d=>by simp[Op.equalIn,run_underlying hu],fun op x y=>iR op x y _ _ (by simp) (by simp),fun op=>⟨by simp,by simp,by rintro rfl;rfl,by rintro rfl;rfl⟩⟩
    simp at h
  · cases ha;cases hb
    split at h
    · rename_i hu;simp at h;subst h
      exact⟨AZ fun d=>by simp[Op.equalIn,run_underlying hu],fun op x y=>iR op x y _ _ (by simp) (by simp),fun op=>⟨by simp,by simp,by rintro rfl;rfl,by rintro rfl;rfl⟩⟩
    simp at h
  · cases ha
    cases hb<;>
    (split at h
     · rename_i hu;simp at h;subst h
       exact⟨AZ fun d=>by simp[Op.equalIn,run_underlying hu],fun op x y=>iR op x y _ _ (by simp) (by simp),fun op=>⟨by simp,by simp,by rintro rfl;rfl,by rintro rfl;rfl⟩⟩
     simp at h)
  · cases hb
    cases ha<;>
    (split at h
     · rename_i hu;simp at h;subst h
       exact⟨AZ fun d=>by simp[Op.equalIn,run_underlying hu],fun op x y=>iR op x y _ _ (by simp) (by simp),fun op=>⟨by simp,by simp,by rintro rfl;rfl,by rintro rfl;rfl⟩⟩
     simp at h)
  · rename_i xs ys
    obtain⟨bk,rfl,hx⟩:=ha.CS
    obtain⟨dq,rfl,hy⟩:=hb.CS
    split at h
    · rename_i fs hu
      cases hc:(P.stoodInHeld t||P.eqGuardType P.depth t) with
      |true=>rw[hc] at h;simp at h
      | false =>
        rw[hc] at h
        simp only[bl] at h
        simp only[Bool.or_eq_false_iff] at hc
        have x7:P.fieldsOf t=fs:=by simp[Program.fieldsOf,hu]
        refine⟨?_,fun op x y=>run_eqGuard_agg w op t x y bk dq hc.2,fun op=>⟨by simp,by simp,by rintro rfl;rfl,by rintro rfl;rfl⟩⟩
        have hq:=run_equalIn_agg w 9999 t bk dq (by rw[x7];exact hu) hc.1
        rw[x7,Jv (d:=9998) hx hy h] at hq
        exact hq
    simp at h
  simp at h
theorem Vf {P:Program}{U:Mu}{w:World}{op:BinOp}{t:TypeId}{x y:Operand}{a a' b b' v:Value}(ha:aj U a a')(hb:aj U b b')(h:lV P op t a b=some v) :
    ∃v',(do eqGuard op t x y a' b';binOp op t a' b':Sem Value).run P w=.ok v' w∧aj U v v':=by
  have gi:∀(op:BinOp) (k k':IntKind) (m n:Int),(eqGuard op t x y (.int k m) (.int k' n)).run P w=.ok () w:=by
    intro op k k' m n;cases op<;>simp[eqGuard]
  have gs:∀(op:BinOp) (m n:ByteArray),(eqGuard op t x y (.string m) (.string n)).run P w=.ok () w:=by
    intro op m n;cases op<;>simp[eqGuard]
  unfold lV at h
  split at h
  · cases ha;cases hb
    rename_i k m _ n
    simp only[pA] at h
    cases hc:decide (n<0) with
    |true=>rw[hc] at h;simp at h
    | false =>
      rw[hc] at h;simp only[bl,ax] at h;subst h
      have Hp:¬n<0:=by simpa using hc
      exact⟨_,by simp[gi,binOp,Op.shift,Hp],.int _ _⟩
  · cases ha;cases hb
    rename_i k m _ n
    simp only[pA] at h
    cases hc:decide (n<0) with
    |true=>rw[hc] at h;simp at h
    | false =>
      rw[hc] at h;simp only[bl,ax] at h;subst h
      have Hp:¬n<0:=by simpa using hc
      exact⟨_,by simp[gi,binOp,Op.shift,Hp],.int _ _⟩
  · cases ha;cases hb
    rename_i k m k' n _ _
    cases hk:decide (k=k') with
    |false=>rw[hk] at h;simp at h
    | true =>
      rw[hk] at h;simp only[aJ] at h;simp at hk;subst hk
      have:=Ve (P:=P) (w:=w) (t:=t) h
      refine⟨v,by simp[gi,this],?_⟩
      cases op<;>simp only[hU,ax,reduceCtorEq] at h
      all_goals first
        |(subst h;first|exact .int _ _|exact .bool _)
        | (cases hb : decide (n = 0) with
           |true=>rw[hb] at h;simp at h
           |false=>rw[hb] at h;simp at h;subst h;exact .int _ _)
  · cases ha;cases hb
    rename_i m n
    cases op<;>simp only[Eu,ax,reduceCtorEq] at h
    all_goals first
      |(subst h;exact⟨_,by simp[gs,binOp,Op.stringOp],.bool _⟩)
      | (cases hc : Nat.ble (m.size + n.size) 4611686018427387904 with
         |false=>rw[hc] at h;simp at h
         | true =>
           rw[hc] at h;simp only[aJ,ax] at h;subst h
           have Hp:m.size+n.size≤4611686018427387904:=by simpa using hc
           have ia:¬(((m.size+n.size:Nat):Int) > IntKind.i64.max):=by
             have:IntKind.i64.max=9223372036854775807:=by decide
             rw[this];omega
           exact⟨.string (m++n),by simp only[Sem.run_bind,gs,Result.andThen_ok,binOp,Op.stringOp];rw[if_neg ia];rfl,.string _⟩)
  · rename_i h1 h2
    cases hq:dx P t a b with
    |none=>rw[hq] at h;simp at h
    | some r =>
      rw[hq] at h;simp at h;subst h
      obtain⟨e1,e2,e3⟩:=Jw (w:=w) ha hb hq
      refine⟨.bool r,?_,.bool r⟩
      rw[Sem.run_bind,e2,Result.andThen_ok,(e3 .eql).2.2.1 rfl]
      simp[e1]
  · rename_i h1 h2
    cases hq:dx P t a b with
    |none=>rw[hq] at h;simp at h
    | some r =>
      rw[hq] at h;simp at h;subst h
      obtain⟨e1,e2,e3⟩:=Jw (w:=w) ha hb hq
      refine⟨.bool !r,?_,.bool _⟩
      rw[Sem.run_bind,e2,Result.andThen_ok,(e3 .neq).2.2.2 rfl]
      simp[e1]
  simp at h
def oD (op:UnOp)(x:Value):Option Value:=
 match op,x with
 |.neg,.int k n=>some (.int k (k.wrap (0 - n)))
 |.not,.bool b=>some (.bool !b)
 |_,_=>none
theorem Vg {P:Program}{U:Mu}{w:World}{op:UnOp}{a a' v:Value}(ha:aj U a a')(h:oD op a=some v):∃v',(Op.unary op a').run P w=.ok v' w∧aj U v v':=by
 unfold oD at h
 split at h
 ·cases ha;simp only[ax] at h;subst h;exact⟨_,by simp[Op.unary,Op.intArith],.int _ _⟩
 ·cases ha;simp only[ax] at h;subst h;exact⟨_,by simp[Op.unary],.bool _⟩
 simp at h
def oE (P:Program)(s d:TypeId)(x:Value):Option Value:=
 match P.underlying s,P.underlying d,x with
 |some (.int _),some (.int k),.int _ n=>some (.int k (k.wrap n))
 |some .string,some .string,.string s=>some (.string s)
 |_,_,_=>none
theorem Vh {P:Program}{U:Mu}{w:World}{s d:TypeId}{a a' v:Value}(ha:aj U a a')(h:oE P s d a=some v):∃v',(convert s d a').run P w=.ok v' w∧aj U v v':=by
 unfold oE at h
 split at h
 ·rename_i h1 h2
  cases ha;simp only[ax] at h;subst h
  exact⟨_,by simp[convert,run_underlying h1,run_underlying h2,Conv.intToInt],.int _ _⟩
 ·rename_i h1 h2
  cases ha;simp only[ax] at h;subst h
  exact⟨_,by simp[convert,run_underlying h1,run_underlying h2],.string _⟩
 simp at h
def C6 (x:Value):Option Value:=
 match x with
 |.pointer (some a)=>some (.pointer (some a))
 |.func (.func f) a b=>some (.func (.func f) a b)
 |_=>none
def jW (v:Value)(y:Nat):Option Nat:=
 match v with
 |.int _ (.ofNat i)=>bif Nat.ble i y then some i else none
 |_=>none
theorem Hq {P:Program}{U:Mu}{w:World}{v v':Value}{y i:Nat}(hv:aj U v v')(h:jW v y=some i)(y':Nat)(hy:y≤y')(c:BoundsCode) :
  (Instr.sliceBound v' y' c).run P w=.ok i w∧i≤y:=by
 unfold jW at h
 split at h
 ·rename_i k j
  cases hv
  cases hj:Nat.ble j y with
  |false=>rw[hj] at h;simp at h
  |true=>
   rw[hj] at h;simp only[aJ,ax] at h;subst h
   have mL:j≤y:=by simpa using hj
   have h1:(0:Int)≤(Int.ofNat j)∧Int.ofNat j≤(y':Int):=by
    constructor
    ·exact Int.natCast_nonneg j
    exact Int.ofNat_le.2 (Nat.le_trans mL hy)
   refine⟨?_,mL⟩
   simp only[Instr.sliceBound,Sem.run_bind,asIntOf,Sem.run_pure,Result.andThen_ok]
   rw[if_pos h1];rfl
 simp at h
def bM (known:Nat):Option Value→Option (Option Nat)
 |some v=>(jW v known).map some
 |none=>some none
def bH (len known:Nat):Option Value→Option Nat→Option Nat
 |some v,some m=>jW v m
 |some v,none=>jW v known
 |none,none=>some len
 |none,some _=>none
def bL (h:Nat):Option Value→Option Nat
 |some v=>jW v h
 |none=>some 0
def qf (len known:Nat)(lo hi mx:Option Value):Option (Nat×Nat×Option Nat):=
 match bM known mx with
 |none=>none
 |some m=>
  match bH len known hi m with
  |none=>none
  |some h=>
   match bL h lo with
   |none=>none
   |some l=>some (l,h,m)
def cM (cap:Nat)(sl:Bool):Option Value→Sem Nat
 |some v=>Instr.sliceBound v cap (if sl then .slice3Acap else .slice3Alen)
 |none=>pure cap
def cH (len m:Nat)(sl:Bool)(mx:Option Value):Option Value→Sem Nat
 |some v=>match mx with
  |some _=>Instr.sliceBound v m .slice3B
  |none=>Instr.sliceBound v m (if sl then .sliceAcap else .sliceAlen)
 |none=>match mx with
  |some _=>stuck "Slice: max without high"
  |none=>pure len
def cL (h:Nat)(mx:Option Value):Option Value→Sem Nat
 |some v=>Instr.sliceBound v h (if mx.isSome then .slice3C else .sliceB)
 |none=>pure 0
theorem Vi (sl:Bool)(len cap:Nat)(lo hi mx:Option Value) :
  Instr.sliceBounds sl len cap lo hi mx=(cM cap sl mx >>= fun m=>cH len m sl mx hi >>= fun h=>cL h mx lo >>= fun l=>pure (l,h,m)):=by
 unfold Instr.sliceBounds
 cases mx<;>cases hi<;>cases lo<;>rfl
def A0 (U:Mu):Option Value→Option Value→Prop
 |none,none=>True
 |some v,some v'=>aj U v v'
 |_,_=>False
theorem A1 {P:Program}{U:Mu}{w:World}{len known:Nat}{lo hi mx eQ dD iS:Option Value}{l h:Nat}{m:Option Nat}(cw:A0 U lo eQ)(gB:A0 U hi dD)(ia:A0 U mx iS)
  (ha:qf len known lo hi mx=some (l,h,m)) (cap:Nat) (hc:known≤cap) (hl:len≤known) (sl:Bool) :
  (Instr.sliceBounds sl len cap eQ dD iS).run P w=.ok (l,h,m.getD cap) w∧l≤h∧h≤known∧(∀x,m=some x→h≤x∧x≤known):=by
 unfold qf at ha
 cases hm:bM known mx with
 |none=>simp[hm] at ha
 |some m0=>
  simp only[hm] at ha
  cases hh:bH len known hi m0 with
  |none=>simp[hh] at ha
  |some h0=>
   simp only[hh] at ha
   cases fa:bL h0 lo with
   |none=>simp[fa] at ha
   |some l0=>
    simp only[fa,ax,bI] at ha
    obtain⟨rfl,rfl,rfl⟩:=ha
    have lW:(cM cap sl iS).run P w=.ok (m0.getD cap) w∧(∀x,m0=some x→x≤known)∧(m0.isSome=iS.isSome):=by
     cases mx with
     |none=>
      cases iS with
      |none=>simp only[bM,ax] at hm;subst hm;exact⟨rfl,by simp,rfl⟩
      |some v'=>exact ia.elim
     |some v=>
      cases iS with
      |none=>exact ia.elim
      |some v'=>
       simp only[bM] at hm
       cases hb:jW v known with
       |none=>rw[hb] at hm;simp at hm
       |some x=>
        rw[hb] at hm;simp only[Option.map_some,ax] at hm;subst hm
        have hr:=fun c=>(Hq (P:=P) (w:=w) (show aj U v v' from ia) hb cap hc c)
        exact⟨(hr _).1,fun y hy=>by simp only[ax] at hy;subst hy;exact(hr .index).2,rfl⟩
    obtain⟨cj,gu,Ev⟩:=lW
    have Vj:(cH len (m0.getD cap) sl iS dD).run P w=.ok h0 w∧h0≤known∧(∀x,m0=some x→h0≤x):=by
     cases hi with
     |none=>
      cases dD with
      |some v'=>exact gB.elim
      |none=>
       cases m0 with
       |some x=>simp[bH] at hh
       |none=>
        simp only[bH,ax] at hh;subst hh
        cases iS with
        |some v'=>simp at Ev
        |none=>exact⟨rfl,hl,by simp⟩
     |some v=>
      cases dD with
      |none=>exact gB.elim
      |some v'=>
       cases m0 with
       |some x=>
        cases iS with
        |none=>simp at Ev
        |some u=>
         have hr:=Hq (P:=P) (w:=w) (show aj U v v' from gB) hh x (Nat.le_refl _) .slice3B
         exact⟨hr.1,Nat.le_trans hr.2 (gu x rfl),fun y hy=>by simp only[ax] at hy;subst hy;exact hr.2⟩
       |none=>
        cases iS with
        |some u=>simp at Ev
        |none=>
         have hr:=fun c=>Hq (P:=P) (w:=w) (show aj U v v' from gB) hh cap hc c
         exact⟨(hr _).1,(hr .index).2,by simp⟩
    obtain⟨Vk,Vl,Vm⟩:=Vj
    have cU:(cL h0 iS eQ).run P w=.ok l0 w∧l0≤h0:=by
     cases lo with
     |none=>
      cases eQ with
      |some v'=>exact cw.elim
      |none=>simp only[bL,ax] at fa;subst fa;exact⟨rfl,Nat.zero_le _⟩
     |some v=>
      cases eQ with
      |none=>exact cw.elim
      |some v'=>
       have hr:=fun c=>Hq (P:=P) (w:=w) (show aj U v v' from cw) fa h0 (Nat.le_refl _) c
       exact⟨(hr _).1,(hr .index).2⟩
    refine⟨?_,cU.2,Vl,fun x hx=>⟨Vm x hx,gu x hx⟩⟩
    rw[Vi,Sem.run_bind,cj,Result.andThen_ok,Sem.run_bind,Vk,Result.andThen_ok,Sem.run_bind,cU.1,Result.andThen_ok,Sem.run_pure]
def kh (P:Program)(t:TypeId)(x:Value)(lo hi mx:Option Value):Option Value:=
 match x with
 |.slice none 0 0=>
  match fS P t,qf 0 0 lo hi mx with
  |some _,some _=>some (.slice none 0 0)
  |_,_=>none
 |.slice (some ⟨o,off,none⟩) len k=>
  match fS P t with
  |some (_,sz)=>
   bif Nat.blt k ar then
    match qf len k lo hi mx with
    |some (l,h,m)=>
     let m':=m.getD k
     some (.slice (some ⟨o,bif Nat.beq m' l then off else off+l*sz,none⟩) (h - l) (m' - l))
    |none=>none
   else bif Nat.blt k dC then
    match qf len len lo hi mx with
    |some (l,h,some m)=>bif Nat.blt m ar then some (.slice (some ⟨o,bif Nat.beq m l then off else off+l*sz,none⟩) (h - l) (m - l)) else none
    |some (l,h,none)=>
     bif Nat.beq l 0 then some (.slice (some ⟨o,off,none⟩) h k)
     else bif Nat.beq h l then some (.slice (some ⟨o,off,none⟩) 0 dC)
     else bif Nat.blt (k+l) dC then some (.slice (some ⟨o,off+l*sz,none⟩) (h - l) (k+l)) else none
    |none=>none
   else
    match qf 0 0 lo hi mx with
    |some (_,_,none)=>some (.slice (some ⟨o,off,none⟩) 0 dC)
    |some (_,_,some _)=>some (.slice (some ⟨o,off,none⟩) 0 0)
    |none=>none
  |none=>none
 |_=>none
theorem jM (a b:Nat):(Nat.beq a b=true∧a=b)∨(Nat.beq a b=false∧a≠b):=by
 cases h:Nat.beq a b with
 |true=>exact .inl ⟨rfl,by simpa using h⟩
 |false=>exact .inr ⟨rfl,by intro e;subst e;simp at h⟩
theorem A2 {P:Program}{w:World}{t e:TypeId}{n:Nat}(hu:P.underlying t=some (.slice e))(hn:dc P e=some n)(p:Option Addr)(len cap:Nat)(lo hi mx:Option Value){l h m:Nat}
  (hb:(Instr.sliceBounds true len cap lo hi mx).run P w=.ok (l,h,m) w) :
  (Instr.sliceAt t (.slice p len cap) lo hi mx).run P w=.ok (.slice (if m=l then p else p.map (·.add (l*n))) (h - l) (m - l)) w:=by
 simp only[Instr.sliceAt,Sem.run_bind,run_underlying hu,Result.andThen_ok,Instr.slice,hb,mq hn,Sem.run_pure]
theorem Vn {P:Program}{U:Mu}{w:World}{t:TypeId}{x x':Value}{lo hi mx eQ dD iS:Option Value}{v:Value}(hx:aj U x x')(cw:A0 U lo eQ)(gB:A0 U hi dD)(ia:A0 U mx iS)
  (ha:kh P t x lo hi mx=some v):∃v',(Instr.sliceAt t x' eQ dD iS).run P w=.ok v' w∧aj U v v':=by
 unfold kh at ha
 split at ha
 ·split at ha
  ·rename_i e q jq hb
   obtain⟨e1,n⟩:=e
   obtain⟨hu,hn⟩:=tG jq
   obtain⟨l,h,m⟩:=q
   cases hx
   obtain⟨h1,h2,h3,h4⟩:=A1 (P:=P) (w:=w) cw gB ia hb 0 (Nat.le_refl _) (Nat.le_refl _) true
   simp only[ax] at ha;subst ha
   have hm:m.getD 0=0:=by
    cases m with
    |none=>rfl
    |some x=>have:=(h4 x rfl).2;simp;omega
   have hh:h=0:=by omega
   have hl:l=0:=by omega
   subst hh hl
   rw[hm] at h1
   exact⟨_,A2 hu hn none 0 0 eQ dD iS h1,by simp;exact .dH⟩
  simp at ha
 ·rename_i o off len k
  split at ha
  ·rename_i e sz jq
   obtain⟨hu,hn⟩:=tG jq
   cases hk:Nat.blt k ar with
   |true=>
    have jr:k<ar:=by rw[Nat.blt_eq] at hk;exact hk
    rw[hk] at ha
    simp only[aJ] at ha
    split at ha
    ·rename_i l h m hb
     simp only[ax] at ha;subst ha
     cases hx with
     |slice _ _ _ _ b a C hm hl dI=>
      rw[nk jr] at hl ⊢
      obtain⟨h1,h2,h3,h4⟩:=A1 (P:=P) (w:=w) cw gB ia hb k (Nat.le_refl _) hl true
      refine⟨_,A2 hu hn _ _ _ _ _ _ h1,?_⟩
      have C7:m.getD k≤k∧h≤m.getD k:=by
       cases m with
       |none=>exact⟨Nat.le_refl _,h3⟩
       |some x=>exact⟨(h4 x rfl).2,(h4 x rfl).1⟩
      have aU:m.getD k - l<ar:=by omega
      rcases jM (m.getD k) l with⟨hq,bZ⟩|⟨hq,bZ⟩
      ·rw[hq]
       simp only[bZ,if_true,aJ]
       have:=aj.slice o off (h - l) (l - l) b a C hm (by rw[nk (by omega)];omega) (by unfold dC;unfold ar at *;omega)
       rwa [nk (by omega)] at this
      rw[hq]
      simp only[bZ,if_false,bl,Option.map_some,sn]
      have:=aj.slice o (off+l*sz) (h - l) (m.getD k - l) b a C hm (by rw[nk aU];omega) (by unfold dC;unfold ar at *;omega)
      rwa [nk aU,← Nat.add_assoc] at this
     |bK=>unfold dC ar at jr;omega
     |b7 p p'=>
      obtain⟨h1,h2,h3,h4⟩:=A1 (P:=P) (w:=w) cw gB ia hb 0 (Nat.le_refl _) (Nat.le_refl _) true
      refine⟨_,A2 hu hn _ _ _ _ _ _ h1,?_⟩
      have hm:m.getD 0=0:=by
       cases m with
       |none=>rfl
       |some x=>have:=(h4 x rfl).2;simp;omega
      have hh:h=0:=by omega
      have hl:l=0:=by omega
      subst hh hl
      simp only[hm,if_true]
      exact .b7 _ _
    simp at ha
   |false=>
    rw[hk] at ha
    simp only[bl] at ha
    have jr:¬k<ar:=by intro h;rw[← Nat.blt_eq,hk] at h;cases h
    cases iT:Nat.blt k dC with
    |true=>
     rw[iT] at ha
     simp only[aJ] at ha
     have A3:k<dC:=by rw[Nat.blt_eq] at iT;exact iT
     cases hx with
     |bK=>omega
     |b7=>unfold ar at jr;omega
     |slice _ _ _ _ b a C hm hl dI=>
      split at ha
      ·rename_i l h m hb
       cases x8:Nat.blt m ar with
       |false=>rw[x8] at ha;simp at ha
       |true=>
       rw[x8] at ha
       simp only[aJ,ax] at ha;subst ha
       have hmi:m<ar:=by rw[Nat.blt_eq] at x8;exact x8
       obtain⟨h1,h2,h3,h4⟩:=A1 (P:=P) (w:=w) cw gB ia hb (gb C k) hl (Nat.le_refl _) true
       refine⟨_,A2 hu hn _ _ _ _ _ _ h1,?_⟩
       obtain⟨h5,h6⟩:=h4 m rfl
       simp only[Option.getD_some]
       have ep:gb C k=C - (k - ar):=by simp[gb,jr]
       have lh:m - l<ar:=by omega
       ·rcases jM m l with⟨hq,bZ⟩|⟨hq,bZ⟩
        ·rw[hq]
         simp only[bZ,if_true,aJ]
         have:=aj.slice o off (h - l) (l - l) b a C hm (by rw[nk (by omega)];omega) (by unfold dC;unfold ar at *;omega)
         rwa [nk (by omega)] at this
        rw[hq]
        simp only[bZ,if_false,bl,Option.map_some,sn]
        have:=aj.slice o (off+l*sz) (h - l) (m - l) b a C hm (by rw[nk lh];omega) (by unfold dC;unfold ar at *;omega)
        rwa [nk lh,← Nat.add_assoc] at this
      ·rename_i l h hb
       obtain⟨h1,h2,h3,h4⟩:=A1 (P:=P) (w:=w) cw gB ia hb (gb C k) hl (Nat.le_refl _) true
       have eG:=A2 hu hn (some ⟨b,a+off,none⟩) len (gb C k) eQ dD iS h1
       simp only[Option.getD_none] at eG
       have ep:gb C k=C - (k - ar):=by simp[gb,jr]
       rcases jM l 0 with⟨hq,bZ⟩|⟨hq,bZ⟩
       ·rw[hq] at ha
        simp only[aJ,ax] at ha;subst ha bZ
        refine⟨_,eG,?_⟩
        have:=aj.slice o off h k b a C hm (by omega) dI
        simp only[Nat.zero_mul,Option.map_some,sn,Nat.add_zero,ite_self,Nat.sub_zero]
        exact this
       rw[hq] at ha
       simp only[bl] at ha
       rcases jM h l with⟨hr,oF⟩|⟨hr,oF⟩
       ·rw[hr] at ha
        simp only[aJ,ax] at ha;subst ha oF
        refine⟨_,eG,?_⟩
        rw[Nat.sub_self]
        split
        ·exact .bK _ _ _
        exact .bK _ _ _
       rw[hr] at ha
       simp only[bl] at ha
       cases hz:Nat.blt (k+l) dC with
       |false=>rw[hz] at ha;simp at ha
       |true=>
        rw[hz] at ha
        simp only[aJ,ax] at ha;subst ha
        refine⟨_,eG,?_⟩
        rw[if_neg (by omega)]
        simp only[Option.map_some,sn]
        have fT:gb C (k+l)=gb C k - l:=by
         rw[ep];unfold gb;rw[if_neg (by omega)];omega
        have:=aj.slice o (off+l*sz) (h - l) (k+l) b a C hm (by rw[fT];omega) (by rw[Nat.blt_eq] at hz;exact hz)
        rwa [fT,← Nat.add_assoc] at this
      simp at ha
    |false=>
     rw[iT] at ha
     simp only[bl] at ha
     have A3:¬k<dC:=by intro h;rw[← Nat.blt_eq,iT] at h;cases h
     cases hx with
     |slice _ _ _ _ b a C hm hl dI=>omega
     |b7=>unfold dC at A3;omega
     |bK p p' c=>
      split at ha
      ·rename_i l h hb
       simp only[ax] at ha;subst ha
       obtain⟨h1,h2,h3,h4⟩:=A1 (P:=P) (w:=w) cw gB ia hb c (Nat.zero_le _) (Nat.le_refl _) true
       have eG:=A2 hu hn (some p') 0 c eQ dD iS h1
       have hh:h=0:=by omega
       have hl:l=0:=by omega
       subst hh hl
       refine⟨_,eG,?_⟩
       simp only[Option.getD_none,Nat.sub_zero]
       split
       ·exact .bK _ _ _
       exact .bK _ _ _
      ·rename_i l h m hb
       simp only[ax] at ha;subst ha
       obtain⟨h1,h2,h3,h4⟩:=A1 (P:=P) (w:=w) cw gB ia hb c (Nat.zero_le _) (Nat.le_refl _) true
       have eG:=A2 hu hn (some p') 0 c eQ dD iS h1
       have hm:=(h4 m rfl).2
       have hh:h=0:=by omega
       have hl:l=0:=by omega
       have lW:m=0:=by omega
       subst hh hl lW
       refine⟨_,eG,?_⟩
       simp only[Option.getD_some,Nat.sub_zero,if_true]
       exact .b7 _ _
      simp at ha
  simp at ha
 simp at ha
def nW (h:ae)(n:Nat)(x:Value)(m:Nat):Option (List Value):=
 bif Nat.beq m 0 then some [] else
 match x with
 |.slice (some ⟨o,off,none⟩) _ _=>
  match h.get o with
  |some (.cells _ cs)=>bif Nat.ble (off+m*n) cs.length then some ((cs.drop off).take (m*n)) else none
  |_=>none
 |_=>none
def jB:Value→Option Nat
 |.slice _ l _=>some l
 |_=>none
theorem Jx {P:Program}{U:Mu}{w:World}{x x':Value}{m:Nat}(hx:aj U x x')(h:jB x=some m):(Builtin.lenOf x').run P w=.ok m w∧∃p c,x'=.slice p m c:=by
 unfold jB at h
 split at h
 ·simp only[ax] at h;subst h
  cases hx<;>exact⟨rfl,_,_,rfl⟩
 simp at h
theorem Hr {P:Program}{lo:Nat}{U:Mu}{h:ae}{w:World}(r:Rel U lo h w){n m:Nat}{x x':Value}{xs:List Value}(hx:aj U x x'){p:Option Addr}{l c:Nat}(gd:x'=.slice p l c)(C8:m≤l)(hs:nW h n x m=some xs) :
  ∃bk:List Value,(∀w2:World,(∀a,w2.cell? a=w.cell? a)→(Builtin.firstCells n m x').run P w2=.ok bk.toArray w2)∧bn U xs bk∧xs.length=m*n:=by
 unfold nW at hs
 rcases jM m 0 with⟨hq,bZ⟩|⟨hq,bZ⟩
 ·rw[hq] at hs;simp only[aJ,ax] at hs;subst hs bZ
  refine⟨[],fun w2 _=>?_,bn.nil U,by simp⟩
  subst gd
  cases p<;>simp[Builtin.firstCells,loadCells,loadCellsFrom]
 rw[hq] at hs
 simp only[bl] at hs
 split at hs
 ·rename_i o off l0 k0
  split at hs
  ·rename_i s cs ho
   cases hle:Nat.ble (off+m*n) cs.length with
   |false=>rw[hle] at hs;simp at hs
   |true=>
    rw[hle] at hs;simp only[aJ,ax] at hs;subst hs
    have Jy:off+m*n≤cs.length:=by simpa using hle
    cases hx with
    |slice _ _ _ _ b a C hm hl dI=>
     obtain⟨ao,h1,h2,h3⟩:=Hj (mM r ho hm) off (m*n) Jy
     refine⟨ao,fun w2 eP=>?_,h1,by simp;omega⟩
     have eG:=run_loadCells_list (P:=P) w2 _ ao (fun j v hj=>by rw[eP];exact h3 j v hj)
     rw[h2] at eG
     simpa[Builtin.firstCells] using eG
    |bK=>simp only[Value.slice.injEq] at gd;omega
    |b7=>simp only[Value.slice.injEq] at gd;omega
  simp at hs
 simp at hs
theorem Vo (np fR:Nat)(h:fR<np):Builtin.nextslicecap np fR≤2*np+192:=by
 have grow:∀(rounds c:Nat),c≤2*np+192→Builtin.growBy np rounds c≤2*np+192:=by
  intro rounds
  induction rounds with
  |zero=>intro c hc;simpa[Builtin.growBy] using hc
  |succ r ih=>
   intro c hc
   simp only[Builtin.growBy]
   split
   ·exact hc
   exact ih _ (by omega)
 unfold Builtin.nextslicecap
 split
 ·omega
 split
 ·omega
 exact grow 4 fR (by omega)
section
variable {P:Program} {w:World} {sT xT ty e:TypeId} {i:TypeInfo} {d0:TypeId} {x:Value} {base:Option Addr} {cm fb m:Nat} {new:List Value}
theorem dX (hu:P.underlying sT=some (.slice e))(hi:P.info? e=some i)(hx:P.underlying xT=some (.slice d0))(hl:(Builtin.lenOf x).run P w=.ok m w)
  (hf:(Builtin.firstCells i.size m x).run P w=.ok new.toArray w) (hn:cm+m≤fb) :
  (Builtin.append_ #[sT,xT] ty #[.slice base cm fb,x]).run P w =
   (match base with|some a=>(storeCells (a.add (cm*i.size)) new).run P w|none=>.ok () w).andThen fun _ w'=>.ok (.slice base (cm+m) fb) w':=by
 cases base with
 |none=>simp[Builtin.append_,run_underlying hu,run_underlying hx,sizeOf,typeInfo,hi,hl,hn,hf]
 |some a=>simp[Builtin.append_,run_underlying hu,run_underlying hx,sizeOf,typeInfo,hi,hl,hn,hf]
theorem jX {z:Value}{gC:List Value}(hu:P.underlying sT=some (.slice e))(hi:P.info? e=some i)(hz:i.zero=some z)(hx:P.underlying xT=some (.slice d0))(hl:(Builtin.lenOf x).run P w=.ok m w)
  (x7:(Builtin.firstCells i.size cm (.slice base cm fb)).run P w.drew=.ok gC.toArray w.drew) (hf:(Builtin.firstCells i.size m x).run P w.drew=.ok new.toArray w.drew)
  (hn:fb<cm+m) (Ov:cm+m≤17592186044416) (Ow:(2*(cm+m)+192)*i.bytes≤281474976710656) :
  (Builtin.append_ #[sT,xT] ty #[.slice base cm fb,x]).run P w =
   .ok (.slice (some ⟨w.heap.size,0,none⟩) (cm+m) (grownCap w (cm+m) fb e))
    (w.drew.alloc (.cells (gC.toArray++new.toArray++Builtin.zeroCells z.cells (grownCap w (cm+m) fb e - (cm+m))) e)):=by
 have mN:¬(cm+m≤fb):=by omega
 have Jz:¬(9223372036854775807<((cm:Int)+(m:Int))):=by omega
 have JA:¬(281474976710656<Builtin.nextslicecap (cm+m) fb*i.bytes):=by
  have:=Nat.mul_le_mul_right i.bytes (Vo (cm+m) fb hn)
  omega
 simp[Builtin.append_,run_underlying hu,run_underlying hx,sizeOf,typeInfo,zeroValue,hi,hz,hl,mN,Jz,JA,Question.forced,hf,x7,newRow,grownCap]
 congr 2
 apply Array.ext'
 simp[List.append_assoc]
end
theorem grownCap_ge (w:World)(np fR:Nat)(e:TypeId):np≤grownCap w np fR e:=by
 simp[grownCap,Question.cut]
def oG (P:Program)(lo:Nat)(h:ae)(sT xT:TypeId)(s x:Value):Option (Value×ae):=
 match fS P sT,fS P xT,jB x with
 |some (e,n),some _,some m=>
  match oC P e,(P.info? e).map (·.bytes),nW h n x m with
  |some z,some bytes,some xs=>
   bif !(Nat.beq z.length n&&Nat.blt 0 n&&xs.all (·.oneCell')) then none else
   match s with
   |.slice none 0 0=>
    bif Nat.beq m 0 then some (.slice none 0 0,h) else
    bif Nat.ble m 17592186044416&&Nat.ble ((2*m+192)*bytes) 281474976710656 then some (.slice (some ⟨h.next,0,none⟩) m ar,h.alloc (.cells n xs)) else none
   |.slice (some ⟨o,off,none⟩) l k=>
    bif Nat.beq m 0 then some (.slice (some ⟨o,off,none⟩) l k,h) else
    bif Nat.blt k ar then
     bif Nat.ble (l+m) k then
      match h.get o with
      |some (.cells s cs)=>
       bif Nat.ble lo o&&Nat.ble (off+(l+m)*n) cs.length then
        some (.slice (some ⟨o,off,none⟩) (l+m) k,h.put o (some (.cells s (e9 cs (off+l*n) xs)))) else none
      |_=>none
     else
      match nW h n s l with
      |some gC=>
       bif Nat.ble (l+m) 17592186044416&&Nat.ble ((2*(l+m)+192)*bytes) 281474976710656 then
        some (.slice (some ⟨h.next,0,none⟩) (l+m) ar,h.alloc (.cells n (gC++xs))) else none
      |none=>none
    else bif Nat.blt k dC then
     match h.get o with
     |some (.cells s cs)=>
      bif !(Nat.ble lo o&&Nat.beq off ((k - ar)*n)&&Nat.beq s n&&Nat.ble (l+m) 17592186044416&&Nat.ble ((2*(l+m)+192)*bytes) 281474976710656) then none else
      bif Nat.ble (off+(l+m)*n) cs.length then
       some (.slice (some ⟨o,off,none⟩) (l+m) k,h.put o (some (.cells s (e9 cs (off+l*n) xs))))
      else bif Nat.ble (off+l*n) cs.length then
       some (.slice (some ⟨h.next,0,none⟩) (l+m) ar,(h.put o none).alloc (.cells n ((cs.drop off).take (l*n)++xs)))
      else none
     |_=>none
    else none
   |_=>none
  |_,_,_=>none
 |_,_,_=>none
theorem Vp {U:Mu}{lo:Nat}{h:ae}{w:World}(r:Rel U lo h w){o:Nat}(ho:lo≤o)(aU:o<h.next):Rel U lo (h.put o none) w∧Frame lo U h w U (h.put o none) w:=by
 have oH:∀p x,(h.put o none).get p=some x→h.get p=some x:=fun p x hx=>by
  rw[ae.dB _ _ _ _ aU] at hx
  by_cases hp:p=o
  ·simp[hp] at hx
  simpa[hp] using hx
 refine⟨r.sub (Nat.le_refl _) oH (Nat.le_refl _) r.bA,⟨Mu.le_refl U,Nat.le_refl _,Nat.le_refl _,fun _ _ _=>rfl,fun b _=>?_,fun p hp=>?_,fun _ _=>rfl,fun p hp hn=>?_,.refl w⟩⟩
 ·rintro⟨p,x,a,C,h1,h2,h3⟩;exact⟨p,x,a,C,h1,oH p x h2,h3⟩
 ·rw[ae.dB _ _ _ _ aU]
  have:p≠o:=by omega
  simp[this]
 rw[ae.dB _ _ _ _ aU]
 by_cases h1:p=o
 ·simp[h1]
 simpa[h1] using hn
theorem Vq {U:Mu}{lo:Nat}{h:ae}{w w':World}(r:Rel U lo h w){o:Nat}{x:a7}(hx:h.get o=some x)(hl:lo≤o){b a C:Nat}(hm:U o=some (b,a,C))(y:a7)(a' C':Nat)
  (e8:w'.heap.size=w.heap.size) (hk:∀b',b'≠b→w'.heap[b']?=w.heap[b']?) (hy:∀ν,U.le ν→fp ν w' b a' C' y) (sg:∀off,w'.frozen? ⟨b,off,none⟩=false) (uH:Calm w w') :
  ∃aN,aN h.next=some (b,a',C')∧Rel aN lo ((h.put o none).alloc y) w'∧Frame lo U h w aN ((h.put o none).alloc y) w':=by
 have aU:=ae.fC hx
 have hle:=r.AR (b,a',C')
 have fV:∀p z,((h.put o none).alloc y).get p=some z→(p=h.next∧z=y)∨(p≠h.next∧p≠o∧h.get p=some z):=fun p z hz=>by
  rw[ae.gX] at hz
  simp only[ae.Hh] at hz
  by_cases hp:p=h.next
  ·simp[hp] at hz;exact .inl ⟨hp,hz.symm⟩
  simp only[hp,if_false] at hz
  rw[ae.dB _ _ _ _ aU] at hz
  by_cases rE:p=o
  ·simp[rE] at hz
  simp only[rE,if_false] at hz;exact .inr ⟨hp,rE,hz⟩
 have ea:∀p z b' wW oy,h.get p=some z→U p=some (b',wW,oy)→p≠o→b'≠b:=fun p z b' wW oy hz dZ hp hb=>by
  subst hb;exact hp (r.inj o p x z b' a C wW oy hl hx hz hm dZ).symm
 refine⟨U.put h.next (b,a',C'),Mu.ct _ _ _,Rel.Jm r ?_ ?_ ?_ ?_ ?_ ⟨hle,by omega,by simp,fun b' _ hn=>hk b' (fun hb=>hn (hb▸⟨o,x,a,C,hl,hx,hm⟩)),?_,?_,fun p hp=>Mu.iQ _ (by omega),fun p hp hn=>?_,uH⟩⟩
 ·intro p z hz
  rcases fV p z hz with⟨rfl,rfl⟩|⟨h1,h2,h3⟩
  ·exact⟨b,a',C',Mu.ct _ _ _,hy _ hle⟩
  obtain⟨b',wW,oy,h4,h5⟩:=r.be p z h3
  exact⟨b',wW,oy,by rw[Mu.iQ _ h1];exact h4,(h5.mono hle).kept (hk b' (ea p z b' wW oy h3 h4 h2))⟩
 ·intro p p' z z' b' a1 C1 a2 C2 uI hz iC cj gu
  rcases fV p z hz with⟨rfl,rfl⟩|⟨h1,h2,h3⟩
  ·rcases fV p' z' iC with⟨rfl,rfl⟩|⟨nj,Ew,Hs⟩
   ·rfl
   rw[Mu.iQ _ nj] at gu
   rw[Mu.ct] at cj;injection cj with cj;injection cj with cj _;subst cj
   exact absurd rfl (ea p' z' _ _ _ Hs gu Ew)
  rw[Mu.iQ _ h1] at cj
  rcases fV p' z' iC with⟨rfl,rfl⟩|⟨nj,Ew,Hs⟩
  ·rw[Mu.ct] at gu;injection gu with gu;injection gu with gu _;subst gu
   exact absurd rfl (ea p z _ _ _ h3 cj h2)
  rw[Mu.iQ _ nj] at gu
  exact r.inj p p' z z' b' a1 C1 a2 C2 uI h3 Hs cj gu
 ·intro p z hz
  by_cases hp:p=h.next
  ·subst hp;simp
  rw[Mu.iQ _ hp] at hz
  have:=r.ng p z hz
  simp;omega
 ·intro p z b' a1 C1 uI hz cj off
  rcases fV p z hz with⟨rfl,rfl⟩|⟨h1,h2,h3⟩
  ·rw[Mu.ct] at cj;injection cj with cj;injection cj with cj _;subst cj;exact sg off
  rw[Mu.iQ _ h1] at cj
  rw[xW (hk b' (ea p z b' a1 C1 h3 cj h2))]
  exact r.eo p z b' a1 C1 uI h3 cj off
 ·have:=r.bA;simp;omega
 ·intro b' oB
  rintro⟨p,z,a1,C1,uI,hz,cj⟩
  rcases fV p z hz with⟨rfl,rfl⟩|⟨h1,h2,h3⟩
  ·rw[Mu.ct] at cj;injection cj with cj;injection cj with cj _;subst cj;exact⟨o,x,a,C,hl,hx,hm⟩
  rw[Mu.iQ _ h1] at cj;exact⟨p,z,a1,C1,uI,h3,cj⟩
 ·intro p hp
  rw[ae.gX,ae.Hh]
  have h1:p≠h.next:=by have:=r.bA;omega
  have h2:p≠o:=by omega
  simp only[h1,if_false]
  rw[ae.dB _ _ _ _ aU]
  simp[h2]
 rw[ae.gX,ae.Hh,if_neg (by omega),ae.dB _ _ _ _ aU]
 by_cases h1:p=o
 ·simp[h1]
 simpa[h1] using hn
theorem Vr {P:Program}{e:TypeId}{z:List Value}{i:TypeInfo}(hz:oC P e=some z)(hi:P.info? e=some i):∃zv,i.zero=some zv∧zv.cells.toList=z∧kB zv=true:=by
 unfold oC at hz
 simp only[hi,Option.bind_some] at hz
 cases h0:i.zero with
 |none=>simp[h0] at hz
 |some v=>
  simp only[h0] at hz
  cases hs:kB v with
  |false=>simp[hs] at hz
  |true=>simp[hs] at hz;exact⟨v,rfl,hz,hs⟩
theorem Ox:ar<dC:=by decide
theorem JB (h:dC<ar):False:=absurd h (by decide)
theorem Vs (h:¬0<ar):False:=h (by decide)
theorem Oy (C:Nat):gb C ar=C:=by unfold gb;rw[if_neg (Nat.lt_irrefl _),Nat.sub_self,Nat.sub_zero]
theorem Vt {P:Program}{lo:Nat}{U:Mu}{h:ae}{w:World}(r:Rel U lo h w){sT xT ty:TypeId}{s s' x x' v:Value}{h':ae}(hs:aj U s s')(hx:aj U x x')
  (ha:oG P lo h sT xT s x=some (v,h')):dW P lo (Builtin.append_ #[sT,xT] ty #[s',x']) U h w v h':=by
 unfold oG at ha
 split at ha
 ·rename_i e n q m jq Vu hlen
  obtain⟨d0,n0⟩:=q
  obtain⟨hu,hn⟩:=tG jq
  obtain⟨Ht,_⟩:=tG Vu
  obtain⟨hl,px,cx,nX⟩:=Jx (P:=P) (w:=w) hx hlen
  split at ha
  ·rename_i z bytes xs hz hb qg
   cases hi:P.info? e with
   |none=>simp[hi] at hb
   |some i=>
   simp only[hi,Option.map_some,ax] at hb
   have di:i.size=n:=by simpa[dc,hi] using hn
   obtain⟨zv,Vv,C9,zF⟩:=Vr hz hi
   cases zH:(Nat.beq z.length n&&Nat.blt 0 n&&xs.all (·.oneCell')) with
   |false=>rw[zH] at ha;simp at ha
   |true=>
   rw[zH] at ha
   simp only[Bool.not_true,bl] at ha
   simp only[bR] at zH
   obtain⟨⟨gQ,fT⟩,hP⟩:=zH
   have gQ:z.length=n:=by simpa using gQ
   have fT:0<n:=by rw[Nat.blt_eq] at fT;exact fT
   obtain⟨bk,hf,eH,wX⟩:=Hr (P:=P) r hx nX (Nat.le_refl _) qg
   have jN:(Builtin.firstCells i.size m x').run P w=.ok bk.toArray w:=by rw[di];exact hf w (fun _=>rfl)
   have Vw:(Builtin.firstCells i.size m x').run P w.drew=.ok bk.toArray w.drew:=by rw[di];exact hf w.drew (fun _=>rfl)
   have more:∀(base:Option Addr) (cm fb:Nat) (gC jC:List Value) (hh:ae),s'=.slice base cm fb→bn U gC jC→gC.length=cm*n→
     (Builtin.firstCells i.size cm (.slice base cm fb)).run P w.drew=.ok jC.toArray w.drew→fb<cm+m→cm+m≤17592186044416→(2*(cm+m)+192)*bytes≤281474976710656→
     Rel U lo hh w→Frame lo U h w U hh w→
     dW P lo (Builtin.append_ #[sT,xT] ty #[s',x']) U h w (.slice (some ⟨hh.next,0,none⟩) (cm+m) ar) (hh.alloc (.cells n (gC++xs))):=by
    intro base cm fb gC jC hh Ex ho A4 x7 fF Ov Ow rr ff
    subst Ex
    have eG:=jX (P:=P) (w:=w) (sT:=sT) (xT:=xT) (ty:=ty) hu hi Vv Ht hl x7 Vw fF Ov (by rw[hb];exact Ow)
    generalize hC:grownCap w (cm+m) fb e=C at eG
    have Ey:cm+m≤C:=by rw[← hC];exact grownCap_ge w (cm+m) fb e
    have Vx:zv.cells.size=n:=by rw[← gQ,← C9];simp
    have JC:bk.length=m*n:=by rw[← eH.1];exact wX
    have JD:jC.length=cm*n:=by rw[← ho.1];exact A4
    have nq:(jC.toArray++bk.toArray++Builtin.zeroCells zv.cells (C - (cm+m))).toList=jC++bk++cJ z (C - (cm+m)):=by
     have:=range_zero zv.cells (C - (cm+m))
     rw[C9] at this
     simp only[Array.toList_append,Builtin.zeroCells,this]
    obtain⟨aN,h1,h2,h3⟩:=Oi rr.drew (jC.toArray++bk.toArray++Builtin.zeroCells zv.cells (C - (cm+m))) e n C (gC++xs)
     (fun j u hj=>by
      obtain⟨u',h1,h2⟩:=(ho.append eH).2 j u hj
      refine⟨u',?_,h2⟩
      rw[← Array.getElem?_toList,nq,List.getElem?_append_left ?_]
      ·exact h1
      rcases Nat.lt_or_ge j (jC++bk).length with h|h
      ·exact h
      rw[List.getElem?_eq_none h] at h1;simp at h1)
     (fun _=>by
      have e8:(jC.toArray++bk.toArray++Builtin.zeroCells zv.cells (C - (cm+m))).size=C*n:=by
       rw[← Array.length_toList,nq]
       simp only[List.length_append,Hm,JD,JC,gQ]
       rw[← Nat.add_mul,← Nat.add_mul]
       congr 1;omega
      refine⟨?_,by rw[e8];exact Nat.le_refl _⟩
      simp only[List.length_append,A4,wX]
      rw[← Nat.add_mul]
      exact Nat.mul_le_mul_right n Ey)
    refine⟨_,_,aN,eG,?_,h2,ff.trans ((Frame.drew lo U hh w).trans h3)⟩
    have Ez:gb C ar=C:=Oy C
    have:=aj.slice hh.next 0 (cm+m) ar w.heap.size 0 C h1 (by rw[Ez];exact Ey) Ox
    rwa [Ez] at this
   have idle:m=0→∀(base:Option Addr) (cm fb:Nat),s'=.slice base cm fb→cm≤fb→(Builtin.append_ #[sT,xT] ty #[s',x']).run P w=.ok s' w:=by
    intro hm base cm fb Ex hle
    subst Ex
    have uM:bk=[]:=by
     have:bk.length=0:=by rw[← eH.1,wX,hm];simp
     exact List.eq_nil_of_length_eq_zero this
    subst uM
    rw[dX (P:=P) (w:=w) (sT:=sT) (xT:=xT) (ty:=ty) hu hi Ht hl jN (by omega)]
    cases base<;>simp[storeCells,hm]
   have fits:∀(o off l k b a C so:Nat) (cs:List Value),s'=.slice (some ⟨b,a+off,none⟩) l (gb C k)→U o=some (b,a,C)→h.get o=some (.cells so cs)→lo≤o→off+(l+m)*n≤cs.length→l+m≤gb C k→k<dC→
     dW P lo (Builtin.append_ #[sT,xT] ty #[s',x']) U h w (.slice (some ⟨o,off,none⟩) (l+m) k) (h.put o (some (.cells so (e9 cs (off+l*n) xs)))):=by
    intro o off l k b a C so cs Ex hm ho cw su fF dI
    subst Ex
    have uN:off+l*n+xs.length≤cs.length:=by rw[wX];rw[Nat.add_mul] at su;omega
    obtain⟨h5,h6⟩:=CT r ho cw hm (off+l*n) xs bk eH uN
    have dw:=Hk (P:=P) r ho cw hm (off+l*n) xs bk eH hP uN
    refine⟨.slice (some ⟨b,a+off,none⟩) (l+m) (gb C k),w.setCells b (a+(off+l*n)) bk,U,?_,?_,h5,h6⟩
    ·rw[dX (P:=P) (w:=w) (sT:=sT) (xT:=xT) (ty:=ty) hu hi Ht hl jN fF]
     simp only[sn,di]
     rw[show a+off+l*n=a+(off+l*n) by omega,dw,Result.andThen_ok]
    exact .slice o off (l+m) k b a C hm fF dI
   split at ha
   · -- nil
    cases hs
    rcases jM m 0 with⟨hq,bZ⟩|⟨hq,bZ⟩
    ·rw[hq] at ha;simp only[aJ,ax,bI] at ha;obtain⟨rfl,rfl⟩:=ha
     exact .same r (idle bZ none 0 0 rfl (Nat.le_refl _)) .dH
    rw[hq] at ha;simp only[bl] at ha
    cases hc:(Nat.ble m 17592186044416&&Nat.ble ((2*m+192)*bytes) 281474976710656) with
    |false=>rw[hc] at ha;simp at ha
    |true=>
     rw[hc] at ha;simp only[aJ,ax,bI] at ha;obtain⟨rfl,rfl⟩:=ha
     simp only[bR] at hc
     have e1:m≤17592186044416:=by simpa using hc.1
     have e2:(2*m+192)*bytes≤281474976710656:=by simpa using hc.2
     have:=more none 0 0 [] [] h rfl (bn.nil U) (by simp) (by simp[Builtin.firstCells]) (by omega) (by omega) (by simpa using e2) r (Frame.refl _ _ _ _)
     simpa using this
   ·rename_i o off l k
    rcases jM m 0 with⟨hq,bZ⟩|⟨hq,bZ⟩
    ·rw[hq] at ha;simp only[aJ,ax,bI] at ha;obtain⟨rfl,rfl⟩:=ha
     have x9:=hs
     cases hs with
     |slice _ _ _ _ b a C hm js dI=>exact .same r (idle bZ _ _ _ rfl js) x9
     |bK p p' c=>exact .same r (idle bZ _ _ _ rfl (Nat.zero_le _)) x9
     |b7 p p'=>exact .same r (idle bZ _ _ _ rfl (Nat.zero_le _)) x9
    rw[hq] at ha;simp only[bl] at ha
    cases hk:Nat.blt k ar with
    |true=>
     rw[hk] at ha;simp only[aJ] at ha
     have jr:k<ar:=by rw[Nat.blt_eq] at hk;exact hk
     cases su:Nat.ble (l+m) k with
     |true=>
      rw[su] at ha;simp only[aJ] at ha
      have zI:l+m≤k:=by simpa using su
      split at ha
      ·rename_i so cs ho
       cases hc:(Nat.ble lo o&&Nat.ble (off+(l+m)*n) cs.length) with
       |false=>rw[hc] at ha;simp at ha
       |true=>
        rw[hc] at ha;simp only[aJ,ax,bI] at ha;obtain⟨rfl,rfl⟩:=ha
        simp only[bR] at hc
        have e1:lo≤o:=by simpa using hc.1
        have e2:off+(l+m)*n≤cs.length:=by simpa using hc.2
        cases hs with
        |slice _ _ _ _ b a C hm js dI=>exact fits o off l k b a C so cs rfl hm ho e1 e2 (by rw[nk jr];exact zI) dI
        |bK p p' c=>exact(JB jr).elim
        |b7 p p'=>omega
      simp at ha
     |false=>
      rw[su] at ha;simp only[bl] at ha
      have zI:¬l+m≤k:=by intro hh;have:Nat.ble (l+m) k=true:=(by simpa using hh);rw[su] at this;cases this
      split at ha
      ·rename_i gC ib
       cases hc:(Nat.ble (l+m) 17592186044416&&Nat.ble ((2*(l+m)+192)*bytes) 281474976710656) with
       |false=>rw[hc] at ha;simp at ha
       |true=>
        rw[hc] at ha;simp only[aJ,ax,bI] at ha;obtain⟨rfl,rfl⟩:=ha
        simp only[bR] at hc
        have e1:l+m≤17592186044416:=by simpa using hc.1
        have e2:(2*(l+m)+192)*bytes≤281474976710656:=by simpa using hc.2
        have x9:=hs
        cases hs with
        |slice _ _ _ _ b a C hm js dI=>
         rw[nk jr] at x9
         obtain⟨qh,g1,g2,g3⟩:=Hr (P:=P) r x9 rfl (Nat.le_refl _) ib
         rw[nk jr]
         have:=more (some ⟨b,a+off,none⟩) l k gC qh h (by rw[nk jr]) g2 g3 (by rw[di];exact g1 w.drew (fun _=>rfl)) (by omega) e1 e2 r (Frame.refl _ _ _ _)
         rwa [nk jr] at this
        |bK p p' c=>exact(JB jr).elim
        |b7 p p'=>
         obtain⟨qh,g1,g2,g3⟩:=Hr (P:=P) r x9 rfl (Nat.le_refl _) ib
         exact more (some p') 0 0 gC qh h rfl g2 g3 (by rw[di];exact g1 w.drew (fun _=>rfl)) (by omega) e1 e2 r (Frame.refl _ _ _ _)
      simp at ha
    |false=>
     rw[hk] at ha;simp only[bl] at ha
     have jr:¬k<ar:=by intro hh;rw[← Nat.blt_eq,hk] at hh;cases hh
     cases iT:Nat.blt k dC with
     |false=>rw[iT] at ha;simp at ha
     |true=>
     rw[iT] at ha;simp only[aJ] at ha
     have A3:k<dC:=by rw[Nat.blt_eq] at iT;exact iT
     split at ha
     ·rename_i so cs ho
      cases hc:(Nat.ble lo o&&Nat.beq off ((k - ar)*n)&&Nat.beq so n&&Nat.ble (l+m) 17592186044416&&Nat.ble ((2*(l+m)+192)*bytes) 281474976710656) with
      |false=>rw[hc] at ha;simp at ha
      |true=>
       rw[hc] at ha;simp only[Bool.not_true,bl] at ha
       simp only[bR] at hc
       obtain⟨⟨⟨⟨c1,c2⟩,c3⟩,c4⟩,c5⟩:=hc
       have c1:lo≤o:=by simpa using c1
       have c2:off=(k - ar)*n:=by simpa using c2
       have c3:so=n:=by simpa using c3
       have c4:l+m≤17592186044416:=by simpa using c4
       have c5:(2*(l+m)+192)*bytes≤281474976710656:=by simpa using c5
       subst c3
       cases hs with
       |bK p p' c=>omega
       |b7 p p'=>exact(Vs jr).elim
       |slice _ _ _ _ b a C hm js dI=>
        have oI:=mM r ho hm
        obtain⟨hblk,JE,rF⟩:=oI
        obtain⟨oJ,iU⟩:=rF fT
        have fF:gb C k=C - (k - ar):=by simp[gb,jr]
        cases A5:Nat.ble (off+(l+m)*so) cs.length with
        |true=>
         rw[A5] at ha;simp only[aJ,ax,bI] at ha;obtain⟨rfl,rfl⟩:=ha
         have e2:off+(l+m)*so≤cs.length:=by simpa using A5
         refine fits o off l k b a C so cs rfl hm ho c1 e2 ?_ dI
         rw[fF]
         have:(k - ar+(l+m))*so≤C*so:=by rw[Nat.add_mul];omega
         have:=Nat.le_of_mul_le_mul_right this fT
         omega
        |false=>
         rw[A5] at ha;simp only[bl] at ha
         cases A6:Nat.ble (off+l*so) cs.length with
         |false=>rw[A6] at ha;simp at ha
         |true=>
          rw[A6] at ha;simp only[aJ,ax,bI] at ha;obtain⟨rfl,rfl⟩:=ha
          have e2:off+l*so≤cs.length:=by simpa using A6
          have aU:=ae.fC ho
          obtain⟨fr,ff⟩:=Vp r c1 aU
          obtain⟨qh,g1,g2,g3⟩:=Hj (mM r ho hm) off (l*so) e2
          have zJ:=run_loadCells_list (P:=P) w.drew _ qh (fun j v hj=>g3 j v hj)
          rw[g2] at zJ
          by_cases A7:l+m≤gb C k
          · -- in place, beyond what was known
           have sv:off+l*so+bk.length≤C*so:=by
            rw[← eH.1,wX]
            have:(k - ar+(l+m))*so≤C*so:=Nat.mul_le_mul_right so (by omega)
            rw[Nat.add_mul,Nat.add_mul] at this
            omega
           have jV:∀j,j<bk.length→(w.cell? ⟨b,a+off+l*so+j,none⟩).isSome=true:=fun j hj=>by
            obtain⟨v',h3⟩:=iU (off+l*so+j) (by omega)
            rw[show a+off+l*so+j=a+(off+l*so+j) by omega,h3];rfl
           have dw:=run_storeCells_cells (P:=P) b (a+off+l*so) bk 0 w (by simpa using jV) (fun j hj=>r.eo o _ b a C c1 ho hm _) (On eH hP)
           simp only[Nat.add_zero] at dw
           have yb:∀j,j<l*so→(w.setCells b (a+off+l*so) bk).cell? ⟨b,a+off+j,none⟩=w.cell? ⟨b,a+off+j,none⟩:=fun j hj=>
            World.cell?_setCells_out b bk _ w _ (fun _ _=>by simp;omega)
           obtain⟨aN,q1,q2,q3⟩:=Vq r ho c1 hm (.cells so ((cs.drop off).take (l*so)++xs)) (a+off) (C - (k - ar)) (w':=w.setCells b (a+off+l*so) bk)
            (Em _ _ _ _) (fun b' oB=>Jp _ _ _ _ oB)
            (fun ν yc=>by
             refine⟨by rw[Em];exact hblk,fun j u hj=>?_,fun _=>⟨?_,fun j hj=>?_⟩⟩
             ·have EA:((cs.drop off).take (l*so)).length=l*so:=by simp;omega
              by_cases dE:j<l*so
              ·rw[List.getElem?_append_left (by omega)] at hj
               obtain⟨u',t1,t2⟩:=g1.2 j u hj
               refine⟨u',?_,t2.mono yc⟩
               rw[yb j dE]
               have:=g3 j u' t1
               rwa [sn] at this
              rw[List.getElem?_append_right (by omega),EA] at hj
              obtain⟨u',t1,t2⟩:=eH.2 _ u hj
              have Oz:j - l*so<bk.length:=by
               rcases Nat.lt_or_ge (j - l*so) bk.length with h|h
               ·exact h
               rw[List.getElem?_eq_none h] at t1;simp at t1
              refine⟨u',?_,t2.mono yc⟩
              have:=World.cell?_setCells_in b bk (a+off+l*so) w jV (j - l*so) Oz
              rw[show a+off+l*so+(j - l*so)=a+off+j by omega] at this
              rw[this]
              rw[List.getElem?_eq_getElem Oz] at t1
              exact t1
             ·simp only[List.length_append,List.length_take,List.length_drop,wX]
              rw[Nat.min_eq_left (by omega),← Nat.add_mul]
              exact Nat.mul_le_mul_right so (by omega)
             have Vy:off+j<C*so:=by
              rw[Nat.sub_mul] at hj;omega
             obtain⟨v',h3⟩:=iU (off+j) Vy
             by_cases Vz:l*so≤j∧j<l*so+bk.length
             ·have:=World.cell?_setCells_in b bk (a+off+l*so) w jV (j - l*so) (by omega)
              rw[show a+off+l*so+(j - l*so)=a+off+j by omega] at this
              exact⟨_,this⟩
             refine⟨v',?_⟩
             rw[World.cell?_setCells_out b bk _ w _ (fun _ _=>by simp;omega)]
             rw[show a+off+j=a+(off+j) by omega]
             exact h3)
            (fun mo=>by rw[World.frozen?_setCells];exact r.eo o _ b a C c1 ho hm mo) (Jr _ _ _ _)
           refine⟨.slice (some ⟨b,a+off,none⟩) (l+m) (gb C k),w.setCells b (a+off+l*so) bk,aN,?_,?_,q2,q3⟩
           ·rw[dX (P:=P) (w:=w) (sT:=sT) (xT:=xT) (ty:=ty) hu hi Ht hl jN A7]
            simp only[sn,di]
            rw[dw,Result.andThen_ok]
           have Ez:gb (C - (k - ar)) ar=C - (k - ar):=Oy _
           have:=aj.slice h.next 0 (l+m) ar b (a+off) (C - (k - ar)) q1 (by rw[Ez];omega) Ox
           rw[Ez] at this
           rw[fF]
           exact this
          have:=more (some ⟨b,a+off,none⟩) l (gb C k) ((cs.drop off).take (l*so)) qh (h.put o none) rfl g1 (by simp;omega) (by simpa[Builtin.firstCells,di] using zJ) (by omega) c4 c5 fr ff
          simpa using this
     simp at ha
   simp at ha
  simp at ha
 simp at ha
theorem dW.mk {P:Program}{lo:Nat}{s:Sem Value}{U aN:Mu}{h h':ae}{w w':World}{v v':Value}(hr:s.run P w=.ok v' w')(hv:aj aN v v')(r:Rel aN lo h' w')(f:Frame lo U h w aN h' w') :
 dW P lo s U h w v h':=⟨v',w',aN,hr,hv,r,f⟩
def kO (n:Nat):Value:=.int .i64 n
def Da (P:Program)(lo:Nat)(h:ae)(dT:TypeId)(d x:Value):Option (Value×ae):=
 match fS P dT,jB d,jB x with
 |some (_,n),some dl,some xl=>
  match nW h n x (Nat.min xl dl) with
  |some xs=>
   bif Nat.beq (Nat.min xl dl) 0 then some (kO 0,h) else
   match d with
   |.slice (some ⟨o,off,none⟩) _ _=>
    match h.get o with
    |some (.cells s cs)=>
     bif Nat.ble lo o&&Nat.ble (off+xs.length) cs.length&&xs.all (·.oneCell') then some (kO (Nat.min xl dl),h.put o (some (.cells s (e9 cs off xs)))) else none
    |_=>none
   |_=>none
  |none=>none
 |_,_,_=>none
theorem VA {P:Program}{lo:Nat}{U:Mu}{h:ae}{w:World}(r:Rel U lo h w){dT xT ty:TypeId}{d d' x x' v:Value}{h':ae}(hd:aj U d d')(hx:aj U x x')
  (ha:Da P lo h dT d x=some (v,h')):dW P lo (Builtin.copy_ #[dT,xT] ty #[d',x']) U h w v h':=by
 unfold Da at ha
 split at ha
 ·rename_i e n dl xl jq zK wX
  obtain⟨hu,hn⟩:=tG jq
  obtain⟨pB,px,cx,nX⟩:=Jx (P:=P) (w:=w) hx wX
  obtain⟨_,pd,cd,yd⟩:=Jx (P:=P) (w:=w) hd zK
  split at ha
  ·rename_i xs qg
   obtain⟨bk,hf,eH,hlen⟩:=Hr (P:=P) r hx nX (Nat.min_le_left _ _) qg
   have jN:(Builtin.firstCells n (Nat.min xl dl) x').run P w=.ok bk.toArray w:=hf w (fun _=>rfl)
   have hlen:xs.length=Nat.min xl dl*n:=hlen
   have hmm:min xl dl=Nat.min xl dl:=rfl
   rcases jM (Nat.min xl dl) 0 with⟨hq,bZ⟩|⟨hq,bZ⟩
   ·rw[hq] at ha;simp only[aJ,ax,bI] at ha;obtain⟨rfl,rfl⟩:=ha
    have uM:bk=[]:=by
     have:bk.length=0:=by rw[← eH.1,hlen,bZ];simp
     exact List.eq_nil_of_length_eq_zero this
    subst uM
    rw[bZ] at jN
    refine .same r (v':=.int .i64 0) ?_ (.int _ _)
    subst yd
    cases pd<;>simp[Builtin.copy_,run_underlying hu,pB,mq hn,bZ,jN,storeCells,goInt]
   rw[hq] at ha;simp only[bl] at ha
   split at ha
   ·rename_i o off l0 k0
    split at ha
    ·rename_i so cs ho
     cases hc:(Nat.ble lo o&&Nat.ble (off+xs.length) cs.length&&xs.all (·.oneCell')) with
     |false=>rw[hc] at ha;simp at ha
     |true=>
      rw[hc] at ha;simp only[aJ,ax,bI] at ha;obtain⟨rfl,rfl⟩:=ha
      simp only[bR] at hc
      obtain⟨⟨c1,c2⟩,c3⟩:=hc
      have c1:lo≤o:=by simpa using c1
      have c2:off+xs.length≤cs.length:=by simpa using c2
      simp only[jB,ax] at zK
      subst zK
      cases hd with
      |slice _ _ _ _ b a C hm hl dI=>
       obtain⟨h5,h6⟩:=CT r ho c1 hm off xs bk eH c2
       have dw:=Hk (P:=P) r ho c1 hm off xs bk eH c3 c2
       refine .mk (v':=.int .i64 (Nat.min xl l0)) (w':=w.setCells b (a+off) bk) ?_ (.int _ _) h5 h6
       simp[Builtin.copy_,run_underlying hu,pB,mq hn,jN,dw,goInt]
      |bK=>exact(bZ (by simp)).elim
      |b7=>exact(bZ (by simp)).elim
    simp at ha
   simp at ha
  simp at ha
 simp at ha
def lX (P:Program)(h:ae)(t:TypeId)(x:Value):Option Value:=
 match P.underlying t,x with
 |some .string,.string s=>some (kO s.size)
 |some (.slice _),.slice _ n _=>some (kO n)
 |some (.array n _),_=>some (kO n)
 |some (.map _ _),.map none=>some (kO 0)
 |some (.map _ _),.map (some o)=>match h.get o with
  |some (.map es)=>some (kO es.length)
  |_=>none
 |_,_=>none
theorem VB {P:Program}{lo:Nat}{U:Mu}{h:ae}{w:World}(r:Rel U lo h w){t ty:TypeId}{x x' v:Value}(hx:aj U x x')(ha:lX P h t x=some v) :
  dW P lo (Builtin.len_ #[t] ty #[x']) U h w v h:=by
 unfold lX at ha
 split at ha
 ·rename_i hu;simp only[ax] at ha;subst ha;cases hx
  exact .same r (by simp[Builtin.len_,run_underlying hu];rfl) (.int _ _)
 ·rename_i hu;simp only[ax] at ha;subst ha
  cases hx<;>exact .same r (by simp[Builtin.len_,run_underlying hu];rfl) (.int _ _)
 ·rename_i hu;simp only[ax] at ha;subst ha
  exact .same r (by simp[Builtin.len_,run_underlying hu];rfl) (.int _ _)
 ·rename_i hu;simp only[ax] at ha;subst ha;cases hx
  exact .same r (by simp[Builtin.len_,run_underlying hu];rfl) (.int _ _)
 ·rename_i hu
  split at ha
  ·rename_i es ho
   simp only[ax] at ha;subst ha
   cases hx with
   |map o b C hm=>
    obtain⟨_,entries,clock,h1,l,h2,h3,h4,_⟩:=mM r ho hm
    have hl:entries.size=es.length:=by rw[← h4];exact h2.length_eq
    refine .same r (v':=.int .i64 es.length) ?_ (.int _ _)
    simp[Builtin.len_,run_underlying hu,getObj,Sem.run,h1,hl,goInt]
  simp at ha
 simp at ha
def ye (P:Program)(t:TypeId)(x:Value):Option Value:=
 match P.underlying t,x with
 |some (.slice _),.slice _ _ k=>bif Nat.blt k ar then some (kO k) else none
 |_,_=>none
theorem VC {P:Program}{U:Mu}{w:World}{t ty:TypeId}{x x' v:Value}(hx:aj U x x')(ha:ye P t x=some v):∃v',(Builtin.cap_ #[t] ty #[x']).run P w=.ok v' w∧aj U v v':=by
 unfold ye at ha
 split at ha
 ·rename_i e p l k hu
  cases hk:Nat.blt k ar with
  |false=>rw[hk] at ha;simp at ha
  |true=>
   rw[hk] at ha;simp only[aJ,ax] at ha;subst ha
   have jr:k<ar:=by rw[Nat.blt_eq] at hk;exact hk
   cases hx with
   |dH=>exact⟨_,by simp[Builtin.cap_,run_underlying hu];rfl,.int _ _⟩
   |slice _ _ _ _ b a C hm hl dI=>exact⟨_,by simp[Builtin.cap_,run_underlying hu,nk jr];rfl,.int _ _⟩
   |bK=>exact(JB jr).elim
   |b7=>exact⟨_,by simp[Builtin.cap_,run_underlying hu];rfl,.int _ _⟩
 simp at ha
def wY (P:Program)(lo:Nat)(h:ae)(t:TypeId)(x:Value):Option ae:=
 match fS P t,x with
 |some _,.slice none _ _=>some h
 |some _,.slice (some _) 0 _=>some h
 |some (e,n),.slice (some ⟨o,off,none⟩) l _=>
  match oC P e,h.get o with
  |some z,some (.cells s cs)=>
   bif Nat.ble lo o&&Nat.beq z.length n&&Nat.ble (off+l*n) cs.length&&z.all (·.oneCell') then some (h.put o (some (.cells s (e9 cs off (cJ z l))))) else none
  |_,_=>none
 |_,_=>none
theorem OA {z:List Value}(h:z.all (·.oneCell')=true):∀n,(cJ z n).all (·.oneCell')=true
 |0=>rfl
 |n+1=>by rw[cJ,List.all_append,h,OA h n];rfl
theorem OB {P:Program}{t:TypeId}{q:TypeId×Nat}(h:fS P t=some q):P.underlying t=some (.slice q.1):=(tG (e:=q.1) (n:=q.2) h).1
theorem VD {P:Program}{lo:Nat}{U:Mu}{h:ae}{w:World}(r:Rel U lo h w){t ty:TypeId}{x x':Value}{h':ae}(hx:aj U x x')(ha:wY P lo h t x=some h') :
  dW P lo (Builtin.clear_ #[t] ty #[x']) U h w Go.undef h':=by
 unfold wY at ha
 split at ha
 ·rename_i jq
  have hu:=OB jq
  simp only[ax] at ha;subst ha
  cases hx
  exact .same r (v':=Go.undef) (by simp[Builtin.clear_,run_underlying hu,Go.undef]) .undef
 ·rename_i jq
  have hu:=OB jq
  simp only[ax] at ha;subst ha
  cases hx<;>exact .same r (v':=Go.undef) (by simp[Builtin.clear_,run_underlying hu,Go.undef]) .undef
 ·rename_i e n o off l k cC jq
  obtain⟨hu,hn⟩:=tG jq
  split at ha
  ·rename_i z s cs hz ho
   cases hc:(Nat.ble lo o&&Nat.beq z.length n&&Nat.ble (off+l*n) cs.length&&z.all (·.oneCell')) with
   |false=>rw[hc] at ha;simp at ha
   |true=>
    rw[hc] at ha;simp only[aJ,ax] at ha;subst ha
    simp only[bR] at hc
    obtain⟨⟨⟨c1,c2⟩,c3⟩,c4⟩:=hc
    have c1:lo≤o:=by simpa using c1
    have c2:z.length=n:=by simpa using c2
    have c3:off+l*n≤cs.length:=by simpa using c3
    obtain⟨zv,h1,h2,h3⟩:=xY hz w
    have kN:l≠0:=fun h=>cC h
    cases hx with
    |slice _ _ _ _ b a C hm hl dI=>
     have sx:bn U (cJ z l) (cJ z l):=C3 (h2▸AT h3) l
     have hlen:off+(cJ z l).length≤cs.length:=by rw[Hm,c2];exact c3
     obtain⟨h5,h6⟩:=CT r ho c1 hm off _ _ sx hlen
     have dw:=Hk (P:=P) r ho c1 hm off _ _ sx (OA c4 l) hlen
     have Hu:(Builtin.zeroCells zv.cells l).toList=cJ z l:=by
      have:=range_zero zv.cells l
      rw[h2] at this;exact this
     refine .mk (v':=Go.undef) (w':=w.setCells b (a+off) (cJ z l)) ?_ .undef h5 h6
     cases l with
     |zero=>exact(kN rfl).elim
     |succ l=>simp[Builtin.clear_,run_underlying hu,h1,Hu,dw,Go.undef]
    |bK=>exact(kN rfl).elim
    |b7=>exact(kN rfl).elim
  simp at ha
 simp at ha
def qi (mx:Bool):Value→Value→Option Value
 |.int k x,.int _ y=>some (.int k (bif mx then (if y > x then y else x) else (if y<x then y else x)))
 |_,_=>none
def jY (mx:Bool):Value→List Value→Option Value
 |x,[]=>some x
 |x,y::r=>match qi mx x y with
  |some z=>jY mx z r
  |none=>none
theorem OC {P:Program}{U:Mu}{w:World}:∀ {r r':List Value} {x x' v:Value},aj U x x'→bn U r r'→jY true x r=some v→∃v',(r'.foldlM Builtin.max2 x').run P w=.ok v' w∧aj U v v'
 |[],r',x,x',v,hx,hr,h=>by
  have:=hr.iP;subst this
  simp only[jY,ax] at h;subst h
  exact⟨x',rfl,hx⟩
 |y::r,r',x,x',v,hx,hr,h=>by
  obtain⟨y',r2,rfl,hy,iU⟩:=hr.dt
  simp only[jY] at h
  split at h
  ·rename_i z hz
   unfold qi at hz
   split at hz
   ·cases hx;cases hy
    simp only[aJ,ax] at hz;subst hz
    obtain⟨v',h1,h2⟩:=OC (P:=P) (w:=w) (aj.int _ _) iU h
    exact⟨v',by simp only[List.foldlM_cons,Sem.run_bind,Builtin.max2,Sem.run_pure,Result.andThen_ok];exact h1,h2⟩
   simp at hz
  simp at h
theorem OD {P:Program}{U:Mu}{w:World}:∀ {r r':List Value} {x x' v:Value},aj U x x'→bn U r r'→jY false x r=some v→∃v',(r'.foldlM Builtin.min2 x').run P w=.ok v' w∧aj U v v'
 |[],r',x,x',v,hx,hr,h=>by
  have:=hr.iP;subst this
  simp only[jY,ax] at h;subst h
  exact⟨x',rfl,hx⟩
 |y::r,r',x,x',v,hx,hr,h=>by
  obtain⟨y',r2,rfl,hy,iU⟩:=hr.dt
  simp only[jY] at h
  split at h
  ·rename_i z hz
   unfold qi at hz
   split at hz
   ·cases hx;cases hy
    simp only[bl,ax] at hz;subst hz
    obtain⟨v',h1,h2⟩:=OD (P:=P) (w:=w) (aj.int _ _) iU h
    exact⟨v',by simp only[List.foldlM_cons,Sem.run_bind,Builtin.min2,Sem.run_pure,Result.andThen_ok];exact h1,h2⟩
   simp at hz
  simp at h
def uO (kd:IntKind)(n:Int):List (Value×Value)→Option (Option Value)
 |[]=>some none
 |(.int k a,v)::r=>
  bif decide (k=kd) then
   match uO kd n r with
   |none=>none
   |some q=>some (bif decide (a=n) then some v else q)
  else none
 |_=>none
theorem Hv {kd:IntKind}{n:Int}:∀ {es:List (Value×Value)} {q:Option Value},uO kd n es=some q→
  (∀p∈es,∃a,p.1=.int kd a)∧(∀v,q=some v→(Value.int kd n,v)∈es)∧(q=none→∀p∈es,p.1≠.int kd n)
 |[],q,h=>by simp only[uO,ax] at h;subst h;exact⟨by simp,by simp,by simp⟩
 |(k,v)::r,q,h=>by
  unfold uO at h
  split at h
  ·rename_i heq;cases heq
  ·rename_i k a v' r' heq
   simp only[List.cons.injEq,bI] at heq
   obtain⟨⟨rfl,rfl⟩,rfl⟩:=heq
   cases hk:decide (k=kd) with
   |false=>rw[hk] at h;simp at h
   |true=>
    rw[hk] at h;simp only[aJ] at h
    have jr:k=kd:=by simpa using hk
    subst jr
    split at h
    ·simp at h
    rename_i q' bZ
    obtain⟨i1,i2,i3⟩:=Hv bZ
    simp only[ax] at h;subst h
    refine⟨?_,?_,?_⟩
    ·intro p hp
     cases List.mem_cons.1 hp with
     |inl e=>subst e;exact⟨a,rfl⟩
     |inr e=>exact i1 p e
    ·intro u hu
     cases ha:decide (a=n) with
     |true=>rw[ha] at hu;simp at hu ha;subst hu ha;simp
     |false=>rw[ha] at hu;simp only[bl] at hu;exact List.mem_cons_of_mem _ (i2 u hu)
    intro hn p hp
    cases ha:decide (a=n) with
    |true=>rw[ha] at hn;simp at hn
    |false=>
     rw[ha] at hn;simp only[bl] at hn
     have JF:a≠n:=by simpa using ha
     cases List.mem_cons.1 hp with
     |inl e=>subst e;simpa using JF
     |inr e=>exact i3 hn p e
  simp at h
theorem findNow_spec {k0 kd:IntKind}{n:Int}:∀(L:List MapEntry) (i:Nat),(∀e∈L,∃a,e.key=.int kd a)→
  (∃j e,L[j]?=some e∧e.key=.int kd n∧Instr.findNow (.int k0) (.int kd n) L i=some (some (i+j,e.val)))∨((∀e∈L,e.key≠.int kd n)∧Instr.findNow (.int k0) (.int kd n) L i=some none)
 |[],i,_=>.inr ⟨by simp,rfl⟩
 |e::L,i,h=>by
  obtain⟨a,ha⟩:=h e (by simp)
  simp only[Instr.findNow,ha,Instr.sameNow,if_true]
  by_cases hn:n=a
  ·subst hn
   simp only[beq_self_eq_true]
   exact .inl ⟨0,e,by simp,ha,by simp⟩
  have:(n==a)=false:=by simpa using hn
  simp only[this]
  rcases findNow_spec (k0:=k0) (kd:=kd) (n:=n) L (i+1) (fun e he=>h e (List.mem_cons_of_mem _ he)) with⟨j,e',h1,h2,h3⟩|⟨h1,h2⟩
  ·exact .inl ⟨j+1,e',by simpa using h1,h2,by rw[h3];simp;omega⟩
  refine .inr ⟨fun e' cV=>?_,h2⟩
  cases List.mem_cons.1 cV with
  |inl JG=>subst JG;rw[ha];simp;exact fun h=>hn h.symm
  |inr JG=>exact h1 e' JG
def lj (P:Program)(t:TypeId):Option (TypeId×TypeId):=
 match P.underlying t with
 |some (.map k e)=>match P.underlying k with
  |some (.int _)=>some (k,e)
  |_=>none
 |_=>none
theorem JH {P:Program}{t k e:TypeId}(h:lj P t=some (k,e)):P.underlying t=some (.map k e)∧∃k0,P.underlying k=some (.int k0):=by
 unfold lj at h
 split at h
 ·rename_i k' e' hu
  split at h
  ·rename_i k0 hk
   simp only[ax,bI] at h
   obtain⟨rfl,rfl⟩:=h
   exact⟨hu,k0,hk⟩
  simp at h
 simp at h
theorem Hw {α:Type}{l:List α}(h:l.Nodup){i j:Nat}(hi:i<l.length)(hj:j<l.length)(he:l[i]=l[j]):i=j:=by
 rcases Nat.lt_trichotomy i j with h1|h1|h1
 ·exact absurd he (List.pairwise_iff_getElem.1 h i j hi hj h1)
 ·exact h1
 exact absurd he.symm (List.pairwise_iff_getElem.1 h j i hj hi h1)
theorem EB {P:Program}{w:World}{U:Mu}{es:List (Value×Value)}{entries:Array MapEntry}{clock:Nat}(hM:fQ U es entries clock){kT:TypeId}{k0 kd:IntKind}{n:Int}{q:Option Value}(hk:P.underlying kT=some (.int k0))(hq:uO kd n es=some q) :
  (∃v j e,q=some v∧entries[j]?=some e∧e.key=.int kd n∧aj U v e.val∧(Instr.findKey kT (.int kd n) entries.toList).run P w=.ok (some (j,e.val)) w)∨
  (q=none∧(∀e∈entries.toList,e.key≠.int kd n)∧(Instr.findKey kT (.int kd n) entries.toList).run P w=.ok none w):=by
 obtain⟨l,h1,h0,h2,h3,h4,h5⟩:=hM
 obtain⟨i1,i2,i3⟩:=Hv hq
 have bg:∀e∈entries.toList,∃p∈es,AP U p e:=fun e he=>by
  obtain⟨j,hj⟩:=List.getElem?_of_mem he
  have mL:entries[j]?=some e:=by simpa using hj
  have dE:j<l.length:=by
   rw[h2]
   rcases Nat.lt_or_ge j entries.size with h|h
   ·exact h
   rw[Array.getElem?_eq_none h] at mL;simp at mL
  exact⟨l[j],h1.mem_iff.1 (List.getElem_mem dE),h3 j l[j] e (by simp[dE]) mL⟩
 have lk:∀e∈entries.toList,∃a,e.key=.int kd a:=fun e he=>by
  obtain⟨p,hp,hr⟩:=bg e he
  obtain⟨a,ha⟩:=i1 p hp
  exact⟨a,by rw[hr.1,ha]⟩
 rcases findNow_spec (k0:=k0) (n:=n) entries.toList 0 lk with⟨j,e,g1,g2,g3⟩|⟨g1,g2⟩
 ·have he:e∈entries.toList:=List.mem_of_getElem? g1
  have yf:entries[j]?=some e:=by simpa using g1
  have dE:j<l.length:=by
   rw[h2]
   rcases Nat.lt_or_ge j entries.size with h|h
   ·exact h
   rw[Array.getElem?_eq_none h] at yf;simp at yf
  have hr:=h3 j l[j] e (by simp[dE]) yf
  have ll:l[j]∈es:=h1.mem_iff.1 (List.getElem_mem dE)
  cases q with
  |none=>exact absurd (hr.1▸g2) (i3 rfl _ ll)
  |some v=>
   have hv:=i2 v rfl
   have uL:(Value.int kd n,v)∈l:=h1.mem_iff.2 hv
   have:l[j]=(Value.int kd n,v):=by
    obtain⟨j2,A8,nr⟩:=List.getElem_of_mem uL
    have lY:(l.map (·.1))[j]'(by simpa using dE)=(l.map (·.1))[j2]'(by simpa using A8):=by
     simp only[List.getElem_map,nr]
     rw[← hr.1,g2]
    have EC:j=j2:=Hw h0 _ _ lY
    subst EC
    exact nr
   refine .inl ⟨v,j,e,rfl,yf,g2,?_,?_⟩
   ·have:=hr.2;rwa [‹l[j]=_›] at this
   simp only[Instr.findKey,Sem.run_bind,run_underlying hk,Result.andThen_ok,g3,Sem.run_pure,Nat.zero_add]
 refine .inr ⟨?_,g1,?_⟩
 ·cases q with
  |none=>rfl
  |some v=>
   have hv:=i2 v rfl
   have uL:(Value.int kd n,v)∈l:=h1.mem_iff.2 hv
   obtain⟨j2,A8,nr⟩:=List.getElem_of_mem uL
   have rG:j2<entries.size:=by omega
   have:=h3 j2 l[j2] entries[j2] (by simp[A8]) (by simp[rG])
   rw[nr] at this
   exact absurd this.1 (g1 _ (by simp))
 simp only[Instr.findKey,Sem.run_bind,run_underlying hk,Result.andThen_ok,g2,Sem.run_pure]
def ey (P:Program)(t:TypeId):Option Value:=
 match (P.info? t).bind (·.zero) with
 |some v=>bif kB v then some v else none
 |none=>none
theorem OE {P:Program}{t:TypeId}{z:Value}(h:ey P t=some z)(w:World):(zeroValue t).run P w=.ok z w∧kB z=true:=by
 unfold ey at h
 cases hi:P.info? t with
 |none=>simp[hi] at h
 |some i=>
  simp only[hi,Option.bind_some] at h
  cases hz:i.zero with
  |none=>simp[hz] at h
  |some v=>
   simp only[hz] at h
   cases hs:kB v with
   |false=>simp[hs] at h
   |true=>simp[hs] at h;subst h;exact⟨by simp[zeroValue,typeInfo,hi,hz],hs⟩
theorem run_checkKey {P:Program}{w:World}{kT:TypeId}{k0 kd:IntKind}{n:Int}(hk:P.underlying kT=some (.int k0))(b:Bool):(Instr.checkKey b 10000 kT (.int kd n)).run P w=.ok () w:=by
 have:∀d,(Instr.checkKey b (d+1) kT (.int kd n)).run P w=.ok () w:=fun d=>by
  simp only[Instr.checkKey,Sem.run_bind,run_underlying hk,Result.andThen_ok,Sem.run_pure]
 exact this 9999
def tK (P:Program)(h:ae)(t:TypeId)(m k:Value)(ok:Bool):Option Value:=
 match lj P t,k with
 |some (_,e),.int kd n=>
  match ey P e with
  |some z=>
   let r:Option (Option Value):=match m with
    |.map none=>some none
    |.map (some o)=>match h.get o with
     |some (.map es)=>uO kd n es
     |_=>none
    |_=>none
   match r with
   |some (some v)=>some (bif ok then .tuple #[v,.bool true] else v)
   |some none=>some (bif ok then .tuple #[z,.bool false] else z)
   |none=>none
  |none=>none
 |_,_=>none
theorem aj.pair {U:Mu}{a b a' b':Value}(ha:aj U a a')(hb:aj U b b'):aj U (.tuple #[a,b]) (.tuple #[a',b']):=by
 have:=aj.qb (bn.cons ha (bn.cons hb (bn.nil U)))
 simpa using this
theorem VE {P:Program}{lo:Nat}{U:Mu}{h:ae}{w:World}(r:Rel U lo h w){t:TypeId}{m m' k k' v:Value}{ok:Bool}(hm:aj U m m')(hk:aj U k k')(ha:tK P h t m k ok=some v) :
  dW P lo (Instr.lookup t m' k' ok) U h w v h:=by
 unfold tK at ha
 split at ha
 ·rename_i kT e kd n jq
  obtain⟨hu,k0,dI⟩:=JH jq
  cases hk
  split at ha
  ·rename_i z hz
   obtain⟨kP,sy⟩:=OE hz w
   have yg:aj U z z:=.xX sy
   simp only at ha
   split at ha
   ·rename_i v0 hr
    simp only[ax] at ha;subst ha
    split at hr
    ·simp at hr
    ·rename_i o
     split at hr
     ·rename_i es ho
      cases hm with
      |map _ b C kC=>
       obtain⟨_,entries,clock,h1,hM⟩:=mM r ho kC
       rcases EB (P:=P) (w:=w) hM dI hr with⟨v1,j,e1,g1,g2,g3,g4,g5⟩|⟨g1,_⟩
       ·simp only[ax] at g1;subst g1
        cases ok with
        |true=>exact .same r (by simp[Instr.lookup,run_underlying hu,getObj,Sem.run,h1,run_checkKey dI,g5]) (.pair g4 (.bool true))
        |false=>exact .same r (by simp[Instr.lookup,run_underlying hu,getObj,Sem.run,h1,run_checkKey dI,g5]) g4
       cases g1
     simp at hr
    simp at hr
   ·rename_i hr
    simp only[ax] at ha;subst ha
    split at hr
    ·cases hm
     cases ok with
     |true=>exact .same r (by simp[Instr.lookup,run_underlying hu,run_checkKey dI,Instr.findKey,run_underlying dI,Instr.findNow,kP]) (.pair yg (.bool false))
     |false=>exact .same r (by simp[Instr.lookup,run_underlying hu,run_checkKey dI,Instr.findKey,run_underlying dI,Instr.findNow,kP]) yg
    ·rename_i o
     split at hr
     ·rename_i es ho
      cases hm with
      |map _ b C kC=>
       obtain⟨_,entries,clock,h1,hM⟩:=mM r ho kC
       rcases EB (P:=P) (w:=w) hM dI hr with⟨v1,j,e1,g1,_⟩|⟨_,_,g5⟩
       ·cases g1
       cases ok with
       |true=>exact .same r (by simp[Instr.lookup,run_underlying hu,getObj,Sem.run,h1,run_checkKey dI,g5,kP]) (.pair yg (.bool false))
       |false=>exact .same r (by simp[Instr.lookup,run_underlying hu,getObj,Sem.run,h1,run_checkKey dI,g5,kP]) yg
     simp at hr
    simp at hr
   simp at ha
  simp at ha
 simp at ha
def iV (n:Int)(v:Value)(p:Value×Value):Value×Value:=
 match p with
 |(.int k a,u)=>bif decide (a=n) then (.int k a,v) else (.int k a,u)
 |p=>p
def oK (n:Int)(p:Value×Value):Bool:=
 match p.1 with
 |.int _ a=>!decide (a=n)
 |_=>true
def A9 (P:Program)(lo:Nat)(h:ae)(t:TypeId)(m k v:Value):Option ae:=
 match lj P t,m,k with
 |some _,.map (some o),.int kd n=>
  match h.get o with
  |some (.map es)=>
   bif Nat.ble lo o then
    match uO kd n es with
    |some (some _)=>some (h.put o (some (.map (es.map (iV n v)))))
    |some none=>some (h.put o (some (.map (es++[(.int kd n,v)]))))
    |none=>none
   else none
  |_=>none
 |_,_,_=>none
theorem OF (d:Nat)(k:IntKind)(n:Int):Instr.sameBits d (.int k n) (.int k n)=true:=by
 cases d<;>simp[Instr.sameBits]
theorem zL {P:Program}{w:World}{b:Nat}{entries eS:Array MapEntry}{clock iW:Nat}(h:w.heap[b]?=some (.map entries clock)) :
  (setObj b (.map eS iW)).run P w=.ok () { w with heap:=w.heap.setIfInBounds b (.map eS iW) }:=by
 simp[setObj,Sem.run,h]
theorem zM {U:Mu}{lo:Nat}{h:ae}{w:World}(r:Rel U lo h w){o:Nat}{es bf:List (Value×Value)}(hx:h.get o=some (.map es))(hl:lo≤o){b C:Nat}(hm:U o=some (b,0,C))
  {entries eS:Array MapEntry} {clock iW:Nat} (hb:w.heap[b]?=some (.map entries clock)) (hM:fQ U bf eS iW) :
  Rel U lo (h.put o (some (.map bf))) { w with heap:=w.heap.setIfInBounds b (.map eS iW) }∧Frame lo U h w U (h.put o (some (.map bf))) { w with heap:=w.heap.setIfInBounds b (.map eS iW) }:=by
 have aU:b<w.heap.size:=by
  rcases Nat.lt_or_ge b w.heap.size with h'|h'
  ·exact h'
  simp[Array.getElem?_eq_none h'] at hb
 refine Jo r hx hl hm (.map bf) (by simp) (fun b' oB=>?_) ⟨rfl,eS,iW,by simp[aU],hM⟩ (fun off=>?_) ⟨rfl,rfl,rfl,fun _=>by first|exact Nat.le_refl _|exact Nat.le_add_right _ _|exact Nat.le_succ _⟩
 ·have:b≠b':=fun h=>oB h.symm
  simp[this]
 simp[World.frozen?,aU]
theorem VG {P:Program}{lo:Nat}{U:Mu}{h:ae}{w:World}(r:Rel U lo h w){t:TypeId}{m m' k k' v v':Value}{h':ae}(hm:aj U m m')(hk:aj U k k')(hv:aj U v v')
  (ha:A9 P lo h t m k v=some h'):∃w',(Instr.mapUpdate t m' k' v').run P w=.ok () w'∧Rel U lo h' w'∧Frame lo U h w U h' w':=by
 unfold A9 at ha
 split at ha
 ·rename_i q o kd n jq
  obtain⟨kT,e⟩:=q
  obtain⟨hu,k0,dI⟩:=JH jq
  cases hk
  split at ha
  ·rename_i es ho
   cases cw:Nat.ble lo o with
   |false=>rw[cw] at ha;simp at ha
   |true=>
   rw[cw] at ha;simp only[aJ] at ha
   have lp:lo≤o:=by simpa using cw
   cases hm with
   |map _ b C kC=>
    obtain⟨_,entries,clock,h1,hM⟩:=mM r ho kC
    split at ha
    ·rename_i v0 hq
     simp only[ax] at ha;subst ha
     rcases EB (P:=P) (w:=w) hM dI hq with⟨v1,j,e1,g1,g2,g3,g4,g5⟩|⟨g1,_⟩
     ·have nY:fQ U (es.map (iV n v)) (entries.modify j fun e=>{ e with key:=.int kd n,val:=v' }) clock:=by
       obtain⟨l,p1,p0,p2,p3,p4,p5⟩:=hM
       obtain⟨i1,_,_⟩:=Hv hq
       have lk:∀p∈l,∃a,p.1=.int kd a:=fun p hp=>i1 p (p1.mem_iff.1 hp)
       have dE:j<l.length:=by
        rw[p2]
        rcases Nat.lt_or_ge j entries.size with h|h
        ·exact h
        rw[Array.getElem?_eq_none h] at g2;simp at g2
       have Ba:∀p,(iV n v p).1=p.1:=by
        intro p;unfold iV;split
        ·rename_i k1 a1 u1;cases decide (a1=n)<;>rfl
        rfl
       refine⟨l.map (iV n v),p1.map _,?_,by simp[p2],?_,?_,?_⟩
       ·rw[List.map_map]
        have:((fun x:Value×Value=>x.1)∘iV n v)=(fun x=>x.1):=funext Ba
        rw[this];exact p0
       ·intro i p e' hp cV
        rw[List.getElem?_map] at hp
        cases jD:l[i]? with
        |none=>rw[jD] at hp;simp at hp
        |some p'=>
         rw[jD] at hp;simp only[Option.map_some,ax] at hp;subst hp
         rw[Array.getElem?_modify] at cV
         by_cases eT:j=i
         ·subst eT
          simp only[if_true,g2,Option.map_some,ax] at cV;subst cV
          have hr:=p3 j p' e1 jD g2
          have pC:p'.1=.int kd n:=by rw[← hr.1,g3]
          obtain⟨pk,pv⟩:=p'
          simp only at pC;subst pC
          refine⟨?_,?_⟩
          ·simp[iV]
          simpa[iV] using hv
         simp only[eT,if_false] at cV
         have hr:=p3 i p' e' jD cV
         obtain⟨a,ha⟩:=lk p' (List.mem_of_getElem? jD)
         have cC:a≠n:=by
          intro hh;subst hh
          have cT:i<l.length:=by
           rcases Nat.lt_or_ge i l.length with h|h
           ·exact h
           rw[List.getElem?_eq_none h] at jD;simp at jD
          have e2:l[j].1=.int kd a:=by
           have:=p3 j l[j] e1 (by simp[dE]) g2
           rw[← this.1,g3]
          have e3:l[i].1=.int kd a:=by
           rw[List.getElem?_eq_getElem cT] at jD;injection jD with jD;rw[jD,ha]
          exact eT (Hw p0 (i:=j) (j:=i) (by simpa using dE) (by simpa using cT) (by simp[e2,e3]))
         obtain⟨pk,pv⟩:=p'
         simp only at ha;subst ha
         have hd:decide (a=n)=false:=by simpa using cC
         have:iV n v (Value.int kd a,pv)=(Value.int kd a,pv):=by simp[iV,hd]
         rw[this];exact hr
       ·have:((entries.modify j fun e=>{ e with key:=.int kd n,val:=v' }).toList.map (·.born))=entries.toList.map (·.born):=by
         apply List.ext_getElem?
         intro i
         simp only[List.getElem?_map,Array.getElem?_toList,Array.getElem?_modify]
         by_cases eT:j=i
         ·simp[eT]
          cases entries[i]?<;>rfl
         simp[eT]
        rw[this];exact p4
       intro e' cV
       obtain⟨i,hi⟩:=List.getElem?_of_mem cV
       rw[Array.getElem?_toList,Array.getElem?_modify] at hi
       by_cases eT:j=i
       ·subst eT
        simp only[if_true,g2,Option.map_some,ax] at hi;subst hi
        exact p5 e1 (by simpa using List.mem_of_getElem? (l:=entries.toList) (by simpa using g2))
       simp only[eT,if_false] at hi
       exact p5 e' (by simpa using List.mem_of_getElem? (l:=entries.toList) (by simpa using hi))
      obtain⟨h5,h6⟩:=zM r ho lp kC h1 nY
      refine⟨_,?_,h5,h6⟩
      have Bb:(Instr.keyThatStays (((entries[j]?).map (·.key)).getD (.int kd n)) (.int kd n)).run P w=.ok (.int kd n) w:=by
       simp[g2,g3,Instr.keyThatStays,OF]
      simp only[Instr.mapUpdate,Sem.run_bind,run_underlying hu,Result.andThen_ok]
      have lZ:(getObj b).run P w=.ok (.map entries clock) w:=by simp[getObj,Sem.run,h1]
      simp only[Sem.run_bind,lZ,Result.andThen_ok,run_checkKey dI,g5,Bb,zL h1]
     cases g1
    ·rename_i hq
     simp only[ax] at ha;subst ha
     rcases EB (P:=P) (w:=w) hM dI hq with⟨v1,j,e1,g1,_⟩|⟨_,g4,g5⟩
     ·cases g1
     have nY:fQ U (es++[(.int kd n,v)]) (entries.push { key:=.int kd n,val:=v',born:=clock }) (clock+1):=by
      obtain⟨l,p1,p0,p2,p3,p4,p5⟩:=hM
      have Hx:∀p∈l,p.1≠.int kd n:=fun p hp=>by
       obtain⟨i,hi⟩:=List.getElem?_of_mem hp
       have cT:i<entries.size:=by
        rw[← p2]
        rcases Nat.lt_or_ge i l.length with h|h
        ·exact h
        rw[List.getElem?_eq_none h] at hi;simp at hi
       have hr:=p3 i p entries[i] hi (by simp[cT])
       rw[← hr.1]
       exact g4 _ (by simp)
      refine⟨l++[(.int kd n,v)],p1.append_right _,?_,by simp[p2],?_,?_,?_⟩
      ·rw[List.map_append,List.nodup_append]
       refine⟨p0,by simp,?_⟩
       intro a ha b hb
       simp at hb;subst hb
       obtain⟨p,hp,rfl⟩:=List.mem_map.1 ha
       exact Hx p hp
      ·intro i p e' hp cV
       rw[Array.getElem?_push] at cV
       by_cases hi:i=entries.size
       ·simp only[hi,if_true,ax] at cV;subst cV
        rw[List.getElem?_append_right (by omega),hi,p2] at hp
        simp at hp;subst hp
        exact⟨rfl,hv⟩
       simp only[hi,if_false] at cV
       have cT:i<entries.size:=by
        rcases Nat.lt_or_ge i entries.size with h|h
        ·exact h
        rw[Array.getElem?_eq_none h] at cV;simp at cV
       rw[List.getElem?_append_left (by omega)] at hp
       exact p3 i p e' hp cV
      ·simp only[Array.toList_push,List.map_append,List.map_cons,List.map_nil]
       rw[List.pairwise_append]
       refine⟨p4,by simp,?_⟩
       intro a ha b hb
       simp at hb;subst hb
       obtain⟨e',cV,rfl⟩:=List.mem_map.1 ha
       exact p5 e' cV
      intro e' cV
      simp only[Array.toList_push,List.mem_append,List.mem_singleton] at cV
      rcases cV with cV|cV
      ·have:=p5 e' cV;omega
      subst cV;simp
     obtain⟨h5,h6⟩:=zM r ho lp kC h1 nY
     refine⟨_,?_,h5,h6⟩
     have lZ:(getObj b).run P w=.ok (.map entries clock) w:=by simp[getObj,Sem.run,h1]
     simp only[Instr.mapUpdate,Sem.run_bind,run_underlying hu,Result.andThen_ok,lZ,run_checkKey dI,g5,zL h1]
    simp at ha
  simp at ha
 simp at ha
def Bc (P:Program)(lo:Nat)(h:ae)(t:TypeId)(m k:Value):Option ae:=
 match lj P t,m,k with
 |some _,.map (some o),.int kd n=>
  match h.get o with
  |some (.map es)=>
   bif Nat.ble lo o then
    match uO kd n es with
    |some _=>some (h.put o (some (.map (es.filter (oK n)))))
    |none=>none
   else none
  |_=>none
 |_,_,_=>none
theorem VH {l:List (Value×Value)}{kd:IntKind}{n:Int}(hk:∀p∈l,∃a,p.1=.int kd a)(h0:(l.map (·.1)).Nodup){j:Nat}(hj:j<l.length)(he:l[j].1=.int kd n):l.filter (oK n)=l.eraseIdx j:=by
 induction l generalizing j with
 |nil=>simp at hj
 |cons p r ih=>
  obtain⟨pk,pv⟩:=p
  obtain⟨a,ha⟩:=hk (pk,pv) (by simp)
  simp only at ha;subst ha
  simp only[List.map_cons,List.nodup_cons] at h0
  cases j with
  |zero=>
   simp only[List.getElem_cons_zero,Value.int.injEq,true_and] at he
   subst he
   have bg:∀q∈r,oK a q=true:=by
    intro q hq
    obtain⟨b,hb⟩:=hk q (List.mem_cons_of_mem _ hq)
    have:b≠a:=by
     intro hh;subst hh
     exact h0.1 (List.mem_map.2 ⟨q,hq,hb⟩)
    simp[oK,hb,this]
   have h1:oK a (Value.int kd a,pv)=false:=by simp[oK]
   simp only[List.filter_cons,h1,Bool.false_eq_true,if_false,List.eraseIdx_cons_zero]
   exact List.filter_eq_self.2 bg
  |succ j=>
   simp only[List.length_cons,Nat.add_lt_add_iff_right] at hj
   simp only[List.getElem_cons_succ] at he
   have cC:a≠n:=by
    intro hh;subst hh
    exact h0.1 (List.mem_map.2 ⟨r[j],List.getElem_mem hj,he⟩)
   have h1:oK n (Value.int kd a,pv)=true:=by simp[oK,cC]
   simp only[List.filter_cons,h1,if_true,List.eraseIdx_cons_succ]
   rw[ih (fun q hq=>hk q (List.mem_cons_of_mem _ hq)) h0.2 hj he]
theorem VI {P:Program}{lo:Nat}{U:Mu}{h:ae}{w:World}(r:Rel U lo h w){t ED ty:TypeId}{m m' k k':Value}{h':ae}(hm:aj U m m')(hk:aj U k k')
  (ha:Bc P lo h t m k=some h'):dW P lo (Builtin.delete_ #[t,ED] ty #[m',k']) U h w Go.undef h':=by
 unfold Bc at ha
 split at ha
 ·rename_i q o kd n jq
  obtain⟨kT,e⟩:=q
  obtain⟨hu,k0,dI⟩:=JH jq
  cases hk
  split at ha
  ·rename_i es ho
   cases cw:Nat.ble lo o with
   |false=>rw[cw] at ha;simp at ha
   |true=>
   rw[cw] at ha;simp only[aJ] at ha
   have lp:lo≤o:=by simpa using cw
   cases hm with
   |map _ b C kC=>
    obtain⟨_,entries,clock,h1,hM⟩:=mM r ho kC
    split at ha
    ·rename_i q0 hq
     simp only[ax] at ha;subst ha
     have lZ:(getObj b).run P w=.ok (.map entries clock) w:=by simp[getObj,Sem.run,h1]
     obtain⟨i1,i2,i3⟩:=Hv hq
     rcases EB (P:=P) (w:=w) hM dI hq with⟨v1,j,e1,g1,g2,g3,g4,g5⟩|⟨g1,g4,g5⟩
     ·have nY:fQ U (es.filter (oK n)) (entries.eraseIdxIfInBounds j) clock:=by
       obtain⟨l,p1,p0,p2,p3,p4,p5⟩:=hM
       have rG:j<entries.size:=by
        rcases Nat.lt_or_ge j entries.size with h|h
        ·exact h
        rw[Array.getElem?_eq_none h] at g2;simp at g2
       have dE:j<l.length:=by omega
       have lk:∀p∈l,∃a,p.1=.int kd a:=fun p hp=>i1 p (p1.mem_iff.1 hp)
       have Bd:l[j].1=.int kd n:=by
        have:=p3 j l[j] e1 (by simp[dE]) g2
        rw[← this.1,g3]
       have rH:=VH lk p0 dE Bd
       have jE:(entries.eraseIdxIfInBounds j).toList=entries.toList.eraseIdx j:=by
        simp[Array.eraseIdxIfInBounds,rG]
       refine⟨l.filter (oK n),p1.filter _,?_,?_,?_,?_,?_⟩
       ·exact p0.sublist ((List.filter_sublist).map _)
       ·rw[rH,List.length_eraseIdx,if_pos dE,p2]
        have:(entries.eraseIdxIfInBounds j).toList.length=entries.size - 1:=by rw[jE,List.length_eraseIdx,if_pos (by simpa using rG)];simp
        rw[Array.length_toList] at this
        omega
       ·intro i p e' hp cV
        rw[rH,List.getElem?_eraseIdx] at hp
        rw[← Array.getElem?_toList,jE,List.getElem?_eraseIdx] at cV
        split at hp
        ·rename_i aU;rw[if_pos aU] at cV;exact p3 i p e' hp (by simpa using cV)
        rename_i aU;rw[if_neg aU] at cV;exact p3 (i+1) p e' hp (by simpa using cV)
       ·rw[jE];exact p4.sublist ((List.eraseIdx_sublist _ _).map _)
       intro e' cV;rw[jE] at cV;exact p5 e' ((List.eraseIdx_sublist _ _).subset cV)
      obtain⟨h5,h6⟩:=zM r ho lp kC h1 nY
      refine .mk (v':=Go.undef) ?_ .undef h5 h6
      simp[Builtin.delete_,lZ,run_checkKey dI,g5,zL h1,Go.undef,run_underlying hu]
     have nY:fQ U (es.filter (oK n)) entries clock:=by
      have:es.filter (oK n)=es:=by
       rw[List.filter_eq_self]
       intro p hp
       obtain⟨a,ha⟩:=i1 p hp
       have:=i3 g1 p hp
       have cC:a≠n:=by intro hh;subst hh;exact this ha
       simp[oK,ha,cC]
      rw[this];exact hM
     obtain⟨h5,h6⟩:=zM r ho lp kC h1 nY
     refine .mk (v':=Go.undef) ?_ .undef h5 h6
     simp[Builtin.delete_,lZ,run_checkKey dI,g5,zL h1,Go.undef,run_underlying hu]
    simp at ha
  simp at ha
 simp at ha
def gD:List Value→List Value→Option Bool
 |[],[]=>some true
 |.int k a::r,.int k' b::s=>bif decide (k=k') then (match gD r s with|some q=>some (decide (a=b)&&q)|none=>none) else none
 |_,_=>none
def fG:List Value→Bool
 |[]=>true
 |.int _ _::r=>fG r
 |_=>false
theorem EE:∀ {l m:List Value} {q:Bool},gD l m=some q→(q=true↔l=m)∧l.length=m.length
 |[],[],q,h=>by simp[gD] at h;simp[h]
 |[],v::m,q,h=>by cases v<;>simp[gD] at h
 |v::l,[],q,h=>by cases v<;>simp[gD] at h
 |v::l,u::m,q,h=>by
  unfold gD at h
  split at h
  ·rename_i h1 h2;cases h1
  ·rename_i k a r k' b s h1 h2
   injection h1 with e1 e2;injection h2 with e3 e4
   subst e1;subst e2;subst e3;subst e4
   cases hk:decide (k=k') with
   |false=>rw[hk] at h;cases h
   |true=>
    rw[hk,aJ] at h
    have hk:k=k':=by simpa using hk
    subst hk
    split at h
    ·rename_i q' hq
     obtain⟨i1,i2⟩:=EE hq
     injection h with h;subst h
     refine⟨?_,by simp[i2]⟩
     rw[bR,decide_eq_true_eq,i1]
     constructor
     ·rintro⟨rfl,rfl⟩;rfl
     intro h;injection h with h1 h2;injection h1 with _ h3;exact⟨h3,h2⟩
    cases h
  cases h
theorem OG {U:Mu}:∀ {l l':List Value},bn U l l'→fG l=true→l'=l
 |[],l',h,_=>by
  have:=h.1
  exact List.eq_nil_of_length_eq_zero (by simpa using this.symm)
 |.int k a::r,l',h,hi=>by
  cases l' with
  |nil=>have:=h.1;simp at this
  |cons v s=>
   have h0:=h.2 0 (.int k a) rfl
   obtain⟨v',h1,h2⟩:=h0
   simp at h1;subst h1
   cases h2
   have hr:bn U r s:=⟨by have:=h.1;simpa using this,fun i x hx=>by
    obtain⟨v',h1,h2⟩:=h.2 (i+1) x (by simpa using hx)
    exact⟨v',by simpa using h1,h2⟩⟩
   rw[OG hr hi]
 |.bool _::_,_,_,hi=>by cases hi
 |.float _ _::_,_,_,hi=>by cases hi
 |.complex _ _ _::_,_,_,hi=>by cases hi
 |.string _::_,_,_,hi=>by cases hi
 |.pointer _::_,_,_,hi=>by cases hi
 |.slice _ _ _::_,_,_,hi=>by cases hi
 |.map _::_,_,_,hi=>by cases hi
 |.agg _::_,_,_,hi=>by cases hi
 |.tuple _::_,_,_,hi=>by cases hi
 |.iface _ _::_,_,_,hi=>by cases hi
 |.func _ _ _::_,_,_,hi=>by cases hi
 |.nilFunc::_,_,_,hi=>by cases hi
 |.nilIface::_,_,_,hi=>by cases hi
 |.chan _::_,_,_,hi=>by cases hi
theorem OH (U:Mu):∀ {l:List Value},fG l=true→bn U l l:=fun {l} hi=>by
 refine⟨rfl,fun i v hv=>?_⟩
 induction l generalizing i with
 |nil=>simp at hv
 |cons a r ih=>
  cases a with
  |int k n=>
   cases i with
   |zero=>simp at hv;subst hv;exact⟨_,rfl,.int _ _⟩
   |succ i=>exact ih hi i (by simpa using hv)
  |_=>cases hi
theorem JI:∀ {l m:List Value} {q:Bool},gD l m=some q→fG l=true∧fG m=true
 |[],[],q,h=>⟨rfl,rfl⟩
 |[],v::m,q,h=>by cases v<;>simp[gD] at h
 |v::l,[],q,h=>by cases v<;>simp[gD] at h
 |v::l,u::m,q,h=>by
  unfold gD at h
  split at h
  ·rename_i h1 h2;cases h1
  ·rename_i k a r k' b s h1 h2
   injection h1 with e1 e2;injection h2 with e3 e4
   subst e1;subst e2;subst e3;subst e4
   cases hk:decide (k=k') with
   |false=>rw[hk] at h;cases h
   |true=>
    rw[hk,aJ] at h
    split at h
    ·rename_i q' hq;exact⟨(JI hq).1,(JI hq).2⟩
    cases h
  cases h
def zN (P:Program):Nat→List Field→Bool
 |_,[]=>true
 |i,f::r=>(match P.underlying f.type with|some (.int _)=>true|_=>false)&&(match bB P f.type,dc P f.type with|some false,some _=>true|_,_=>false)&&Nat.beq f.offset i&&!(f.name == "_")&&zN P (i+1) r
def wZ (P:Program)(t:TypeId):Option (TypeId×TypeId×Nat):=
 match P.underlying t with
 |some (.map k e)=>match P.underlying k with
  |some (.struct fs)=>bif !(P.stoodInHeld k||P.eqGuardType P.depth k)&&zN P 0 fs.toList then some (k,e,fs.toList.length) else none
  |_=>none
 |_=>none
structure uP (P:Program) (k:TypeId) (n:Nat):Prop where
  ex:∃fs:Array Field,P.underlying k=some (.struct fs)∧zN P 0 fs.toList=true∧fs.toList.length=n
  nh:(P.stoodInHeld k||P.eqGuardType P.depth k)=false
theorem JJ {P:Program}{t k e:TypeId}{n:Nat}(h:wZ P t=some (k,e,n)):P.underlying t=some (.map k e)∧uP P k n:=by
 unfold wZ at h
 split at h
 ·rename_i k' e' hu
  split at h
  ·rename_i fs hk
   cases hb:(!(P.stoodInHeld k'||P.eqGuardType P.depth k')&&zN P 0 fs.toList) with
   |false=>rw[hb] at h;cases h
   |true=>
    rw[hb] at h
    simp only[aJ,ax,bI] at h
    obtain⟨rfl,rfl,rfl⟩:=h
    rw[bR] at hb
    exact⟨hu,⟨fs,hk,hb.2,rfl⟩,by simpa using hb.1⟩
  cases h
 cases h
theorem OI {P:Program}{i:Nat}{f:Field}{r:List Field}(h:zN P i (f::r)=true):(∃k0,P.underlying f.type=some (.int k0))∧bB P f.type=some false∧(∃n,dc P f.type=some n)∧f.offset=i∧(f.name == "_")=false∧zN P (i+1) r=true:=by
 simp only[zN,bR] at h
 obtain⟨⟨⟨⟨h1,h2⟩,h3⟩,h4⟩,h5⟩:=h
 refine⟨?_,?_,?_,sf h3,by simpa using h4,h5⟩
 ·split at h1
  ·rename_i k0 hk;exact⟨k0,hk⟩
  cases h1
 ·split at h2
  ·rename_i ha hb;exact ha
  cases h2
 split at h2
 ·rename_i n ha hb;exact⟨n,hb⟩
 cases h2
theorem OJ:∀ {l m:List Value} {q:Bool} {i:Nat},gD l m=some q→i<l.length→∃k a b q',l[i]?=some (.int k a)∧m[i]?=some (.int k b)∧gD (l.drop (i+1)) (m.drop (i+1))=some q'∧gD (l.drop i) (m.drop i)=some (decide (a=b)&&q')
 |[],_,_,_,_,hi=>absurd hi (Nat.not_lt_zero _)
 |v::l,[],q,_,h,_=>by cases v<;>simp[gD] at h
 |v::l,u::m,q,i,h,hi=>by
  have h0:=h
  unfold gD at h
  split at h
  ·rename_i h1 h2;cases h1
  ·rename_i k a r k' b s h1 h2
   injection h1 with e1 e2;injection h2 with e3 e4
   subst e1;subst e2;subst e3;subst e4
   cases hk:decide (k=k') with
   |false=>rw[hk] at h;cases h
   |true=>
    rw[hk,aJ] at h
    have hk:k=k':=by simpa using hk
    subst hk
    split at h
    ·rename_i q' hq
     injection h with h;subst h
     cases i with
     |zero=>exact⟨k,a,b,q',rfl,rfl,by simpa using hq,by simpa using h0⟩
     |succ i=>
      obtain⟨k2,a2,b2,q2,g1,g2,g3,g4⟩:=OJ (i:=i) hq (by simpa using hi)
      exact⟨k2,a2,b2,q2,by simpa using g1,by simpa using g2,by simpa using g3,by simpa using g4⟩
    cases h
  cases h
theorem OK {P:Program}{xs ys:List Value}{q0:Bool}(h0:gD xs ys=some q0):∀(fs:List Field) (i:Nat) {q:Bool},zN P i fs=true→xs.length=i+fs.length→gD (xs.drop i) (ys.drop i)=some q→tJ P xs ys fs=some q
 |[],i,q,_,hl,h=>by
  have hx:xs.drop i=[]:=List.drop_eq_nil_of_le (by simp at hl;omega)
  have hy:ys.drop i=[]:=List.drop_eq_nil_of_le (by have:=(EE h0).2;simp at hl;omega)
  rw[hx,hy] at h
  simpa[gD,tJ] using h
 |f::fs,i,q,hf,hl,h=>by
  obtain⟨⟨k0,sA⟩,ha,⟨n,hn⟩,ho,JK,hr⟩:=OI hf
  have hi:i<xs.length:=by simp at hl;omega
  obtain⟨k,a,b,q',g1,g2,g3,g4⟩:=OJ h0 hi
  rw[g4] at h
  injection h with h
  have ih:=OK h0 fs (i+1) hr (by simp at hl;omega) g3
  simp only[tJ,JK,bl,hn,apart,ha,ho,g1,g2,AY,sA,decide_true,aJ]
  by_cases jF:a=b
  ·subst jF;simp[ih,← h]
  have hb:(a==b)=false:=by simpa using jF
  simp[jF,hb,← h]
theorem VJ {P:Program}{k:TypeId}{n:Nat}(hk:uP P k n){xs ys:Array Value}{q:Bool}(h:gD xs.toList ys.toList=some q)(hn:xs.toList.length=n)(w:World):(Op.equal k (.agg xs) (.agg ys)).run P w=.ok q w:=by
 obtain⟨⟨fs,h1,h2,h3⟩,h4⟩:=hk
 obtain⟨i1,i2⟩:=JI h
 have hr:∀ {l:List Value},fG l=true→bn (fun _=>none) l l:=fun {l} hi=>OH _ hi
 have hq:dx P k (.agg xs) (.agg ys)=some q:=by
  simp only[dx,h1,h4,bl]
  exact OK h fs.toList 0 h2 (by rw[hn,h3,Nat.zero_add]) (by simpa using h)
 have hx:aj (fun _=>none) (.agg xs) (.agg xs):=by have:=aj.ky (hr i1);simpa using this
 have hy:aj (fun _=>none) (.agg ys) (.agg ys):=by have:=aj.ky (hr i2);simpa using this
 exact(Jw (w:=w) hx hy hq).1
theorem JL {P:Program}{k:TypeId}{n:Nat}(hk:uP P k n){xs:Array Value}(hi:fG xs.toList=true)(hn:xs.toList.length=n)(b:Bool)(w:World):(Instr.checkKey b 10000 k (.agg xs)).run P w=.ok () w:=by
 obtain⟨⟨fs,h1,h2,h3⟩,_⟩:=hk
 have uQ:bn (fun _=>none) xs.toList xs.toList:=OH _ hi
 have hint:∀(i:Nat) (v:Value),xs.toList[i]?=some v→∃kd m,v=.int kd m:=fun i v hv=>by
  have:∀(l:List Value) (i:Nat) (v:Value),fG l=true→l[i]?=some v→∃kd m,v=.int kd m:=by
   intro l
   induction l with
   |nil=>intro i v _ h;simp at h
   |cons a r ih=>
    intro i v hi h
    cases a with
    |int k m=>
     cases i with
     |zero=>simp at h;exact⟨k,m,h.symm⟩
     |succ i=>exact ih i v hi (by simpa using h)
    |_=>cases hi
  exact this _ i v hi hv
 have all:∀d,(Instr.checkKey b (d+1+1) k (.agg xs)).run P w=.ok () w:=fun d=>by
  have hl:0+fs.toList.length=xs.toList.length:=by rw[hn,h3,Nat.zero_add]
  rw[Instr.checkKey]
  simp only[Sem.run_bind,run_underlying h1,Result.andThen_ok]
  rw[← Array.forIn_toList]
  clear h1 h3
  generalize fs.toList=L at h2 hl
  generalize (0:Nat)=i at h2 hl
  induction L generalizing i with
  |nil=>simp
  |cons f L ih=>
   obtain⟨⟨k0,sA⟩,ha,⟨m,hm⟩,ho,JK,hr⟩:=OI h2
   have JN:f.name ≠ "_" := by simpa using JK
   have cT:i<xs.toList.length:=by simp at hl ⊢;omega
   obtain⟨v,hv⟩:∃v,xs.toList[i]?=some v:=⟨_,List.getElem?_eq_getElem cT⟩
   obtain⟨v',p1,p2⟩:=En (P:=P) (w:=w) uQ hm (show apart P f.type xs.toList f.offset m=some v by simp only[apart,ha,ho,hv])
   obtain⟨kd,x,rfl⟩:=hint i v hv
   cases p2
   have p3:(Instr.checkKey b (d+1) f.type (.int kd x)).run P w=.ok () w:=by
    simp only[Instr.checkKey,Sem.run_bind,run_underlying sA,Result.andThen_ok,Sem.run_pure]
   simp only[List.forIn_cons,Sem.run_bind,JN,ne_eq,not_false_eq_true,if_true,Result.andThen_ok,p1,p3,Sem.run_pure]
   exact ih (i+1) hr (by simp at hl ⊢;omega)
 exact all 9998
theorem VK {U:Mu}{es:List (Value×Value)}{entries:Array MapEntry}{clock:Nat}{K v v':Value}{put:Value×Value→Value×Value}(hM:fQ U es entries clock){j:Nat}{e1:MapEntry}(g2:entries[j]?=some e1)(g3:e1.key=K)(hv:aj U v v')
  (q1:∀p∈es,p.1=K→put p=(K,v)) (q2:∀p∈es,p.1≠K→put p=p):fQ U (es.map put) (entries.modify j fun e=>{ e with key:=K,val:=v' }) clock:=by
 obtain⟨l,p1,p0,p2,p3,p4,p5⟩:=hM
 have dE:j<l.length:=by
  rw[p2]
  rcases Nat.lt_or_ge j entries.size with h|h
  ·exact h
  rw[Array.getElem?_eq_none h] at g2;simp at g2
 have Ba:∀p∈l,(put p).1=p.1:=fun p hp=>by
  by_cases hk:p.1=K
  ·rw[q1 p (p1.mem_iff.1 hp) hk,hk]
  rw[q2 p (p1.mem_iff.1 hp) hk]
 refine⟨l.map put,p1.map _,?_,by simp[p2],?_,?_,?_⟩
 ·rw[List.map_map,show l.map ((fun x=>x.1)∘put)=l.map (fun x=>x.1) from List.map_congr_left Ba];exact p0
 ·intro i p e' hp cV
  rw[List.getElem?_map] at hp
  cases jD:l[i]? with
  |none=>rw[jD] at hp;simp at hp
  |some p'=>
   rw[jD] at hp;simp only[Option.map_some,ax] at hp;subst hp
   have ll:p'∈es:=p1.mem_iff.1 (List.mem_of_getElem? jD)
   rw[Array.getElem?_modify] at cV
   by_cases eT:j=i
   ·subst eT
    simp only[if_true,g2,Option.map_some,ax] at cV;subst cV
    have hr:=p3 j p' e1 jD g2
    rw[q1 p' ll (by rw[← hr.1,g3])]
    exact⟨rfl,hv⟩
   simp only[eT,if_false] at cV
   have hr:=p3 i p' e' jD cV
   have cC:p'.1≠K:=fun hk=>by
    have cT:i<l.length:=by
     rcases Nat.lt_or_ge i l.length with h|h
     ·exact h
     rw[List.getElem?_eq_none h] at jD;simp at jD
    have e2:l[j].1=K:=by
     have:=p3 j l[j] e1 (by simp[dE]) g2
     rw[← this.1,g3]
    have e3:l[i].1=K:=by
     rw[List.getElem?_eq_getElem cT] at jD;injection jD with jD;rw[jD,hk]
    exact eT (Hw p0 (i:=j) (j:=i) (by simpa using dE) (by simpa using cT) (by simp[e2,e3]))
   rw[q2 p' ll cC];exact hr
 ·have:((entries.modify j fun e=>{ e with key:=K,val:=v' }).toList.map (·.born))=entries.toList.map (·.born):=by
   apply List.ext_getElem?
   intro i
   simp only[List.getElem?_map,Array.getElem?_toList,Array.getElem?_modify]
   by_cases eT:j=i
   ·simp[eT]
    cases entries[i]?<;>rfl
   simp[eT]
  rw[this];exact p4
 intro e' cV
 obtain⟨i,hi⟩:=List.getElem?_of_mem cV
 rw[Array.getElem?_toList,Array.getElem?_modify] at hi
 by_cases eT:j=i
 ·subst eT
  simp only[if_true,g2,Option.map_some,ax] at hi;subst hi
  exact p5 e1 (by simpa using List.mem_of_getElem? (l:=entries.toList) (by simpa using g2))
 simp only[eT,if_false] at hi
 exact p5 e' (by simpa using List.mem_of_getElem? (l:=entries.toList) (by simpa using hi))
theorem VL {U:Mu}{es:List (Value×Value)}{entries:Array MapEntry}{clock:Nat}{K v v':Value}(hM:fQ U es entries clock)(g4:∀e∈entries.toList,e.key≠K)(hv:aj U v v') :
  fQ U (es++[(K,v)]) (entries.push { key:=K,val:=v',born:=clock }) (clock+1):=by
 obtain⟨l,p1,p0,p2,p3,p4,p5⟩:=hM
 have Hx:∀p∈l,p.1≠K:=fun p hp=>by
  obtain⟨i,hi⟩:=List.getElem?_of_mem hp
  have cT:i<entries.size:=by
   rw[← p2]
   rcases Nat.lt_or_ge i l.length with h|h
   ·exact h
   rw[List.getElem?_eq_none h] at hi;simp at hi
  have hr:=p3 i p entries[i] hi (by simp[cT])
  rw[← hr.1]
  exact g4 _ (by simp)
 refine⟨l++[(K,v)],p1.append_right _,?_,by simp[p2],?_,?_,?_⟩
 ·rw[List.map_append,List.nodup_append]
  refine⟨p0,by simp,?_⟩
  intro a ha b hb
  simp at hb;subst hb
  obtain⟨p,hp,rfl⟩:=List.mem_map.1 ha
  exact Hx p hp
 ·intro i p e' hp cV
  rw[Array.getElem?_push] at cV
  by_cases hi:i=entries.size
  ·simp only[hi,if_true,ax] at cV;subst cV
   rw[List.getElem?_append_right (by omega),hi,p2] at hp
   simp at hp;subst hp
   exact⟨rfl,hv⟩
  simp only[hi,if_false] at cV
  have cT:i<entries.size:=by
   rcases Nat.lt_or_ge i entries.size with h|h
   ·exact h
   rw[Array.getElem?_eq_none h] at cV;simp at cV
  rw[List.getElem?_append_left (by omega)] at hp
  exact p3 i p e' hp cV
 ·simp only[Array.toList_push,List.map_append,List.map_cons,List.map_nil]
  rw[List.pairwise_append]
  refine⟨p4,by simp,?_⟩
  intro a ha b hb
  simp at hb;subst hb
  obtain⟨e',cV,rfl⟩:=List.mem_map.1 ha
  exact p5 e' cV
 intro e' cV
 simp only[Array.toList_push,List.mem_append,List.mem_singleton] at cV
 rcases cV with cV|cV
 ·have:=p5 e' cV;omega
 subst cV;simp
theorem VM {K:Value}{lq:Value×Value→Bool}{l:List (Value×Value)}(q1:∀p∈l,p.1=K→lq p=false)(q2:∀p∈l,p.1≠K→lq p=true)(h0:(l.map (·.1)).Nodup){j:Nat}(hj:j<l.length)(he:l[j].1=K):l.filter lq=l.eraseIdx j:=by
 induction l generalizing j with
 |nil=>simp at hj
 |cons p r ih=>
  simp only[List.map_cons,List.nodup_cons] at h0
  cases j with
  |zero=>
   have bg:∀q∈r,lq q=true:=fun q hq=>q2 q (List.mem_cons_of_mem _ hq) fun hh=>h0.1 (List.mem_map.2 ⟨q,hq,by rw[hh];exact he.symm⟩)
   have h1:lq p=false:=q1 p (by simp) he
   simp only[List.filter_cons,h1,Bool.false_eq_true,if_false,List.eraseIdx_cons_zero]
   exact List.filter_eq_self.2 bg
  |succ j=>
   simp only[List.length_cons,Nat.add_lt_add_iff_right] at hj
   simp only[List.getElem_cons_succ] at he
   have cC:p.1≠K:=fun hh=>h0.1 (List.mem_map.2 ⟨r[j],List.getElem_mem hj,by rw[he,hh]⟩)
   have h1:lq p=true:=q2 p (by simp) cC
   simp only[List.filter_cons,h1,if_true,List.eraseIdx_cons_succ]
   rw[ih (fun q hq=>q1 q (List.mem_cons_of_mem _ hq)) (fun q hq=>q2 q (List.mem_cons_of_mem _ hq)) h0.2 hj he]
theorem VN {U:Mu}{es:List (Value×Value)}{entries:Array MapEntry}{clock:Nat}{K:Value}{lq:Value×Value→Bool}(hM:fQ U es entries clock){j:Nat}{e1:MapEntry}(g2:entries[j]?=some e1)(g3:e1.key=K)
  (q1:∀p∈es,p.1=K→lq p=false) (q2:∀p∈es,p.1≠K→lq p=true):fQ U (es.filter lq) (entries.eraseIdxIfInBounds j) clock:=by
 obtain⟨l,p1,p0,p2,p3,p4,p5⟩:=hM
 have rG:j<entries.size:=by
  rcases Nat.lt_or_ge j entries.size with h|h
  ·exact h
  rw[Array.getElem?_eq_none h] at g2;simp at g2
 have dE:j<l.length:=by omega
 have Bd:l[j].1=K:=by
  have:=p3 j l[j] e1 (by simp[dE]) g2
  rw[← this.1,g3]
 have rH:=VM (fun p hp=>q1 p (p1.mem_iff.1 hp)) (fun p hp=>q2 p (p1.mem_iff.1 hp)) p0 dE Bd
 have jE:(entries.eraseIdxIfInBounds j).toList=entries.toList.eraseIdx j:=by
  simp[Array.eraseIdxIfInBounds,rG]
 refine⟨l.filter lq,p1.filter _,?_,?_,?_,?_,?_⟩
 ·exact p0.sublist ((List.filter_sublist).map _)
 ·rw[rH,List.length_eraseIdx,if_pos dE,p2]
  have:(entries.eraseIdxIfInBounds j).toList.length=entries.size - 1:=by rw[jE,List.length_eraseIdx,if_pos (by simpa using rG)];simp
  rw[Array.length_toList] at this
  omega
 ·intro i p e' hp cV
  rw[rH,List.getElem?_eraseIdx] at hp
  rw[← Array.getElem?_toList,jE,List.getElem?_eraseIdx] at cV
  split at hp
  ·rename_i aU;rw[if_pos aU] at cV;exact p3 i p e' hp (by simpa using cV)
  rename_i aU;rw[if_neg aU] at cV;exact p3 (i+1) p e' hp (by simpa using cV)
 ·rw[jE];exact p4.sublist ((List.eraseIdx_sublist _ _).map _)
 intro e' cV;rw[jE] at cV;exact p5 e' ((List.eraseIdx_sublist _ _).subset cV)
def sB (l:List Value):List (Value×Value)→Option (Option Value)
 |[]=>some none
 |(.agg ds,v)::r=>match gD l ds.toList,sB l r with
  |some s,some q=>some (bif s then some v else q)
  |_,_=>none
 |_=>none
theorem Hy {xs:Array Value}:∀ {es:List (Value×Value)} {q:Option Value},sB xs.toList es=some q→
  (∀p∈es,∃ds s,p.1=.agg ds∧gD xs.toList ds.toList=some s)∧(∀v,q=some v→(Value.agg xs,v)∈es)∧(q=none→∀p∈es,p.1≠.agg xs)
 |[],q,h=>by simp only[sB,ax] at h;subst h;exact⟨by simp,by simp,by simp⟩
 |(k,v)::r,q,h=>by
  unfold sB at h
  split at h
  ·rename_i heq;cases heq
  ·rename_i ds v' r' heq
   simp only[List.cons.injEq,bI] at heq
   obtain⟨⟨rfl,rfl⟩,rfl⟩:=heq
   split at h
   ·rename_i s q' hs bZ
    obtain⟨i1,i2,i3⟩:=Hy bZ
    have qj:=(EE hs).1
    simp only[ax] at h;subst h
    refine⟨fun p hp=>?_,fun u hu=>?_,fun hn p hp=>?_⟩
    ·rcases List.mem_cons.1 hp with rfl|hp
     ·exact⟨ds,s,rfl,hs⟩
     exact i1 p hp
    ·cases s with
     |true=>simp at hu;subst hu;rw[Array.ext' (qj.1 rfl)];simp
     |false=>simp only[bl] at hu;exact List.mem_cons_of_mem _ (i2 u hu)
    cases s with
    |true=>simp at hn
    |false=>
     simp only[bl] at hn
     rcases List.mem_cons.1 hp with rfl|hp
     ·intro he
      injection he with he
      have:=qj.2 (by rw[he])
      cases this
     exact i3 hn p hp
   cases h
  cases h
theorem OL {P:Program}{k:TypeId}{n:Nat}(hk:uP P k n){xs:Array Value}(hn:xs.toList.length=n)(w:World):∀(L:List MapEntry) (i:Nat),(∀e∈L,∃ds s,e.key=.agg ds∧gD xs.toList ds.toList=some s)→
  (∃j e,L[j]?=some e∧e.key=.agg xs∧(Instr.findAsking k (.agg xs) L i).run P w=.ok (some (i+j,e.val)) w)∨((∀e∈L,e.key≠.agg xs)∧(Instr.findAsking k (.agg xs) L i).run P w=.ok none w)
 |[],i,_=>.inr ⟨by simp,by simp[Instr.findAsking]⟩
 |e::L,i,h=>by
  obtain⟨ds,s,h1,h2⟩:=h e (by simp)
  have he:=VJ hk h2 hn w
  have qj:=(EE h2).1
  cases s with
  |true=>
   have hd:ds=xs:=(Array.ext' (qj.1 rfl)).symm
   exact .inl ⟨0,e,rfl,by rw[h1,hd],by simp[Instr.findAsking,h1,he]⟩
  |false=>
   have hd:e.key≠.agg xs:=fun hh=>by
    rw[h1] at hh
    injection hh with hh
    have:=qj.2 (by rw[hh])
    cases this
   rcases OL hk hn w L (i+1) (fun y hy=>h y (List.mem_cons_of_mem _ hy)) with⟨j,e',g1,g2,g3⟩|⟨g1,g2⟩
   ·exact .inl ⟨j+1,e',by simpa using g1,g2,by simp[Instr.findAsking,h1,he,g3,Nat.add_assoc,Nat.add_comm 1 j]⟩
   refine .inr ⟨fun y hy=>?_,by simp[Instr.findAsking,h1,he,g2]⟩
   rcases List.mem_cons.1 hy with rfl|hy
   ·exact hd
   exact g1 y hy
theorem EF {P:Program}{w:World}{U:Mu}{es:List (Value×Value)}{entries:Array MapEntry}{clock:Nat}(hM:fQ U es entries clock){kT:TypeId}{n:Nat}{xs:Array Value}{q:Option Value}(hk:uP P kT n)(hn:xs.toList.length=n)(hq:sB xs.toList es=some q) :
  (∃v j e,q=some v∧entries[j]?=some e∧e.key=.agg xs∧aj U v e.val∧(Instr.findKey kT (.agg xs) entries.toList).run P w=.ok (some (j,e.val)) w)∨
  (q=none∧(∀e∈entries.toList,e.key≠.agg xs)∧(Instr.findKey kT (.agg xs) entries.toList).run P w=.ok none w):=by
 obtain⟨l,h1,h0,h2,h3,h4,h5⟩:=hM
 obtain⟨i1,i2,i3⟩:=Hy hq
 have uR:(match P.underlying kT with|some (.array _ _)|some (.struct _)=>true|_=>false)=true:=by
  obtain⟨⟨fs,g1,_,_⟩,_⟩:=hk
  rw[g1]
 have bg:∀e∈entries.toList,∃p∈es,AP U p e:=fun e he=>by
  obtain⟨j,hj⟩:=List.getElem?_of_mem he
  have mL:entries[j]?=some e:=by simpa using hj
  have dE:j<l.length:=by
   rw[h2]
   rcases Nat.lt_or_ge j entries.size with h|h
   ·exact h
   rw[Array.getElem?_eq_none h] at mL;simp at mL
  exact⟨l[j],h1.mem_iff.1 (List.getElem_mem dE),h3 j l[j] e (by simp[dE]) mL⟩
 have lk:∀e∈entries.toList,∃ds s,e.key=.agg ds∧gD xs.toList ds.toList=some s:=fun e he=>by
  obtain⟨p,hp,hr⟩:=bg e he
  obtain⟨ds,s,ha,hb⟩:=i1 p hp
  exact⟨ds,s,by rw[hr.1,ha],hb⟩
 rw[run_findKey_eq w uR]
 rcases OL hk hn w entries.toList 0 lk with⟨j,e,g1,g2,g3⟩|⟨g1,g2⟩
 ·have yf:entries[j]?=some e:=by simpa using g1
  have dE:j<l.length:=by
   rw[h2]
   rcases Nat.lt_or_ge j entries.size with h|h
   ·exact h
   rw[Array.getElem?_eq_none h] at yf;simp at yf
  have hr:=h3 j l[j] e (by simp[dE]) yf
  have ll:l[j]∈es:=h1.mem_iff.1 (List.getElem_mem dE)
  cases q with
  |none=>exact absurd (hr.1▸g2) (i3 rfl _ ll)
  |some v=>
   have hv:=i2 v rfl
   have uL:(Value.agg xs,v)∈l:=h1.mem_iff.2 hv
   have:l[j]=(Value.agg xs,v):=by
    obtain⟨j2,A8,nr⟩:=List.getElem_of_mem uL
    have lY:(l.map (·.1))[j]'(by simpa using dE)=(l.map (·.1))[j2]'(by simpa using A8):=by
     simp only[List.getElem_map,nr]
     rw[← hr.1,g2]
    have EC:j=j2:=Hw h0 _ _ lY
    subst EC
    exact nr
   refine .inl ⟨v,j,e,rfl,yf,g2,?_,by simpa using g3⟩
   have:=hr.2;rwa [‹l[j]=_›] at this
 refine .inr ⟨?_,g1,g2⟩
 cases q with
 |none=>rfl
 |some v=>
  have hv:=i2 v rfl
  have uL:(Value.agg xs,v)∈l:=h1.mem_iff.2 hv
  obtain⟨j2,A8,nr⟩:=List.getElem_of_mem uL
  have rG:j2<entries.size:=by omega
  have:=h3 j2 l[j2] entries[j2] (by simp[A8]) (by simp[rG])
  rw[nr] at this
  exact absurd this.1 (g1 _ (by simp))
def yh (P:Program)(h:ae)(t:TypeId)(m:Value)(xs:Array Value)(ok:Bool):Option Value:=
 match wZ P t with
 |some (_,e,n)=>
  bif !(fG xs.toList&&Nat.beq xs.toList.length n) then none else
  match ey P e with
  |some z=>
   let r:Option (Option Value):=match m with
    |.map none=>some none
    |.map (some o)=>match h.get o with
     |some (.map es)=>sB xs.toList es
     |_=>none
    |_=>none
   match r with
   |some (some v)=>some (bif ok then .tuple #[v,.bool true] else v)
   |some none=>some (bif ok then .tuple #[z,.bool false] else z)
   |none=>none
  |none=>none
 |none=>none
theorem JO {U:Mu}{xs:Array Value}{k':Value}{n:Nat}(hk:aj U (.agg xs) k')(hb:(!(fG xs.toList&&Nat.beq xs.toList.length n))=false):k'=.agg xs∧fG xs.toList=true∧xs.toList.length=n:=by
 obtain⟨bk,rfl,hx⟩:=hk.CS
 have hb:(fG xs.toList&&Nat.beq xs.toList.length n)=true:=by simpa using hb
 rw[bR] at hb
 exact⟨by rw[Array.ext' (OG hx hb.1)],hb.1,sf hb.2⟩
theorem VO {P:Program}{lo:Nat}{U:Mu}{h:ae}{w:World}(r:Rel U lo h w){t:TypeId}{m m' k' v:Value}{xs:Array Value}{ok:Bool}(hm:aj U m m')(hk:aj U (.agg xs) k')(ha:yh P h t m xs ok=some v) :
  dW P lo (Instr.lookup t m' k' ok) U h w v h:=by
 unfold yh at ha
 split at ha
 ·rename_i kT e n jq
  obtain⟨hu,nZ⟩:=JJ jq
  cases hb:(!(fG xs.toList&&Nat.beq xs.toList.length n)) with
  |true=>rw[hb] at ha;cases ha
  |false=>
  rw[hb,bl] at ha
  obtain⟨rfl,hi,hn⟩:=JO hk hb
  have gf:=JL nZ hi hn
  have uR:(match P.underlying kT with|some (.array _ _)|some (.struct _)=>true|_=>false)=true:=by
   obtain⟨⟨fs,g1,_,_⟩,_⟩:=nZ
   rw[g1]
  split at ha
  ·rename_i z hz
   obtain⟨kP,sy⟩:=OE hz w
   have yg:aj U z z:=.xX sy
   simp only at ha
   split at ha
   ·rename_i v0 hr
    simp only[ax] at ha;subst ha
    split at hr
    ·simp at hr
    ·rename_i o
     split at hr
     ·rename_i es ho
      cases hm with
      |map _ b C kC=>
       obtain⟨_,entries,clock,h1,hM⟩:=mM r ho kC
       rcases EF (P:=P) (w:=w) hM nZ hn hr with⟨v1,j,e1,g1,g2,g3,g4,g5⟩|⟨g1,_⟩
       ·simp only[ax] at g1;subst g1
        cases ok with
        |true=>exact .same r (by simp[Instr.lookup,run_underlying hu,getObj,Sem.run,h1,gf,g5]) (.pair g4 (.bool true))
        |false=>exact .same r (by simp[Instr.lookup,run_underlying hu,getObj,Sem.run,h1,gf,g5]) g4
       cases g1
     simp at hr
    simp at hr
   ·rename_i hr
    simp only[ax] at ha;subst ha
    split at hr
    ·cases hm
     have hf:(Instr.findKey kT (.agg xs) []).run P w=.ok none w:=by rw[run_findKey_eq w uR];simp[Instr.findAsking]
     cases ok with
     |true=>exact .same r (by simp[Instr.lookup,run_underlying hu,gf,hf,kP]) (.pair yg (.bool false))
     |false=>exact .same r (by simp[Instr.lookup,run_underlying hu,gf,hf,kP]) yg
    ·rename_i o
     split at hr
     ·rename_i es ho
      cases hm with
      |map _ b C kC=>
       obtain⟨_,entries,clock,h1,hM⟩:=mM r ho kC
       rcases EF (P:=P) (w:=w) hM nZ hn hr with⟨v1,j,e1,g1,_⟩|⟨_,_,g5⟩
       ·cases g1
       cases ok with
       |true=>exact .same r (by simp[Instr.lookup,run_underlying hu,getObj,Sem.run,h1,gf,g5,kP]) (.pair yg (.bool false))
       |false=>exact .same r (by simp[Instr.lookup,run_underlying hu,getObj,Sem.run,h1,gf,g5,kP]) yg
     simp at hr
    simp at hr
   simp at ha
  simp at ha
 simp at ha
def zO (l:List Value)(k:Value):Bool:=match k with
 |.agg ds=>match gD l ds.toList with|some s=>s|none=>false
 |_=>false
def yj (xs:Array Value)(v:Value)(p:Value×Value):Value×Value:=bif zO xs.toList p.1 then (.agg xs,v) else p
def uS (xs:Array Value)(p:Value×Value):Bool:=!zO xs.toList p.1
theorem Hz {xs:Array Value}{es:List (Value×Value)}{q:Option Value}(h:sB xs.toList es=some q):∀p∈es,(zO xs.toList p.1=true↔p.1=.agg xs):=fun p hp=>by
 obtain⟨ds,s,h1,h2⟩:=(Hy h).1 p hp
 have qj:=(EE h2).1
 rw[h1]
 simp only[zO,h2]
 rw[qj]
 constructor
 ·intro hh;rw[Array.ext' hh]
 intro hh;injection hh with hh;rw[hh]
theorem VP {xs:Array Value}{v:Value}{es:List (Value×Value)}{q:Option Value}(h:sB xs.toList es=some q):(∀p∈es,p.1=.agg xs→yj xs v p=(.agg xs,v))∧∀p∈es,p.1≠.agg xs→yj xs v p=p:=by
 refine⟨fun p hp hk=>?_,fun p hp hk=>?_⟩
 ·unfold yj;rw[(Hz h p hp).2 hk];rfl
 unfold yj
 rw[show zO xs.toList p.1=false from Bool.eq_false_iff.2 fun hh=>hk ((Hz h p hp).1 hh)];rfl
def HA (P:Program)(lo:Nat)(h:ae)(t:TypeId)(m:Value)(xs:Array Value)(v:Value):Option ae:=
 match wZ P t,m with
 |some (_,_,n),.map (some o)=>
  bif !(fG xs.toList&&Nat.beq xs.toList.length n) then none else
  match h.get o with
  |some (.map es)=>
   bif Nat.ble lo o then
    match sB xs.toList es with
    |some (some _)=>some (h.put o (some (.map (es.map (yj xs v)))))
    |some none=>some (h.put o (some (.map (es++[(.agg xs,v)]))))
    |none=>none
   else none
  |_=>none
 |_,_=>none
theorem OM (d:Nat):∀ {l:List Value},fG l=true→(l.zip l).all (fun p=>Instr.sameBits d p.1 p.2)=true
 |[],_=>rfl
 |.int k n::r,h=>by simp only[List.zip_cons_cons,List.all_cons,OF,Bool.true_and];exact OM d h
 |.bool _::_,hi=>by cases hi
 |.float _ _::_,hi=>by cases hi
 |.complex _ _ _::_,hi=>by cases hi
 |.string _::_,hi=>by cases hi
 |.pointer _::_,hi=>by cases hi
 |.slice _ _ _::_,hi=>by cases hi
 |.map _::_,hi=>by cases hi
 |.agg _::_,hi=>by cases hi
 |.tuple _::_,hi=>by cases hi
 |.iface _ _::_,hi=>by cases hi
 |.func _ _ _::_,hi=>by cases hi
 |.nilFunc::_,hi=>by cases hi
 |.nilIface::_,hi=>by cases hi
 |.chan _::_,hi=>by cases hi
theorem VQ {P:Program}{w:World}{xs:Array Value}(h:fG xs.toList=true):(Instr.keyThatStays (.agg xs) (.agg xs)).run P w=.ok (.agg xs) w:=by
 have hs:∀d,Instr.sameBits (d+1) (.agg xs) (.agg xs)=true:=fun d=>by
  simp only[Instr.sameBits,beq_self_eq_true,Bool.true_and]
  exact OM d h
 simp[Instr.keyThatStays,hs 9999]
theorem VU {P:Program}{lo:Nat}{U:Mu}{h:ae}{w:World}(r:Rel U lo h w){t:TypeId}{m m' k' v v':Value}{xs:Array Value}{h':ae}(hm:aj U m m')(hk:aj U (.agg xs) k')(hv:aj U v v')
  (ha:HA P lo h t m xs v=some h'):∃w',(Instr.mapUpdate t m' k' v').run P w=.ok () w'∧Rel U lo h' w'∧Frame lo U h w U h' w':=by
 unfold HA at ha
 split at ha
 ·rename_i kT e n o jq
  obtain⟨hu,nZ⟩:=JJ jq
  cases hb:(!(fG xs.toList&&Nat.beq xs.toList.length n)) with
  |true=>rw[hb] at ha;cases ha
  |false=>
  rw[hb,bl] at ha
  obtain⟨rfl,hi,hn⟩:=JO hk hb
  have gf:=JL nZ hi hn
  split at ha
  ·rename_i es ho
   cases cw:Nat.ble lo o with
   |false=>rw[cw] at ha;simp at ha
   |true=>
   rw[cw] at ha;simp only[aJ] at ha
   have lp:lo≤o:=by simpa using cw
   cases hm with
   |map _ b C kC=>
    obtain⟨_,entries,clock,h1,hM⟩:=mM r ho kC
    have lZ:(getObj b).run P w=.ok (.map entries clock) w:=by simp[getObj,Sem.run,h1]
    split at ha
    ·rename_i v0 hq
     simp only[ax] at ha;subst ha
     rcases EF (P:=P) (w:=w) hM nZ hn hq with⟨v1,j,e1,g1,g2,g3,g4,g5⟩|⟨g1,_⟩
     ·obtain⟨q1,q2⟩:=VP (v:=v) hq
      have nY:=VK hM g2 g3 hv q1 q2
      obtain⟨h5,h6⟩:=zM r ho lp kC h1 nY
      refine⟨_,?_,h5,h6⟩
      have Bb:(Instr.keyThatStays (((entries[j]?).map (·.key)).getD (.agg xs)) (.agg xs)).run P w=.ok (.agg xs) w:=by
       simp only[g2,Option.map_some,Option.getD_some,g3];exact VQ hi
      simp only[Instr.mapUpdate,Sem.run_bind,run_underlying hu,Result.andThen_ok,lZ,gf,g5,Bb,zL h1]
     cases g1
    ·rename_i hq
     simp only[ax] at ha;subst ha
     rcases EF (P:=P) (w:=w) hM nZ hn hq with⟨v1,j,e1,g1,_⟩|⟨_,g4,g5⟩
     ·cases g1
     have nY:=VL hM g4 hv
     obtain⟨h5,h6⟩:=zM r ho lp kC h1 nY
     refine⟨_,?_,h5,h6⟩
     simp only[Instr.mapUpdate,Sem.run_bind,run_underlying hu,Result.andThen_ok,lZ,gf,g5,zL h1]
    simp at ha
  simp at ha
 simp at ha
def HB (P:Program)(lo:Nat)(h:ae)(t:TypeId)(m:Value)(xs:Array Value):Option ae:=
 match wZ P t,m with
 |some (_,_,n),.map (some o)=>
  bif !(fG xs.toList&&Nat.beq xs.toList.length n) then none else
  match h.get o with
  |some (.map es)=>
   bif Nat.ble lo o then
    match sB xs.toList es with
    |some _=>some (h.put o (some (.map (es.filter (uS xs)))))
    |none=>none
   else none
  |_=>none
 |_,_=>none
theorem VV {P:Program}{lo:Nat}{U:Mu}{h:ae}{w:World}(r:Rel U lo h w){t ED ty:TypeId}{m m' k':Value}{xs:Array Value}{h':ae}(hm:aj U m m')(hk:aj U (.agg xs) k')
  (ha:HB P lo h t m xs=some h'):dW P lo (Builtin.delete_ #[t,ED] ty #[m',k']) U h w Go.undef h':=by
 unfold HB at ha
 split at ha
 ·rename_i kT e n o jq
  obtain⟨hu,nZ⟩:=JJ jq
  cases hb:(!(fG xs.toList&&Nat.beq xs.toList.length n)) with
  |true=>rw[hb] at ha;cases ha
  |false=>
  rw[hb,bl] at ha
  obtain⟨rfl,hi,hn⟩:=JO hk hb
  have gf:=JL nZ hi hn
  split at ha
  ·rename_i es ho
   cases cw:Nat.ble lo o with
   |false=>rw[cw] at ha;simp at ha
   |true=>
   rw[cw] at ha;simp only[aJ] at ha
   have lp:lo≤o:=by simpa using cw
   cases hm with
   |map _ b C kC=>
    obtain⟨_,entries,clock,h1,hM⟩:=mM r ho kC
    split at ha
    ·rename_i q0 hq
     simp only[ax] at ha;subst ha
     have lZ:(getObj b).run P w=.ok (.map entries clock) w:=by simp[getObj,Sem.run,h1]
     have q1:∀p∈es,p.1=.agg xs→uS xs p=false:=fun p hp hk=>by unfold uS;rw[(Hz hq p hp).2 hk];rfl
     have q2:∀p∈es,p.1≠.agg xs→uS xs p=true:=fun p hp hk=>by
      unfold uS
      rw[show zO xs.toList p.1=false from Bool.eq_false_iff.2 fun hh=>hk ((Hz hq p hp).1 hh)];rfl
     obtain⟨i1,i2,i3⟩:=Hy hq
     rcases EF (P:=P) (w:=w) hM nZ hn hq with⟨v1,j,e1,g1,g2,g3,g4,g5⟩|⟨g1,g4,g5⟩
     ·have nY:=VN hM g2 g3 q1 q2
      obtain⟨h5,h6⟩:=zM r ho lp kC h1 nY
      refine .mk (v':=Go.undef) ?_ .undef h5 h6
      simp[Builtin.delete_,lZ,gf,g5,zL h1,Go.undef,run_underlying hu]
     have nY:fQ U (es.filter (uS xs)) entries clock:=by
      rw[List.filter_eq_self.2 fun p hp=>q2 p hp (i3 g1 p hp)];exact hM
     obtain⟨h5,h6⟩:=zM r ho lp kC h1 nY
     refine .mk (v':=Go.undef) ?_ .undef h5 h6
     simp[Builtin.delete_,lZ,gf,g5,zL h1,Go.undef,run_underlying hu]
    simp at ha
  simp at ha
 simp at ha
def tL (P:Program)(h:ae)(t:TypeId)(m k:Value)(ok:Bool):Option Value:=match k with
 |.agg xs=>yh P h t m xs ok
 |k=>tK P h t m k ok
def zP (P:Program)(lo:Nat)(h:ae)(t:TypeId)(m k v:Value):Option ae:=match k with
 |.agg xs=>HA P lo h t m xs v
 |k=>A9 P lo h t m k v
def oL (P:Program)(lo:Nat)(h:ae)(t:TypeId)(m k:Value):Option ae:=match k with
 |.agg xs=>HB P lo h t m xs
 |k=>Bc P lo h t m k
theorem VX {P:Program}{lo:Nat}{U:Mu}{h:ae}{w:World}(r:Rel U lo h w){t:TypeId}{m m' k k' v:Value}{ok:Bool}(hm:aj U m m')(hk:aj U k k')(ha:tL P h t m k ok=some v):dW P lo (Instr.lookup t m' k' ok) U h w v h:=by
 unfold tL at ha
 split at ha
 ·exact VO r hm hk ha
 exact VE r hm hk ha
theorem ON {P:Program}{lo:Nat}{U:Mu}{h:ae}{w:World}(r:Rel U lo h w){t:TypeId}{m m' k k' v v':Value}{h':ae}(hm:aj U m m')(hk:aj U k k')(hv:aj U v v')
  (ha:zP P lo h t m k v=some h'):∃w',(Instr.mapUpdate t m' k' v').run P w=.ok () w'∧Rel U lo h' w'∧Frame lo U h w U h' w':=by
 unfold zP at ha
 split at ha
 ·exact VU r hm hk hv ha
 exact VG r hm hk hv ha
theorem VY {P:Program}{lo:Nat}{U:Mu}{h:ae}{w:World}(r:Rel U lo h w){t ED ty:TypeId}{m m' k k':Value}{h':ae}(hm:aj U m m')(hk:aj U k k')
  (ha:oL P lo h t m k=some h'):dW P lo (Builtin.delete_ #[t,ED] ty #[m',k']) U h w Go.undef h':=by
 unfold oL at ha
 split at ha
 ·exact VV r hm hk ha
 exact VI r hm hk ha
def ns (ts:aC):List Operand→Option (List Value)
 |[]=>some []
 |x::r=>match cI ts x,ns ts r with
  |some v,some l=>some (v::l)
  |_,_=>none
theorem Db {U:Mu}{ts:aC}{a:Act}(h:dd U ts a.tmps):∀ {xs:List Operand} {l:List Value},ns ts xs=some l→bn U l (xs.map a.eval)
 |[],l,hl=>by simp only[ns,ax] at hl;subst hl;exact bn.nil U
 |x::r,l,hl=>by
  simp only[ns] at hl
  split at hl
  ·rename_i v l' h1 h2
   simp only[ax] at hl;subst hl
   exact .cons (fq h h1) (Db h h2)
  simp at hl
def tM (ts:aC):List (Nat×Operand)→Option (List (Nat×Value))
 |[]=>some []
 |(i,x)::r=>match cI ts x,tM ts r with
  |some v,some l=>some ((i,v)::l)
  |_,_=>none
theorem HC {U:Mu}{ts:aC}{a:Act}(h:dd U ts a.tmps):∀ {xs:List (Nat×Operand)} {l:List (Nat×Value)},tM ts xs=some l→uJ U l (xs.map fun (i,x)=>(i,a.eval x))
 |[],l,hl=>by simp only[tM,ax] at hl;subst hl;exact⟨rfl,bn.nil U⟩
 |(i,x)::r,l,hl=>by
  simp only[tM] at hl
  split at hl
  ·rename_i v l' h1 h2
   simp only[ax] at hl;subst hl
   have ih:=HC h h2
   exact⟨by simp only[List.map_cons];rw[ih.1],.cons (fq h h1) ih.2⟩
  simp at hl
def tO (ts:aC):Option Operand→Option (Option Value)
 |none=>some none
 |some x=>(cI ts x).map some
theorem JQ {U:Mu}{ts:aC}{a:Act}(h:dd U ts a.tmps){x:Option Operand}{v:Option Value}(hv:tO ts x=some v):A0 U v (x.map a.eval):=by
 cases x with
 |none=>simp only[tO,ax] at hv;subst hv;trivial
 |some x=>
  simp only[tO] at hv
  cases hx:cI ts x with
  |none=>rw[hx] at hv;simp at hv
  |some u=>rw[hx] at hv;simp only[Option.map_some,ax] at hv;subst hv;exact fq h hx
def n3 (P:Program)(lo:Nat)(h:ae)(b:Builtin)(argTypes:List TypeId)(args:List Value):Option (Value×ae):=
 match b,argTypes,args with
 |.len,[t],[x]=>(lX P h t x).map (·,h)
 |.cap,[t],[x]=>(ye P t x).map (·,h)
 |.append,[s,x],[a,b]=>oG P lo h s x a b
 |.copy,[d,_],[a,b]=>Da P lo h d a b
 |.clear,[t],[x]=>(wY P lo h t x).map fun h'=>(Go.undef,h')
 |.delete,[t,_],[m,k]=>(oL P lo h t m k).map fun h'=>(Go.undef,h')
 |.max,_,x::r=>(jY true x r).map (·,h)
 |.min,_,x::r=>(jY false x r).map (·,h)
 |_,_,_=>none
theorem VZ {P:Program}{lo:Nat}{U:Mu}{h:ae}{w:World}(r:Rel U lo h w){b:Builtin}{aT:Array TypeId}{ty:TypeId}{cs:Array Bool}{args:List Value}{au:Array Value}{v:Value}{h':ae}
  (ha:bn U args au.toList) (hb:n3 P lo h b aT.toList args=some (v,h')):∃s:Sem Value,(Go.builtin b aT ty cs au)=(do pure (.value (← s)))∧dW P lo s U h w v h':=by
 have mP:∀ {l:List TypeId},aT.toList=l→aT=l.toArray:=fun hl=>by rw[← hl]
 have dQ:∀ {l:List Value},au.toList=l→au=l.toArray:=fun hl=>by rw[← hl]
 unfold n3 at hb
 split at hb
 ·rename_i t x hl
  obtain⟨x',r1,h1,hx,h2⟩:=ha.dt
  have:=h2.iP;subst this
  rw[mP hl,dQ h1]
  cases hq:lX P h t x with
  |none=>rw[hq] at hb;simp at hb
  |some u=>
   rw[hq] at hb;simp only[Option.map_some,ax,bI] at hb;obtain⟨rfl,rfl⟩:=hb
   exact⟨_,rfl,VB r hx hq⟩
 ·rename_i t x hl
  obtain⟨x',r1,h1,hx,h2⟩:=ha.dt
  have:=h2.iP;subst this
  rw[mP hl,dQ h1]
  cases hq:ye P t x with
  |none=>rw[hq] at hb;simp at hb
  |some u=>
   rw[hq] at hb;simp only[Option.map_some,ax,bI] at hb;obtain⟨rfl,rfl⟩:=hb
   obtain⟨v',g1,g2⟩:=VC (w:=w) (ty:=ty) hx hq
   exact⟨_,rfl,.same r g1 g2⟩
 ·rename_i s x a b hl
  obtain⟨a',r1,h1,hx,h2⟩:=ha.dt
  obtain⟨b',r2,rfl,hy,h3⟩:=h2.dt
  have:=h3.iP;subst this
  rw[mP hl,dQ h1]
  exact⟨_,rfl,Vt r hx hy hb⟩
 ·rename_i d u a b hl
  obtain⟨a',r1,h1,hx,h2⟩:=ha.dt
  obtain⟨b',r2,rfl,hy,h3⟩:=h2.dt
  have:=h3.iP;subst this
  rw[mP hl,dQ h1]
  exact⟨_,rfl,VA r hx hy hb⟩
 ·rename_i t x hl
  obtain⟨x',r1,h1,hx,h2⟩:=ha.dt
  have:=h2.iP;subst this
  rw[mP hl,dQ h1]
  cases hq:wY P lo h t x with
  |none=>rw[hq] at hb;simp at hb
  |some u=>
   rw[hq] at hb;simp only[Option.map_some,ax,bI] at hb;obtain⟨rfl,rfl⟩:=hb
   exact⟨_,rfl,VD r hx hq⟩
 ·rename_i t u m k hl
  obtain⟨a',r1,h1,hx,h2⟩:=ha.dt
  obtain⟨b',r2,rfl,hy,h3⟩:=h2.dt
  have:=h3.iP;subst this
  rw[mP hl,dQ h1]
  cases hq:oL P lo h t m k with
  |none=>rw[hq] at hb;simp at hb
  |some u=>
   rw[hq] at hb;simp only[Option.map_some,ax,bI] at hb;obtain⟨rfl,rfl⟩:=hb
   exact⟨_,rfl,VY r hx hy hq⟩
 ·rename_i x rs
  obtain⟨x',r1,h1,hx,h2⟩:=ha.dt
  cases hq:jY true x rs with
  |none=>rw[hq] at hb;simp at hb
  |some u=>
   rw[hq] at hb;simp only[Option.map_some,ax,bI] at hb;obtain⟨rfl,rfl⟩:=hb
   obtain⟨v',g1,g2⟩:=OC (P:=P) (w:=w) hx h2 hq
   exact⟨Builtin.max_ aT ty au,rfl,.same r (by simp only[Builtin.max_,h1];exact g1) g2⟩
 ·rename_i x rs
  obtain⟨x',r1,h1,hx,h2⟩:=ha.dt
  cases hq:jY false x rs with
  |none=>rw[hq] at hb;simp at hb
  |some u=>
   rw[hq] at hb;simp only[Option.map_some,ax,bI] at hb;obtain⟨rfl,rfl⟩:=hb
   obtain⟨v',g1,g2⟩:=OD (P:=P) (w:=w) hx h2 hq
   exact⟨Builtin.min_ aT ty au,rfl,.same r (by simp only[Builtin.min_,h1];exact g1) g2⟩
 simp at hb
def cn (P:Program)(lo:Nat)(ts:aC)(h:ae):Op→Option (Value×ae)
 |.move x=>(cI ts x).map (·,h)
 |.assign x=>(cI ts x).map (·,h)
 |.pick c a b=>match cI ts c with
  |some (.bool true)=>(cI ts a).map (·,h)
  |some (.bool false)=>(cI ts b).map (·,h)
  |_=>none
 |.alloc t=>CW P h t
 |.box _ x=>(cI ts x).map (sh h)
 |.build t parts=>match tM ts parts.toList with
  |some l=>(C0 P t l).map (·,h)
  |none=>none
 |.buildSlice t n parts=>match tM ts parts.toList with
  |some l=>C4 P h t n l
  |none=>none
 |.load t a=>match cI ts a with
  |some p=>(sj P h t p).map (·,h)
  |none=>none
 |.store t a x=>match cI ts a,cI ts x with
  |some p,some v=>(CX P lo h t p v).map fun h'=>(Go.undef,h')
  |_,_=>none
 |.nilCheck x=>match cI ts x with
  |some v=>(C6 v).map (·,h)
  |none=>none
 |.binOp op t x y _=>match cI ts x,cI ts y with
  |some a,some b=>(lV P op t a b).map (·,h)
  |_,_=>none
 |.unOp op _ x=>match cI ts x with
  |some a=>(oD op a).map (·,h)
  |none=>none
 |.convert s d x=>match cI ts x with
  |some a=>(oE P s d a).map (·,h)
  |none=>none
 |.makeFunc (.func f) first captured=>match ns ts first.toList,ns ts captured.toList with
  |some xs,some ys=>some (.func (.func f) xs.toArray ys.toArray,h)
  |_,_=>none
 |.makeMap _ none=>some (.map (some h.next),h.alloc (.map []))
 |.makeSlice t l c=>match cI ts l,cI ts c with
  |some a,some b=>C5 P h t a b
  |_,_=>none
 |.slice t x lo hi mx=>match cI ts x,tO ts lo,tO ts hi,tO ts mx with
  |some v,some l,some u,some m=>(kh P t v l u m).map (·,h)
  |_,_,_,_=>none
 |.fieldAddr s x f=>match cI ts x with
  |some p=>(CY P s p f).map (·,h)
  |none=>none
 |.field s x f=>match cI ts x with
  |some p=>(Eo P s p f).map (·,h)
  |none=>none
 |.indexAddr t x i=>match cI ts x,cI ts i with
  |some a,some b=>(x5 P t a b).map (·,h)
  |_,_=>none
 |.index t x i=>match cI ts x,cI ts i with
  |some a,some b=>(AU P t a b).map (·,h)
  |_,_=>none
 |.lookup t m k ok=>match cI ts m,cI ts k with
  |some a,some b=>(tL P h t a b ok).map (·,h)
  |_,_=>none
 |.mapUpdate t m k x=>match cI ts m,cI ts k,cI ts x with
  |some a,some b,some c=>(zP P lo h t a b c).map fun h'=>(Go.undef,h')
  |_,_,_=>none
 |.insert t m k x=>match cI ts m,cI ts k,cI ts x with
  |some a,some b,some c=>(zP P lo h t a b c).map fun h'=>(Go.undef,h')
  |_,_,_=>none
 |.extract x i=>match cI ts x with
  |some a=>(Ep a i).map (·,h)
  |none=>none
 |.call ⟨.builtin b,args,argTypes⟩=>match ns ts args.toList with
  |some l=>n3 P lo h b argTypes.toList l
  |none=>none
 |_=>none
def Dc (P:Program)(lo:Nat)(s:Sem Next)(U:Mu)(h:ae)(w:World)(v:Value)(h':ae):Prop:=
 ∃nx v' w' aN,s.run P w=.ok nx w'∧(nx=.value v'∨(nx=.skip∧v'=Go.undef))∧aj aN v v'∧Rel aN lo h' w'∧Frame lo U h w aN h' w'
theorem dW.runs {P:Program}{lo:Nat}{s:Sem Value}{U:Mu}{h h':ae}{w:World}{v:Value}(ho:dW P lo s U h w v h'):Dc P lo (do pure (.value (← s))) U h w v h':=by
 obtain⟨v',w',aN,h1,h2,h3,h4⟩:=ho
 exact⟨.value v',v',w',aN,by simp[h1],.inl rfl,h2,h3,h4⟩
theorem Dc.uT {P:Program}{lo:Nat}{s:Sem Value}{U:Mu}{h:ae}{w:World}{v:Value}(r:Rel U lo h w)(hs:∃v',s.run P w=.ok v' w∧aj U v v'):Dc P lo (do pure (.value (← s))) U h w v h:=
 let ⟨_,h1,h2⟩:=hs
 (dW.same r h1 h2).runs
theorem Dc.JR {P:Program}{lo:Nat}{s:Sem Unit}{U:Mu}{h h':ae}{w:World}(hs:∃w',s.run P w=.ok () w'∧Rel U lo h' w'∧Frame lo U h w U h' w'):Dc P lo (do s;pure .skip) U h w Go.undef h':=by
 obtain⟨w',h1,h2,h3⟩:=hs
 exact⟨.skip,Go.undef,w',U,by simp[h1],.inr ⟨rfl,rfl⟩,.undef,h2,h3⟩
theorem cZ {α β:Type}{f:α→β}{o:Option α}{b:β}(h:o.map f=some b):∃a,o=some a∧f a=b:=by
 cases o with
 |none=>simp at h
 |some a=>exact⟨a,rfl,by simpa using h⟩
theorem V0 {P:Program}{lo:Nat}{U:Mu}{h:ae}{w:World}{ts:aC}{a:Act}{o:Oper}{v:Value}{h':ae}(r:Rel U lo h w)(ht:dd U ts a.tmps)(ha:cn P lo ts h o.op=some (v,h')) :
  Dc P lo (execOp a.eval o) U h w v h':=by
 unfold cn at ha
 split at ha
 all_goals (rename_i JS;try unfold execOp;try rw[JS])
 ·obtain⟨u,h1,h2⟩:=cZ ha
  simp only[bI] at h2;obtain⟨rfl,rfl⟩:=h2
  exact⟨_,_,w,U,rfl,.inl rfl,fq ht h1,r,Frame.refl _ _ _ _⟩
 ·obtain⟨u,h1,h2⟩:=cZ ha
  simp only[bI] at h2;obtain⟨rfl,rfl⟩:=h2
  exact⟨_,_,w,U,rfl,.inl rfl,fq ht h1,r,Frame.refl _ _ _ _⟩
 ·rename_i c x y
  split at ha
  ·rename_i hc
   obtain⟨u,h1,h2⟩:=cZ ha
   simp only[bI] at h2;obtain⟨rfl,rfl⟩:=h2
   have tP:=fq ht hc
   generalize gR:a.eval c=ce at tP
   cases tP
   exact⟨_,_,w,U,by simp[gR,asBool],.inl rfl,fq ht h1,r,Frame.refl _ _ _ _⟩
  ·rename_i hc
   obtain⟨u,h1,h2⟩:=cZ ha
   simp only[bI] at h2;obtain⟨rfl,rfl⟩:=h2
   have tP:=fq ht hc
   generalize gR:a.eval c=ce at tP
   cases tP
   exact⟨_,_,w,U,by simp[gR,asBool],.inl rfl,fq ht h1,r,Frame.refl _ _ _ _⟩
  simp at ha
 ·exact(U0 r ha).runs
 ·rename_i el x
  obtain⟨u,h1,h2⟩:=cZ ha
  have:=(U1 (P:=P) r el (fq ht h1)).runs
  rw[h2] at this
  exact this
 ·split at ha
  ·rename_i l hl
   obtain⟨u,h1,h2⟩:=cZ ha
   simp only[bI] at h2;obtain⟨rfl,rfl⟩:=h2
   exact .uT r (Va (by simpa using HC ht hl) h1)
  simp at ha
 ·split at ha
  ·rename_i l hl
   exact(Vc r (by simpa using HC ht hl) ha).runs
  simp at ha
 ·split at ha
  ·rename_i p hp
   obtain⟨u,h1,h2⟩:=cZ ha
   simp only[bI] at h2;obtain⟨rfl,rfl⟩:=h2
   exact(Jt r (fq ht hp) h1).runs
  simp at ha
 ·split at ha
  ·rename_i p x hp hx
   obtain⟨u,h1,h2⟩:=cZ ha
   simp only[bI] at h2;obtain⟨rfl,rfl⟩:=h2
   exact .JR (U2 r (fq ht hp) (fq ht hx) h1)
  simp at ha
 ·rename_i x
  split at ha
  ·rename_i u hu
   obtain⟨u2,h1,h2⟩:=cZ ha
   simp only[bI] at h2;obtain⟨rfl,rfl⟩:=h2
   have hr:=fq ht hu
   generalize ki:a.eval x=xe at hr
   have mO:=hr
   unfold C6 at h1
   split at h1
   ·simp only[ax] at h1;subst h1
    cases hr with
    |ptr=>exact⟨_,_,w,U,by simp[ki],.inl rfl,mO,r,Frame.refl _ _ _ _⟩
   ·simp only[ax] at h1;subst h1
    cases hr with
    |func=>exact⟨_,_,w,U,by simp[ki],.inl rfl,mO,r,Frame.refl _ _ _ _⟩
   simp at h1
  simp at ha
 ·split at ha
  ·rename_i p q hp hq
   obtain⟨u,h1,h2⟩:=cZ ha
   simp only[bI] at h2;obtain⟨rfl,rfl⟩:=h2
   exact .uT r (Vf (fq ht hp) (fq ht hq) h1)
  simp at ha
 ·split at ha
  ·rename_i p hp
   obtain⟨u,h1,h2⟩:=cZ ha
   simp only[bI] at h2;obtain⟨rfl,rfl⟩:=h2
   exact .uT r (Vg (fq ht hp) h1)
  simp at ha
 ·split at ha
  ·rename_i p hp
   obtain⟨u,h1,h2⟩:=cZ ha
   simp only[bI] at h2;obtain⟨rfl,rfl⟩:=h2
   exact .uT r (Vh (fq ht hp) h1)
  simp at ha
 ·rename_i f first captured
  split at ha
  ·rename_i xs ys hx hy
   simp only[ax,bI] at ha;obtain⟨rfl,rfl⟩:=ha
   have e1:=(qa (cs:=xs.toArray) (ao:=first.map a.eval)).1 (by simpa using Db ht hx)
   have e2:=(qa (cs:=ys.toArray) (ao:=captured.map a.eval)).1 (by simpa using Db ht hy)
   exact .uT r ⟨.func (.func f) (first.map a.eval) (captured.map a.eval),by simp[Instr.makeFunc],.func f _ _ _ _ e1.1 e2.1 e1.2 e2.2⟩
  simp at ha
 ·rename_i t
  simp only[ax,bI] at ha;obtain⟨rfl,rfl⟩:=ha
  obtain⟨aN,h1,h2,h3⟩:=UZ r
  exact(dW.mk (P:=P) (s:=Instr.makeMap t none) (v':=.map (some w.heap.size)) (by simp[Instr.makeMap]) (.map _ _ _ h1) h2 h3).runs
 ·split at ha
  ·rename_i p q hp hq
   exact(Vd r (fq ht hp) (fq ht hq) ha).runs
  simp at ha
 ·split at ha
  ·rename_i p q1 q2 q3 hp JT JU zQ
   obtain⟨u,h1,h2⟩:=cZ ha
   simp only[bI] at h2;obtain⟨rfl,rfl⟩:=h2
   exact .uT r (Vn (fq ht hp) (JQ ht JT) (JQ ht JU) (JQ ht zQ) h1)
  simp at ha
 ·split at ha
  ·rename_i p hp
   obtain⟨u,h1,h2⟩:=cZ ha
   simp only[bI] at h2;obtain⟨rfl,rfl⟩:=h2
   exact .uT r (U3 (fq ht hp) h1)
  simp at ha
 ·split at ha
  ·rename_i p hp
   obtain⟨u,h1,h2⟩:=cZ ha
   simp only[bI] at h2;obtain⟨rfl,rfl⟩:=h2
   exact .uT r (U5 (fq ht hp) h1)
  simp at ha
 ·split at ha
  ·rename_i p q hp hq
   obtain⟨u,h1,h2⟩:=cZ ha
   simp only[bI] at h2;obtain⟨rfl,rfl⟩:=h2
   exact .uT r (U4 (fq ht hp) (fq ht hq) h1)
  simp at ha
 ·split at ha
  ·rename_i p q hp hq
   obtain⟨u,h1,h2⟩:=cZ ha
   simp only[bI] at h2;obtain⟨rfl,rfl⟩:=h2
   exact .uT r (U6 (fq ht hp) (fq ht hq) h1)
  simp at ha
 ·split at ha
  ·rename_i p q hp hq
   obtain⟨u,h1,h2⟩:=cZ ha
   simp only[bI] at h2;obtain⟨rfl,rfl⟩:=h2
   exact(VX r (fq ht hp) (fq ht hq) h1).runs
  simp at ha
 ·split at ha
  ·rename_i p q x hp hq hx
   obtain⟨u,h1,h2⟩:=cZ ha
   simp only[bI] at h2;obtain⟨rfl,rfl⟩:=h2
   exact .JR (ON r (fq ht hp) (fq ht hq) (fq ht hx) h1)
  simp at ha
 ·split at ha
  ·rename_i p q x hp hq hx
   obtain⟨u,h1,h2⟩:=cZ ha
   simp only[bI] at h2;obtain⟨rfl,rfl⟩:=h2
   exact .JR (ON r (fq ht hp) (fq ht hq) (fq ht hx) h1)
  simp at ha
 ·split at ha
  ·rename_i p hp
   obtain⟨u,h1,h2⟩:=cZ ha
   simp only[bI] at h2;obtain⟨rfl,rfl⟩:=h2
   exact .uT r (U7 (fq ht hp) h1)
  simp at ha
 ·rename_i b args argTypes
  split at ha
  ·rename_i l hl
   have sx:=Db ht hl
   obtain⟨s,h1,h2⟩:=VZ (ty:=o.type) (cs:=args.map fun|.const _=>true|_=>false) (au:=args.map a.eval) r (by simpa using sx) ha
   have:((do let d ← resolve a.eval { callee:=.builtin b,args:=args,argTypes:=argTypes } o.type;invoke d.target d.args):Sem Next)=(do pure (.value (← s))):=by
    rw[← h1];rfl
   simp only[this]
   exact h2.runs
  simp at ha
 simp at ha
end Go.Am
end
