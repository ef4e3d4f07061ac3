/-
 What is used in the proof of a statement (part Am1); no condition.
-/
import Derived.CallsIn
import Derived.RangeFuncIn
import Derived.OrdersIn
import Derived.Laws.World
import Derived.Laws.Cells
import Derived.Laws.IdiomCopy
import Derived.Laws.StructEq
import Derived.Laws.NewBlocks
import Derived.Laws.Append
import Derived.WideKeyRuns
set_option linter.all false
set_option maxHeartbeats 40000000
set_option maxRecDepth 100000
section
namespace Go.Am
theorem aB.{u} {α : Type u} (a b : α) : (some a = some b) = (a = b) := Option.some.injEq a b
theorem bO.{u, v} {α : Type u} {β : Type v} (a : α) (b : β) (c : α) (d : β) : ((a, b) = (c, d)) = (a = c ∧ b = d) := Prod.mk.injEq a b c d
theorem bc {n m : Nat}(h : Nat.ble n m = true) : n ≤ m := Nat.le_of_ble_eq_true h
theorem aQ.{u} {α : Sort u} {a b : α} : cond true a b = a := rfl
theorem bx.{u} {α : Sort u} {a b : α} : cond false a b = b := rfl
theorem bW (a b : Bool) : ((a && b) = true) = (a = true ∧ b = true) := Bool.and_eq_true a b
theorem v7 {n m : Nat}(h : Nat.beq n m = true) : n = m := Nat.eq_of_beq_eq_true h
class bE where
  K:Nat
  obj:Nat→Option Obj
  dr:Prop
@[reducible] def bE.no:bE:=⟨0,fun _=>none,True⟩
instance (priority:=1) T0:bE:=bE.no
variable [bE]
inductive Tr (α:Type) where
  |nil
  |node (l:Tr α) (v:Option α) (r:Tr α)
def Tr.get {α:Type}:Tr α→Nat→Option α
 |.nil,_=>none
 |.node l v r,i=>bif Nat.beq i 0 then v else bif Nat.beq (i % 2) 1 then l.get (i / 2) else r.get (i / 2 - 1)
def Tr.set {α:Type}(v:Option α):Nat→Tr α→Nat→Tr α
 |0,t,_=>t
 |n+1,.nil,i=>bif Nat.beq i 0 then .node .nil v .nil else bif Nat.beq (i % 2) 1 then .node (Tr.set v n .nil (i / 2)) none .nil else .node .nil none (Tr.set v n .nil (i / 2 - 1))
 |n+1,.node l u r,i=>bif Nat.beq i 0 then .node l v r else bif Nat.beq (i % 2) 1 then .node (Tr.set v n l (i / 2)) u r else .node l u (Tr.set v n r (i / 2 - 1))
theorem Tr.Ow {α:Type}(v:Option α):∀(n:Nat) (t:Tr α) (i j:Nat),i<n→(Tr.set v n t i).get j=if j=i then v else t.get j:=by
 intro n
 induction n with
 |zero=>intro t i j h;omega
 |succ n ih=>
  intro t i j h
  have e0:∀k:Nat,Nat.beq k 0=decide (k=0):=fun k=>by rw[Bool.eq_iff_iff];simp
  have e1:∀k:Nat,Nat.beq k 1=decide (k=1):=fun k=>by rw[Bool.eq_iff_iff];simp
  cases t with
  |nil=>
   simp only[Tr.set,e0,e1]
   by_cases h0:i=0
   ·subst h0
    simp only[decide_true,aQ,Tr.get,e0,e1]
    by_cases hj:j=0<;>simp[hj]
   by_cases h1:i % 2=1
   ·simp only[h0,h1,decide_true,decide_false,aQ,bx,Tr.get,e0,e1]
    by_cases hj:j=0
    ·have:¬j=i:=by omega
     simp[hj,Ne.symm h0]
    by_cases fh:j % 2=1
    ·simp only[hj,fh,decide_true,decide_false,aQ,bx]
     rw[ih _ _ _ (by omega)]
     by_cases kx:j=i
     ·subst kx;simp
     have:¬j / 2=i / 2:=by omega
     simp[kx,this,Tr.get]
    have:¬j=i:=by intro hh;subst hh;exact fh h1
    simp[hj,fh,this]
   simp only[h0,h1,decide_false,bx,Tr.get,e0,e1]
   by_cases hj:j=0
   ·have:¬j=i:=by omega
    simp[hj,Ne.symm h0]
   by_cases fh:j % 2=1
   ·have:¬j=i:=by intro hh;subst hh;exact h1 fh
    simp[hj,fh,this]
   simp only[hj,fh,decide_false,bx]
   rw[ih _ _ _ (by omega)]
   by_cases kx:j=i
   ·subst kx;simp
   have:¬j / 2 - 1=i / 2 - 1:=by omega
   simp[kx,this,Tr.get]
  |node l u r=>
   simp only[Tr.set,e0,e1]
   by_cases h0:i=0
   ·subst h0
    simp only[decide_true,aQ,Tr.get,e0,e1]
    by_cases hj:j=0<;>simp[hj]
   by_cases h1:i % 2=1
   ·simp only[h0,h1,decide_true,decide_false,aQ,bx,Tr.get,e0,e1]
    by_cases hj:j=0
    ·simp[hj,Ne.symm h0]
    by_cases fh:j % 2=1
    ·simp only[hj,fh,decide_true,decide_false,aQ,bx]
     rw[ih _ _ _ (by omega)]
     by_cases kx:j=i
     ·subst kx;simp
     have:¬j / 2=i / 2:=by omega
     simp[kx,this]
    have:¬j=i:=by intro hh;subst hh;exact fh h1
    simp[hj,fh,this]
   simp only[h0,h1,decide_false,bx,Tr.get,e0,e1]
   by_cases hj:j=0
   ·simp[hj,Ne.symm h0]
   by_cases fh:j % 2=1
   ·have:¬j=i:=by intro hh;subst hh;exact h1 fh
    simp[hj,fh,this]
   simp only[hj,fh,decide_false,bx]
   rw[ih _ _ _ (by omega)]
   by_cases kx:j=i
   ·subst kx;simp
   have:¬j / 2 - 1=i / 2 - 1:=by omega
   simp[kx,this]
structure Ox where
  params:Array Tmp
  assign:Code
  body:Code
  ts:List Value
  tag:Nat
inductive bn where
  |cells (s:Nat) (cs:List Value)
  |map (es:List (Value×Value))
  |emap (es:List (Value×Value)) (k:Value) (born:Nat)
  |loop (L:Ox) (jump:Option Code)
structure ai where
  next:Nat
  tr:Tr bn
def ai.get (h:ai)(o:Nat):Option bn:=bif Nat.blt o h.next then h.tr.get o else none
def ai.put (h:ai)(o:Nat)(x:Option bn):ai:=⟨h.next,h.tr.set x (o+1) o⟩
def ai.alloc (h:ai)(x:bn):ai:=⟨h.next+1,h.tr.set (some x) (h.next+1) h.next⟩
def ai.empty:ai:=⟨0,.nil⟩
theorem ai.get_eq (h:ai)(o:Nat):h.get o=if o<h.next then h.tr.get o else none:=by
 unfold ai.get
 by_cases ho:o<h.next
 ·have:Nat.blt o h.next=true:=by rw[Nat.blt_eq];exact ho
  simp[this,ho]
 have:Nat.blt o h.next=false:=by rw[← Bool.not_eq_true,Nat.blt_eq];exact ho
 simp[this,ho]
theorem ai.iE {h:ai}{o:Nat}{x:bn}(hx:h.get o=some x):o<h.next:=by
 rw[ai.get_eq] at hx
 by_cases ho:o<h.next
 ·exact ho
 simp[ho] at hx
theorem ai.eT (h:ai)(o p:Nat)(x:Option bn)(ho:o<h.next):(h.put o x).get p=if p=o then x else h.get p:=by
 simp only[ai.get_eq,ai.put]
 rw[Tr.Ow _ _ _ _ _ (by omega)]
 by_cases hp:p=o
 ·subst hp;simp[ho]
 simp[hp]
theorem ai.lf (h:ai)(p:Nat)(x:bn):(h.alloc x).get p=if p=h.next then some x else h.get p:=by
 simp only[ai.get_eq,ai.alloc]
 rw[Tr.Ow _ _ _ _ _ (by omega)]
 by_cases hp:p=h.next
 ·subst hp;simp
 by_cases hl:p<h.next
 ·have:p<h.next+1:=by omega
  simp[hp,hl,this]
 have:¬p<h.next+1:=by omega
 simp[hp,hl,this]
@[simp] theorem ai.LY (h:ai)(o:Nat)(x:Option bn):(h.put o x).next=h.next:=rfl
@[simp] theorem ai.xd5 (h:ai)(x:bn):(h.alloc x).next=h.next+1:=rfl
theorem ai.T2 (o:Nat):ai.empty.get o=none:=by simp[ai.get_eq,ai.empty]
abbrev Mu:=Nat→Option (Nat×Nat×Nat)
def aC:Nat:=4611686018427387904
def Mu.le (U ν:Mu):Prop:=∀o x,U o=some x→ν o=some x
theorem Mu.le_refl (U:Mu):U.le U:=fun _ _ h=>h
theorem Mu.le_trans {U ν ρ:Mu}(h:U.le ν)(h':ν.le ρ):U.le ρ:=fun o x hx=>h' o x (h o x hx)
def jz (C k:Nat):Nat:=if k<aC then k else C - (k - aC)
def eU:Nat:=9223372036854775808
inductive ao (U:Mu):Value→Value→Prop where
  |bool (b:Bool):ao U (.bool b) (.bool b)
  |int (k:IntKind) (n:Int):ao U (.int k n) (.int k n)
  |string (s:ByteArray):ao U (.string s) (.string s)
  |nilFunc:ao U .nilFunc .nilFunc
  |nilIface:ao U .nilIface .nilIface
  |o4:ao U (.pointer none) (.pointer none)
  |ptr (o off b a C:Nat) (h:U o=some (b,a,C)):ao U (.pointer (some ⟨o,off,none⟩)) (.pointer (some ⟨b,a+off,none⟩))
  |eX:ao U (.slice none 0 0) (.slice none 0 0)
  |slice (o off l k b a C:Nat) (h:U o=some (b,a,C)) (hl:l≤jz C k) (hk:k<eU):ao U (.slice (some ⟨o,off,none⟩) l k) (.slice (some ⟨b,a+off,none⟩) l (jz C k))
  |cj (p p':Addr) (c:Nat):ao U (.slice (some p) 0 eU) (.slice (some p') 0 c)
  |cK (p p':Addr):ao U (.slice (some p) 0 0) (.slice (some p') 0 0)
  |o5:ao U (.map none) (.map none)
  |map (o b C:Nat) (h:U o=some (b,0,C)):ao U (.map (some o)) (.map (some b))
  |func (f:FuncId) (xs ys bu eI:Array Value) (hx:xs.size=bu.size) (hy:ys.size=eI.size)
      (rx:∀(i:Nat) (h:i<xs.size) (h':i<bu.size),ao U xs[i] bu[i]) (ry:∀(i:Nat) (h:i<ys.size) (h':i<eI.size),ao U ys[i] eI[i]) :
      ao U (.func (.func f) xs ys) (.func (.func f) bu eI)
  |nC (l b C:Nat) (h:U l=some (b,0,C)):ao U (.func (.yield l) #[] #[]) (.func (.yield b) #[] #[])
  |iface (t:TypeId) (v v':Value) (h:ao U v v'):ao U (.iface t v) (.iface t v')
  |agg (cs au:Array Value) (hs:cs.size=au.size) (r:∀(i:Nat) (h:i<cs.size) (h':i<au.size),ao U cs[i] au[i]):ao U (.agg cs) (.agg au)
  |tuple (cs au:Array Value) (hs:cs.size=au.size) (r:∀(i:Nat) (h:i<cs.size) (h':i<au.size),ao U cs[i] au[i]):ao U (.tuple cs) (.tuple au)
theorem ao.mono {U ν:Mu}(hle:U.le ν){v v':Value}(h:ao U v v'):ao ν v v':=by
 induction h with
 |bool b=>exact .bool b
 |int k n=>exact .int k n
 |string s=>exact .string s
 |nilFunc=>exact .nilFunc
 |nilIface=>exact .nilIface
 |o4=>exact .o4
 |ptr o off b a C h=>exact .ptr o off b a C (hle _ _ h)
 |eX=>exact .eX
 |slice o off l k b a C h hl hk=>exact .slice o off l k b a C (hle _ _ h) hl hk
 |cj p p' c=>exact .cj p p' c
 |cK p p'=>exact .cK p p'
 |o5=>exact .o5
 |map o b C h=>exact .map o b C (hle _ _ h)
 |func f xs ys bu eI hx hy _ _ rx ry=>exact .func f xs ys bu eI hx hy rx ry
 |nC l b C h=>exact .nC l b C (hle _ _ h)
 |iface t v v' _ ih=>exact .iface t v v' ih
 |agg cs au hs _ r=>exact .agg cs au hs r
 |tuple cs au hs _ r=>exact .tuple cs au hs r
def bB (U:Mu)(l l':List Value):Prop:=l.length=l'.length∧∀(i:Nat) (v:Value),l[i]?=some v→∃v',l'[i]?=some v'∧ao U v v'
theorem bB.mono {U ν:Mu}(hle:U.le ν){l l':List Value}(h:bB U l l'):bB ν l l':=
 ⟨h.1,fun i v hv=>let ⟨v',h1,h2⟩:=h.2 i v hv;⟨v',h1,h2.mono hle⟩⟩
theorem bB.nil (U:Mu):bB U [] []:=⟨rfl,fun i v h=>by simp at h⟩
theorem bB.cons {U:Mu}{v v':Value}{l l':List Value}(hv:ao U v v')(h:bB U l l'):bB U (v::l) (v'::l'):=by
 refine⟨by simp[h.1],fun i u hu=>?_⟩
 cases i with
 |zero=>simp at hu;subst hu;exact⟨v',by simp,hv⟩
 |succ i=>simp at hu;obtain⟨u',h1,h2⟩:=h.2 i u hu;exact⟨u',by simpa using h1,h2⟩
theorem bB.lV {U:Mu}{l:List Value}(h:bB U [] l):l=[]:=by
 have:=h.1;simp at this;exact List.eq_nil_of_length_eq_zero this.symm
theorem bB.eJ {U:Mu}{v:Value}{l r:List Value}(h:bB U (v::l) r):∃v' l',r=v'::l'∧ao U v v'∧bB U l l':=by
 cases r with
 |nil=>have:=h.1;simp at this
 |cons v' l'=>
  obtain⟨u,h1,h2⟩:=h.2 0 v (by simp)
  simp at h1;subst h1
  exact⟨v',l',rfl,h2,by have:=h.1;simpa using this,fun i x hx=>by have:=h.2 (i+1) x (by simpa using hx);simpa using this⟩
theorem bB.append {U:Mu}{l l' r r':List Value}(h:bB U l l')(h2:bB U r r'):bB U (l++r) (l'++r'):=by
 refine⟨by simp[h.1,h2.1],fun i v hv=>?_⟩
 by_cases hi:i<l.length
 ·rw[List.getElem?_append_left hi] at hv
  rw[List.getElem?_append_left (by have:=h.1;omega)]
  exact h.2 i v hv
 rw[List.getElem?_append_right (by omega)] at hv
 rw[List.getElem?_append_right (by have:=h.1;omega)]
 have:=h2.2 _ v hv
 rwa [h.1] at this
theorem bB.take {U:Mu}{l l':List Value}(n:Nat)(h:bB U l l'):bB U (l.take n) (l'.take n):=by
 refine⟨by simp[h.1],fun i v hv=>?_⟩
 rw[List.getElem?_take] at hv ⊢
 split at hv
 ·rename_i a8;simp only[a8,if_true];exact h.2 i v hv
 simp at hv
theorem bB.drop {U:Mu}{l l':List Value}(n:Nat)(h:bB U l l'):bB U (l.drop n) (l'.drop n):=by
 refine⟨by simp[h.1],fun i v hv=>?_⟩
 rw[List.getElem?_drop] at hv ⊢
 exact h.2 _ v hv
theorem bB.set {U:Mu}{l l':List Value}{v v':Value}(n:Nat)(h:bB U l l')(hv:ao U v v'):bB U (l.set n v) (l'.set n v'):=by
 refine⟨by simp[h.1],fun i u hu=>?_⟩
 rw[List.getElem?_set] at hu ⊢
 by_cases hi:n=i
 ·subst hi
  simp only[if_true] at hu ⊢
  by_cases hn:n<l.length
  ·simp[hn] at hu;subst hu
   have:n<l'.length:=by have:=h.1;omega
   exact⟨v',by simp[this],hv⟩
  simp[hn] at hu
 simp only[hi,if_false] at hu ⊢
 exact h.2 i u hu
theorem uw {U:Mu}{cs au:Array Value}:bB U cs.toList au.toList↔(cs.size=au.size∧∀(i:Nat) (h:i<cs.size) (h':i<au.size),ao U cs[i] au[i]):=by
 constructor
 ·intro ⟨h1,h2⟩
  refine⟨by simpa using h1,fun i hi dB=>?_⟩
  obtain⟨v',hv,hr⟩:=h2 i cs[i] (by simp[hi])
  simp[dB] at hv
  rw[hv];exact hr
 intro ⟨h1,h2⟩
 refine⟨by simpa using h1,fun i v hv=>?_⟩
 have hi:i<cs.size:=by
  rcases Nat.lt_or_ge i cs.size with h|h
  ·exact h
  rw[List.getElem?_eq_none (by simpa using h)] at hv;simp at hv
 simp[hi] at hv
 subst hv
 exact⟨au[i],by simp[h1▸hi],h2 i hi (h1▸hi)⟩
theorem ao.lW {U:Mu}{cs au:List Value}(h:bB U cs au):ao U (.agg cs.toArray) (.agg au.toArray):=by
 have:=(uw (U:=U) (cs:=cs.toArray) (au:=au.toArray)).1 (by simpa using h)
 exact .agg _ _ this.1 this.2
theorem ao.uy {U:Mu}{cs au:List Value}(h:bB U cs au):ao U (.tuple cs.toArray) (.tuple au.toArray):=by
 have:=(uw (U:=U) (cs:=cs.toArray) (au:=au.toArray)).1 (by simpa using h)
 exact .tuple _ _ this.1 this.2
theorem ao.undef {U:Mu}:ao U Go.undef Go.undef:=.tuple #[] #[] rfl (fun i h=>by simp at h)
theorem ao.GX {U:Mu}{cs:Array Value}{v':Value}(h:ao U (.agg cs) v'):∃au,v'=.agg au∧bB U cs.toList au.toList:=by
 cases h with
 |agg _ au hs r=>exact⟨au,rfl,uw.2 ⟨hs,r⟩⟩
theorem ao.T3 {U:Mu}{cs:Array Value}{v':Value}(h:ao U (.tuple cs) v'):∃au,v'=.tuple au∧bB U cs.toList au.toList:=by
 cases h with
 |tuple _ au hs r=>exact⟨au,rfl,uw.2 ⟨hs,r⟩⟩
theorem ao.xa4 {U:Mu}{v v':Value}(h:ao U v v'):v'.oneCell'=v.oneCell':=by cases h<;>rfl
theorem ao.cells {U:Mu}{v v':Value}(h:ao U v v'):bB U v.cells.toList v'.cells.toList:=by
 cases h with
 |agg cs au hs r=>exact uw.2 ⟨hs,r⟩
 |tuple cs au hs r=>simpa[Value.cells] using bB.cons (ao.tuple cs au hs r) (bB.nil U)
 |bool b=>simpa[Value.cells] using bB.cons (ao.bool b) (bB.nil U)
 |int k n=>simpa[Value.cells] using bB.cons (ao.int k n) (bB.nil U)
 |string s=>simpa[Value.cells] using bB.cons (ao.string s) (bB.nil U)
 |nilFunc=>simpa[Value.cells] using bB.cons (ao.nilFunc) (bB.nil U)
 |nilIface=>simpa[Value.cells] using bB.cons (ao.nilIface) (bB.nil U)
 |o4=>simpa[Value.cells] using bB.cons (ao.o4) (bB.nil U)
 |ptr o off b a C h=>simpa[Value.cells] using bB.cons (ao.ptr o off b a C h) (bB.nil U)
 |eX=>simpa[Value.cells] using bB.cons (ao.eX) (bB.nil U)
 |slice o off l k b a C h hl hk=>simpa[Value.cells] using bB.cons (ao.slice o off l k b a C h hl hk) (bB.nil U)
 |cj p p' c=>simpa[Value.cells] using bB.cons (ao.cj p p' c) (bB.nil U)
 |cK p p'=>simpa[Value.cells] using bB.cons (ao.cK p p') (bB.nil U)
 |o5=>simpa[Value.cells] using bB.cons (ao.o5) (bB.nil U)
 |map o b C h=>simpa[Value.cells] using bB.cons (ao.map o b C h) (bB.nil U)
 |func f xs ys bu eI hx hy rx ry=>simpa[Value.cells] using bB.cons (ao.func f xs ys bu eI hx hy rx ry) (bB.nil U)
 |nC l b C h=>simpa[Value.cells] using bB.cons (ao.nC l b C h) (bB.nil U)
 |iface t v v' h=>simpa[Value.cells] using bB.cons (ao.iface t v v' h) (bB.nil U)
def Ez (U:Mu)(p:Value×Value)(e:MapEntry):Prop:=e.key=p.1∧ao U p.2 e.val
def jf (U:Mu)(es:List (Value×Value))(entries:Array MapEntry)(clock:Nat):Prop:=
 ∃l:List (Value×Value),l.Perm es∧(l.map (·.1)).Nodup∧l.length=entries.size∧(∀(i:Nat) p e,l[i]?=some p→entries[i]?=some e→Ez U p e)∧
  (entries.toList.map (·.born)).Pairwise (·<·)∧(∀e∈entries.toList,e.born<clock)
def iu (U:Mu)(w:World)(b a C:Nat):bn→Prop
 | .cells s cs => b < w.heap.size ∧ (∀ (i : Nat) v, cs[i]? = some v → ∃ v', w.cell? ⟨b, a + i, none⟩ = some v' ∧ ao U v v') ∧
  (0<s→cs.length≤C*s∧∀i,i<C*s→∃v',w.cell? ⟨b,a+i,none⟩=some v')
 |.map es=>a=0∧∃entries clock,w.heap[b]?=some (.map entries clock)∧jf U es entries clock
 |.emap es k born=>a=0∧∃entries clock,w.heap[b]?=some (.map entries clock)∧jf U es entries clock∧∃e∈entries.toList,e.key=k∧e.born=born
 |.loop L jump=>a=0∧∃r:Loop,w.heap[b]?=some (.loop r)∧r.state=(if jump.isNone then .ready else .done)∧r.pending=jump∧r.params=L.params∧r.assign=L.assign∧r.body=L.body∧bB U L.ts r.tmps.toList
def Bt (U:Mu)(lo:Nat)(h:ai)(b:Nat):Prop:=∃o x a C,lo≤o∧h.get o=some x∧U o=some (b,a,C)
structure Gl (U:Mu) (lo:Nat) (h:ai) (w:World):Prop where
  gl:∀b,b<bE.K→w.heap[b]?=bE.obj b
  ks:bE.K≤w.heap.size
  hi:∀o x b a C,lo≤o→h.get o=some x→U o=some (b,a,C)→bE.K≤b
theorem Gl.step {U aV:Mu}{lo gK:Nat}{h h':ai}{w w':World}(g:Gl U lo h w)(hs:w.heap.size≤w'.heap.size)(hk:∀b,b<w.heap.size→¬Bt U lo h b→w'.heap[b]?=w.heap[b]?)(ho:∀o x b a C,gK≤o→h'.get o=some x→aV o=some (b,a,C)→b<w.heap.size→Bt U lo h b):Gl aV gK h' w' where
  gl b hb:=by
    rw[hk b (Nat.lt_of_lt_of_le hb g.ks) fun⟨o,x,a,C,h1,h2,h3⟩=>by have:=g.hi o x b a C h1 h2 h3;omega]
    exact g.gl b hb
  ks:=Nat.le_trans g.ks hs
  hi o x b a C h1 h2 h3:=by
    by_cases hb:b<w.heap.size
    · obtain⟨o',x',a',C',k1,k2,k3⟩:=ho o x b a C h1 h2 h3 hb
      exact g.hi o' x' b a' C' k1 k2 k3
    have:=g.ks;omega
theorem Gl.same {U:Mu}{lo gK:Nat}{h h':ai}{w w':World}(g:Gl U lo h w)(hw:w'.heap=w.heap)(hs:∀o x,gK≤o→h'.get o=some x→lo≤o∧∃y,h.get o=some y):Gl U gK h' w':=
 g.step (by rw[hw];exact Nat.le_refl _) (fun b _ _=>by rw[hw]) fun o x b a C h1 h2 h3 _=>let ⟨k1,y,k2⟩:=hs o x h1 h2;⟨o,y,a,C,k1,k2,h3⟩
structure Rel (U:Mu) (lo:Nat) (h:ai) (w:World):Prop where
  br:∀o x,h.get o=some x→∃b a C,U o=some (b,a,C)∧iu U w b a C x
  inj:∀o o' x x' b a C a' C',lo≤o→h.get o=some x→h.get o'=some x'→U o=some (b,a,C)→U o'=some (b,a',C')→o=o'
  rm:∀o x,U o=some x→o<h.next
  fZ:∀o x b a C,lo≤o→h.get o=some x→U o=some (b,a,C)→∀off,w.frozen? ⟨b,off,none⟩=false
  bX:lo≤h.next
  mM:Gl U lo h w
structure Calm (w w':World):Prop where
  os:w'.os=w.os
  out:w'.output=w.output
  tape:w'.tape=w.tape
  drawn:bE.dr→w.drawn≤w'.drawn
theorem Calm.refl (w:World):Calm w w:=⟨rfl,rfl,rfl,fun _=>Nat.le_refl _⟩
theorem Calm.trans {a b c:World}(h:Calm a b)(g:Calm b c):Calm a c:=⟨g.1.trans h.1,g.2.trans h.2,g.3.trans h.3,fun hd=>Nat.le_trans (h.4 hd) (g.4 hd)⟩
structure Frame (lo:Nat) (U:Mu) (h:ai) (w:World) (aV:Mu) (h':ai) (w':World):Prop where
  le:U.le aV
  size:w.heap.size≤w'.heap.size
  next:h.next≤h'.next
  kept:∀b,b<w.heap.size→¬Bt U lo h b→w'.heap[b]?=w.heap[b]?
  own:∀b,b<w.heap.size→Bt aV lo h' b→Bt U lo h b
  low:∀o,o<lo→h'.get o=h.get o
  jg:∀o,o<h.next→aV o=U o
  born:∀o,o<h.next→h.get o=none→h'.get o=none
  calm:Calm w w'
theorem Frame.refl (lo:Nat)(U:Mu)(h:ai)(w:World):Frame lo U h w U h w:=⟨Mu.le_refl U,Nat.le_refl _,Nat.le_refl _,fun _ _ _=>rfl,fun _ _ h=>h,fun _ _=>rfl,fun _ _=>rfl,fun _ _ h=>h,.refl w⟩
theorem Frame.trans {lo:Nat}{U qS Dc:Mu}{h h1 h2:ai}{w w1 w2:World}(f:Frame lo U h w qS h1 w1)(g:Frame lo qS h1 w1 Dc h2 w2):Frame lo U h w Dc h2 w2 where
  le:=Mu.le_trans f.le g.le
  size:=Nat.le_trans f.size g.size
  next:=Nat.le_trans f.next g.next
  kept b hb hn:=by rw[g.kept b (Nat.lt_of_lt_of_le hb f.size) (fun ho=>hn (f.own b hb ho)),f.kept b hb hn]
  own b hb ho:=f.own b hb (g.own b (Nat.lt_of_lt_of_le hb f.size) ho)
  low o ho:=by rw[g.low o ho,f.low o ho]
  jg o ho:=by rw[g.jg o (Nat.lt_of_lt_of_le ho f.next),f.jg o ho]
  born o ho hn:=g.born o (Nat.lt_of_lt_of_le ho f.next) (f.born o ho hn)
  calm:=f.calm.trans g.calm
theorem Gl.frame {U aV:Mu}{lo:Nat}{h h':ai}{w w':World}(g:Gl U lo h w)(f:Frame lo U h w aV h' w'):Gl aV lo h' w':=
 g.step f.size f.kept fun o x b a C hl hx hm hb=>f.own b hb ⟨o,x,a,C,hl,hx,hm⟩
theorem Rel.Oy {U aV:Mu}{lo:Nat}{h h':ai}{w w':World}(r:Rel U lo h w)
 (br:∀o x,h'.get o=some x→∃b a C,aV o=some (b,a,C)∧iu aV w' b a C x)
 (inj:∀o o' x x' b a C a' C',lo≤o→h'.get o=some x→h'.get o'=some x'→aV o=some (b,a,C)→aV o'=some (b,a',C')→o=o')
 (rm:∀o x,aV o=some x→o<h'.next)
 (fZ:∀o x b a C,lo≤o→h'.get o=some x→aV o=some (b,a,C)→∀off,w'.frozen? ⟨b,off,none⟩=false)
 (bX:lo≤h'.next) (f:Frame lo U h w aV h' w'):Rel aV lo h' w'∧Frame lo U h w aV h' w':=⟨⟨br,inj,rm,fZ,bX,r.mM.frame f⟩,f⟩
theorem EA {w w':World}{b off:Nat}(h:w'.heap[b]?=w.heap[b]?):w'.cell? ⟨b,off,none⟩=w.cell? ⟨b,off,none⟩:=by
 simp[World.cell?,h]
theorem Bu {w w':World}{b off:Nat}(h:w'.heap[b]?=w.heap[b]?):w'.frozen? ⟨b,off,none⟩=w.frozen? ⟨b,off,none⟩:=by
 simp[World.frozen?,h]
theorem jf.mono {U ν:Mu}(hle:U.le ν){es:List (Value×Value)}{entries:Array MapEntry}{clock:Nat}(h:jf U es entries clock):jf ν es entries clock:=by
 obtain⟨l,h1,h0,h2,h3,h4,h5⟩:=h
 exact⟨l,h1,h0,h2,fun i p e hp he=>⟨(h3 i p e hp he).1,(h3 i p e hp he).2.mono hle⟩,h4,h5⟩
theorem iu.mono {U ν:Mu}(hle:U.le ν){w:World}{b a C:Nat}{x:bn}(h:iu U w b a C x):iu ν w b a C x:=by
 cases x with
 |cells s cs=>exact⟨h.1,fun i v hv=>let ⟨v',h1,h2⟩:=h.2.1 i v hv;⟨v',h1,h2.mono hle⟩,h.2.2⟩
 |map es=>obtain⟨h1,entries,clock,h2,h3⟩:=h;exact⟨h1,entries,clock,h2,h3.mono hle⟩
 |emap es k born=>obtain⟨h1,entries,clock,h2,h3,h4⟩:=h;exact⟨h1,entries,clock,h2,h3.mono hle,h4⟩
 |loop L jump=>obtain⟨h1,r,h2,h3,h4,h5,h6,h7,h8⟩:=h;exact⟨h1,r,h2,h3,h4,h5,h6,h7,h8.mono hle⟩
theorem iu.vy {U:Mu}{w:World}{b a C:Nat}{x:bn}(h:iu U w b a C x):b<w.heap.size:=by
 cases x with
 |cells s cs=>exact h.1
 |map es=>
  obtain⟨_,entries,clock,h2,_⟩:=h
  rcases Nat.lt_or_ge b w.heap.size with h'|h'
  ·exact h'
  simp[Array.getElem?_eq_none h'] at h2
 |emap es k born=>
  obtain⟨_,entries,clock,h2,_⟩:=h
  rcases Nat.lt_or_ge b w.heap.size with h'|h'
  ·exact h'
  simp[Array.getElem?_eq_none h'] at h2
 |loop L jump=>
  obtain⟨_,r,h2,_⟩:=h
  rcases Nat.lt_or_ge b w.heap.size with h'|h'
  ·exact h'
  simp[Array.getElem?_eq_none h'] at h2
theorem iu.kept {U:Mu}{w w':World}{b a C:Nat}{x:bn}(h:iu U w b a C x)(hb:w'.heap[b]?=w.heap[b]?):iu U w' b a C x:=by
 have a8:b<w'.heap.size:=by
  have h0:=h.vy
  rcases Nat.lt_or_ge b w'.heap.size with h'|h'
  ·exact h'
  rw[Array.getElem?_eq_none h',Array.getElem?_eq_getElem h0] at hb;simp at hb
 cases x with
 |cells s cs=>
  refine⟨a8,fun i v hv=>?_,fun hs=>⟨(h.2.2 hs).1,fun i hi=>?_⟩⟩
  ·obtain⟨v',h1,h2⟩:=h.2.1 i v hv
   exact⟨v',by rw[EA hb];exact h1,h2⟩
  obtain⟨v',h1⟩:=(h.2.2 hs).2 i hi
  exact⟨v',by rw[EA hb];exact h1⟩
 |map es=>obtain⟨h1,entries,clock,h2,h3⟩:=h;exact⟨h1,entries,clock,by rw[hb];exact h2,h3⟩
 |emap es k born=>obtain⟨h1,entries,clock,h2,h3⟩:=h;exact⟨h1,entries,clock,by rw[hb];exact h2,h3⟩
 |loop L jump=>obtain⟨h1,r,h2,h3⟩:=h;exact⟨h1,r,by rw[hb];exact h2,h3⟩
theorem Rel.sub {U:Mu}{lo gK:Nat}{h h':ai}{w:World}(r:Rel U lo h w)(hn:h.next≤h'.next)(hs:∀o x,h'.get o=some x→h.get o=some x)(cY:lo≤gK)(hl:gK≤h'.next):Rel U gK h' w where
  bX:=hl
  mM:=r.mM.same rfl fun o x h1 h2=>⟨Nat.le_trans cY h1,x,hs o x h2⟩
  br o x hx:=r.br o x (hs o x hx)
  inj o o' x x' b a C a' C' hl hx xx:=r.inj o o' x x' b a C a' C' (Nat.le_trans cY hl) (hs o x hx) (hs o' x' xx)
  rm o x hx:=Nat.lt_of_lt_of_le (r.rm o x hx) hn
  fZ o x b a C hl hx:=r.fZ o x b a C (Nat.le_trans cY hl) (hs o x hx)
theorem Rel.drew {U:Mu}{lo:Nat}{h:ai}{w:World}(r:Rel U lo h w):Rel U lo h w.drew where
  br o x hx:=let ⟨b,a,C,h1,h2⟩:=r.br o x hx;⟨b,a,C,h1,h2.kept rfl⟩
  inj:=r.inj
  rm:=r.rm
  fZ:=r.fZ
  bX:=r.bX
  mM:=r.mM.same rfl fun o x h1 h2=>⟨h1,x,h2⟩
theorem Frame.drew (lo:Nat)(U:Mu)(h:ai)(w:World):Frame lo U h w U h w.drew:=⟨Mu.le_refl U,Nat.le_refl _,Nat.le_refl _,fun _ _ _=>rfl,fun _ _ h=>h,fun _ _=>rfl,fun _ _=>rfl,fun _ _ h=>h,⟨rfl,rfl,rfl,fun _=>by first|exact Nat.le_refl _|exact Nat.le_add_right _ _|exact Nat.le_succ _⟩⟩
end Go.Am
end
section
namespace Go.Am
variable [bE]
def Mu.put (U:Mu)(o:Nat)(x:Nat×Nat×Nat):Mu:=fun p=>if p=o then some x else U p
theorem Mu.cX (U:Mu)(o:Nat)(x:Nat×Nat×Nat):U.put o x o=some x:=by simp[Mu.put]
theorem Mu.lX {U:Mu}{o p:Nat}(x:Nat×Nat×Nat)(h:p≠o):U.put o x p=U p:=by simp[Mu.put,h]
theorem Rel.T4 {U:Mu}{lo:Nat}{h:ai}{w:World}(r:Rel U lo h w){o:Nat}(ho:h.next≤o):U o=none:=by
 cases hx:U o with
 |none=>rfl
 |some x=>have:=r.rm o x hx;omega
theorem Rel.EB {U:Mu}{lo:Nat}{h:ai}{w:World}(r:Rel U lo h w)(x:Nat×Nat×Nat):U.le (U.put h.next x):=by
 intro o y hy
 have:o≠h.next:=by
  intro ho;subst ho
  rw[r.T4 (Nat.le_refl _)] at hy;simp at hy
 rw[Mu.lX _ this];exact hy
theorem heap_alloc (w:World)(o:Obj):(w.alloc o).heap=w.heap.push o:=rfl
theorem heap_alloc_old (w:World)(o:Obj){b:Nat}(hb:b<w.heap.size):(w.alloc o).heap[b]?=w.heap[b]?:=by
 have:b≠w.heap.size:=by omega
 rw[heap_alloc,Array.getElem?_push];simp[this]
theorem Oz {U:Mu}{lo:Nat}{h:ai}{w:World}(r:Rel U lo h w)(ob:Obj)(C:Nat)(x:bn)
  (hx:iu (U.put h.next (w.heap.size,0,C)) (w.alloc ob) w.heap.size 0 C x) (hf:∀off,(w.alloc ob).frozen? ⟨w.heap.size,off,none⟩=false) :
  Rel (U.put h.next (w.heap.size,0,C)) lo (h.alloc x) (w.alloc ob)∧Frame lo U h w (U.put h.next (w.heap.size,0,C)) (h.alloc x) (w.alloc ob):=by
 have hle:=r.EB (w.heap.size,0,C)
 have hold:∀o y,h.get o=some y→o≠h.next:=fun o y hy=>by have:=ai.iE hy;omega
 have hblk:∀o y b a C',h.get o=some y→U o=some (b,a,C')→b<w.heap.size:=fun o y b a C' hy hm=>by
  obtain⟨b',a',sH,h1,h2⟩:=r.br o y hy
  rw[hm] at h1;injection h1 with h1;injection h1 with h1 _;subst h1
  exact h2.vy
 constructor
 ·constructor
  ·intro o y hy
   rw[ai.lf] at hy
   by_cases ho:o=h.next
   ·subst ho
    simp at hy;subst hy
    exact⟨_,_,_,Mu.cX _ _ _,hx⟩
   simp[ho] at hy
   obtain⟨b,a,C',h1,h2⟩:=r.br o y hy
   exact⟨b,a,C',by rw[Mu.lX _ ho];exact h1,(h2.mono hle).kept (heap_alloc_old _ _ h2.vy)⟩
  ·intro o o' y y' b a C' a' sH hl hy sI hm fN
   rw[ai.lf] at hy sI
   by_cases ho:o=h.next
   ·by_cases o6:o'=h.next
    ·rw[ho,o6]
    simp[o6] at sI
    rw[Mu.lX _ o6] at fN
    have:=hblk o' y' _ _ _ sI fN
    subst ho;rw[Mu.cX] at hm;injection hm with hm;injection hm with hm _;omega
   simp[ho] at hy
   rw[Mu.lX _ ho] at hm
   have h1:=hblk o y _ _ _ hy hm
   by_cases o6:o'=h.next
   ·subst o6;rw[Mu.cX] at fN;injection fN with fN;injection fN with fN _;omega
   simp[o6] at sI
   rw[Mu.lX _ o6] at fN
   exact r.inj o o' y y' b a C' a' sH hl hy sI hm fN
  ·intro o y hy
   by_cases ho:o=h.next
   ·subst ho;simp
   rw[Mu.lX _ ho] at hy
   have:=r.rm o y hy
   simp;omega
  ·intro o y b a C' hl hy hm off
   rw[ai.lf] at hy
   by_cases ho:o=h.next
   ·subst ho
    rw[Mu.cX] at hm;injection hm with hm;injection hm with hm _;subst hm
    exact hf off
   simp[ho] at hy
   rw[Mu.lX _ ho] at hm
   rw[Bu (heap_alloc_old _ _ (hblk o y _ _ _ hy hm))]
   exact r.fZ o y b a C' hl hy hm off
  ·have:=r.bX;simp;omega
  refine r.mM.step (by simp) (fun b hb _=>heap_alloc_old _ _ hb) fun o y b a C' hl hy hm hb=>?_
  rw[ai.lf] at hy
  by_cases ho:o=h.next
  ·subst ho;rw[Mu.cX] at hm;injection hm with hm;injection hm with hm _;omega
  simp[ho] at hy
  rw[Mu.lX _ ho] at hm
  exact⟨o,y,a,C',hl,hy,hm⟩
 refine⟨hle,by simp,by simp,fun b hb _=>heap_alloc_old _ _ hb,fun b hb=>?_,fun o ho=>?_,fun o ho=>Mu.lX _ (by omega),fun o ho hn=>by rw[ai.lf,if_neg (by omega)];exact hn,⟨rfl,rfl,rfl,fun _=>by first|exact Nat.le_refl _|exact Nat.le_add_right _ _|exact Nat.le_succ _⟩⟩
 ·rintro⟨o,y,a,C',hl,hy,hm⟩
  rw[ai.lf] at hy
  by_cases ho:o=h.next
  ·subst ho;rw[Mu.cX] at hm;injection hm with hm;injection hm with hm _;omega
  simp[ho] at hy
  rw[Mu.lX _ ho] at hm
  exact⟨o,y,a,C',hl,hy,hm⟩
 rw[ai.lf]
 have:=r.bX
 have:o≠h.next:=by omega
 simp[this]
theorem T5 {U:Mu}{lo:Nat}{h:ai}{w:World}(r:Rel U lo h w)(arr:Array Value)(ty:TypeId)(s C:Nat)(cs:List Value)
  (hc:∀(i:Nat) v,cs[i]?=some v→∃v',arr[i]?=some v'∧ao U v v') (hs:0<s→cs.length≤C*s∧C*s≤arr.size) :
  ∃aV,aV h.next=some (w.heap.size,0,C)∧Rel aV lo (h.alloc (.cells s cs)) (w.alloc (.cells arr ty))∧Frame lo U h w aV (h.alloc (.cells s cs)) (w.alloc (.cells arr ty)):=by
 refine⟨U.put h.next (w.heap.size,0,C),Mu.cX _ _ _,Oz r _ C _ ?_ (fun off=>by simp)⟩
 refine⟨by simp,fun i v hv=>?_,fun h0=>⟨(hs h0).1,fun i hi=>?_⟩⟩
 ·obtain⟨v',h1,h2⟩:=hc i v hv
  exact⟨v',by simpa using h1,h2.mono (r.EB _)⟩
 have dB:i<arr.size:=Nat.lt_of_lt_of_le hi (hs h0).2
 exact⟨arr[i],by simp[dB]⟩
theorem zq8 {U:Mu}{lo:Nat}{h:ai}{w:World}(r:Rel U lo h w) :
  ∃aV,aV h.next=some (w.heap.size,0,0)∧Rel aV lo (h.alloc (.map [])) (w.alloc (.map #[] 0))∧Frame lo U h w aV (h.alloc (.map [])) (w.alloc (.map #[] 0)):=by
 refine⟨U.put h.next (w.heap.size,0,0),Mu.cX _ _ _,Oz r _ 0 _ ?_ (fun off=>?_)⟩
 ·refine⟨rfl,#[],0,by rw[heap_alloc];simp,⟨[],.nil,by simp,rfl,fun i p e h=>by simp at h,by simp,fun e h=>by simp at h⟩⟩
 simp only[World.frozen?,heap_alloc];simp
theorem OA {U:Mu}{lo:Nat}{h:ai}{w w':World}(r:Rel U lo h w){o:Nat}{x:bn}(hx:h.get o=some x)(hl:lo≤o){b a C:Nat}(hm:U o=some (b,a,C))(y:bn)
  (dU:w'.heap.size=w.heap.size) (hk:∀b',b'≠b→w'.heap[b']?=w.heap[b']?) (hy:iu U w' b a C y) (uz:∀off,w'.frozen? ⟨b,off,none⟩=false) (yg:Calm w w') :
  Rel U lo (h.put o (some y)) w'∧Frame lo U h w U (h.put o (some y)) w':=by
 have a8:=ai.iE hx
 have fO:∀p z b' a' C',h.get p=some z→U p=some (b',a',C')→p≠o→b'≠b:=fun p z b' a' C' hz fN hp hb=>by
  subst hb;exact hp (r.inj o p x z b' a C a' C' hl hx hz hm fN).symm
 constructor
 ·constructor
  ·intro p z hz
   rw[ai.eT _ _ _ _ a8] at hz
   by_cases hp:p=o
   ·subst hp;simp at hz;subst hz;exact⟨b,a,C,hm,hy⟩
   simp[hp] at hz
   obtain⟨b',a',C',h1,h2⟩:=r.br p z hz
   exact⟨b',a',C',h1,h2.kept (hk b' (fO p z b' a' C' hz h1 hp))⟩
  ·intro p p' z z' b' a' C' AF sH yh hz lY b7 gW
   rw[ai.eT _ _ _ _ a8] at hz lY
   by_cases hp:p=o
   ·by_cases vz:p'=o
    ·rw[hp,vz]
    simp[vz] at lY;subst hp
    exact r.inj p p' x z' b' a' C' AF sH yh hx lY b7 gW
   simp[hp] at hz
   by_cases vz:p'=o
   ·subst vz;exact r.inj p p' z x b' a' C' AF sH yh hz hx b7 gW
   simp[vz] at lY
   exact r.inj p p' z z' b' a' C' AF sH yh hz lY b7 gW
  ·exact fun p z hz=>r.rm p z hz
  ·intro p z b' a' C' sc hz fN off
   rw[ai.eT _ _ _ _ a8] at hz
   by_cases hp:p=o
   ·subst hp;rw[hm] at fN;injection fN with fN;injection fN with fN _;subst fN;exact uz off
   simp[hp] at hz
   rw[Bu (hk b' (fO p z b' a' C' hz fN hp))]
   exact r.fZ p z b' a' C' sc hz fN off
  ·exact r.bX
  refine r.mM.step (by omega) (fun b' _ hn=>hk b' (fun hb=>hn (hb▸⟨o,x,a,C,hl,hx,hm⟩))) fun p z b' a' C' sc hz fN _=>?_
  rw[ai.eT _ _ _ _ a8] at hz
  by_cases hp:p=o
  ·subst hp;exact⟨p,x,a',C',sc,hx,fN⟩
  simp[hp] at hz;exact⟨p,z,a',C',sc,hz,fN⟩
 refine⟨Mu.le_refl U,by omega,by simp,fun b' _ hn=>hk b' (fun hb=>hn (hb▸⟨o,x,a,C,hl,hx,hm⟩)),fun b' _=>?_,fun p hp=>?_,fun _ _=>rfl,fun p hp hn=>by rw[ai.eT _ _ _ _ a8,if_neg (by intro h;subst h;rw[hx] at hn;cases hn)];exact hn,yg⟩
 ·rintro⟨p,z,a',C',sc,hz,fN⟩
  rw[ai.eT _ _ _ _ a8] at hz
  by_cases hp:p=o
  ·subst hp;exact⟨p,x,a',C',sc,hx,fN⟩
  simp[hp] at hz;exact⟨p,z,a',C',sc,hz,fN⟩
 rw[ai.eT _ _ _ _ a8]
 have:p≠o:=by omega
 simp[this]
theorem heap_setCell_other (w:World)(a:Addr)(v:Value){b:Nat}(hb:b≠a.block):(w.setCell a v).heap[b]?=w.heap[b]?:=by
 have:a.block≠b:=fun h=>hb h.symm
 simp[World.setCell,Array.getElem?_modify,this]
theorem OB (b:Nat):∀(vs:List Value) (o:Nat) (w:World) {b':Nat},b'≠b→(w.setCells b o vs).heap[b']?=w.heap[b']?
 |[],_,_,_,_=>rfl
 |v::r,o,w,b',hb=>by
  show ((w.setCell ⟨b,o,none⟩ v).setCells b (o+1) r).heap[b']?=_
  rw[OB b r (o+1) _ hb,heap_setCell_other _ _ _ hb]
theorem Is (b:Nat):∀(vs:List Value) (o:Nat) (w:World),(w.setCells b o vs).heap.size=w.heap.size
 |[],_,_=>rfl
 |v::r,o,w=>by
  show ((w.setCell ⟨b,o,none⟩ v).setCells b (o+1) r).heap.size=_
  rw[Is b r (o+1) _];simp
def ia (cs:List Value)(off:Nat)(vs:List Value):List Value:=cs.take off++vs++cs.drop (off+vs.length)
theorem OC (cs:List Value)(off:Nat)(vs:List Value)(h:off+vs.length≤cs.length):(ia cs off vs).length=cs.length:=by
 simp[ia];omega
theorem LZ (cs:List Value)(off:Nat)(vs:List Value)(h:off+vs.length≤cs.length)(i:Nat) :
  (ia cs off vs)[i]?=if off≤i∧i<off+vs.length then vs[i - off]? else cs[i]?:=by
 unfold ia
 by_cases h1:i<off
 ·have:¬(off≤i∧i<off+vs.length):=by omega
  simp only[this,if_false]
  rw[List.append_assoc,List.getElem?_append_left (by simp;omega),List.getElem?_take];simp[h1]
 by_cases h2:i<off+vs.length
 ·have:off≤i∧i<off+vs.length:=by omega
  simp only[this,and_self,if_true]
  rw[List.append_assoc,List.getElem?_append_right (by simp;omega),List.getElem?_append_left (by simp;omega)]
  congr 1
  simp;omega
 have:¬(off≤i∧i<off+vs.length):=by omega
 simp only[this,if_false]
 rw[List.getElem?_append_right (by simp;omega),List.getElem?_drop]
 congr 1
 simp;omega
theorem OD (b:Nat):∀(vs:List Value) (o:Nat) (w:World),Calm w (w.setCells b o vs)
 |[],_,w=>.refl w
 |v::r,o,w=>Calm.trans (by unfold World.setCell;split<;>exact⟨rfl,rfl,rfl,fun _=>Nat.le_refl _⟩:Calm w (w.setCell ⟨b,o,none⟩ v)) (OD b r (o+1) _)
theorem GY {U:Mu}{lo:Nat}{h:ai}{w:World}(r:Rel U lo h w){o s:Nat}{cs:List Value}(hx:h.get o=some (.cells s cs))(hl:lo≤o){b a C:Nat}(hm:U o=some (b,a,C))
  (off:Nat) (vs oq:List Value) (hv:bB U vs oq) (hlen:off+vs.length≤cs.length) :
  Rel U lo (h.put o (some (.cells s (ia cs off vs)))) (w.setCells b (a+off) oq)∧Frame lo U h w U (h.put o (some (.cells s (ia cs off vs)))) (w.setCells b (a+off) oq):=by
 obtain⟨b',a',C',h1,h2⟩:=r.br o _ hx
 rw[hm] at h1;injection h1 with h1;injection h1 with h1 rp;injection rp with rp EC;subst h1 rp EC
 obtain⟨hb,sJ,vA⟩:=h2
 have nD:∀j,j<oq.length→(w.cell? ⟨b,a+off+j,none⟩).isSome=true:=fun j hj=>by
  have mN:off+j<cs.length:=by have:=hv.1;omega
  obtain⟨v',h3,_⟩:=sJ (off+j) cs[off+j] (by simp[mN])
  rw[show a+off+j=a+(off+j) by omega,h3];rfl
 refine OA r hx hl hm _ (Is _ _ _ _) (fun b' sK=>OB _ _ _ _ sK) ?_ (fun qq=>by rw[World.frozen?_setCells];exact r.fZ o _ b a C hl hx hm qq) (OD _ _ _ _)
 refine⟨by rw[Is];exact hb,fun i v hi=>?_,fun h0=>?_⟩
 ·rw[LZ _ _ _ hlen] at hi
  by_cases dC:off≤i∧i<off+vs.length
  ·simp only[dC,and_self,if_true] at hi
   obtain⟨v',h3,h4⟩:=hv.2 _ v hi
   have hj:i - off<oq.length:=by have:=hv.1;omega
   refine⟨v',?_,h4⟩
   have:=World.cell?_setCells_in b oq (a+off) w nD (i - off) hj
   rw[show a+off+(i - off)=a+i by omega] at this
   rw[this]
   rw[List.getElem?_eq_getElem hj] at h3
   exact h3
  simp only[dC,if_false] at hi
  obtain⟨v',h3,h4⟩:=sJ i v hi
  refine⟨v',?_,h4⟩
  rw[World.cell?_setCells_out b oq (a+off) w _ (fun _ _=>by have:=hv.1;simp;omega)]
  exact h3
 rw[OC _ _ _ hlen]
 refine⟨(vA h0).1,fun i hi=>?_⟩
 obtain⟨v',h3⟩:=(vA h0).2 i hi
 by_cases dC:off≤i∧i<off+oq.length
 ·have hj:i - off<oq.length:=by omega
  have:=World.cell?_setCells_in b oq (a+off) w nD (i - off) hj
  rw[show a+off+(i - off)=a+i by omega] at this
  exact⟨_,this⟩
 refine⟨v',?_⟩
 rw[World.cell?_setCells_out b oq (a+off) w _ (fun _ _=>by simp;omega)]
 exact h3
abbrev aL:=List Value
def xy:Value→Bool
 |.bool _|.int _ _|.string _|.nilFunc|.nilIface|.pointer none|.map none=>true
 |.slice none 0 0=>true
 |_=>false
def ot:Value→Bool
 |.agg cs=>cs.toList.all xy
 |.tuple cs=>cs.toList.all xy
 |v=>xy v
theorem ao.T6 {U:Mu}{v:Value}(h:xy v=true):ao U v v:=by
 unfold xy at h
 split at h<;>first|exact .bool _|exact .int _ _|exact .string _|exact .nilFunc|exact .nilIface|exact .o4|exact .o5|exact .eX|cases h
theorem bB.T7 {U:Mu}{l:List Value}(h:l.all xy=true):bB U l l:=
 ⟨rfl,fun i v hv=>⟨v,hv,.T6 (by rw[List.all_eq_true] at h;exact h v (List.mem_of_getElem? hv))⟩⟩
theorem ao.Bv {U:Mu}{v:Value}(h:ot v=true):ao U v v:=by
 unfold ot at h
 split at h
 ·have:=ao.lW (bB.T7 (U:=U) h);simpa using this
 ·have:=ao.uy (bB.T7 (U:=U) h);simpa using this
 exact .T6 h
def dF (ts:aL):Operand→Option Value
 |.tmp t=>some (ts.getD t Go.undef)
 |.const v=>bif ot v then some v else none
 |.func f=>some (.func (.func f) #[] #[])
 |.global _=>none
def eA (U:Mu)(ts:aL)(tmps:Array Value):Prop:=bB U ts tmps.toList
theorem eA.mono {U ν:Mu}(hle:U.le ν){ts:aL}{tmps:Array Value}(h:eA U ts tmps):eA ν ts tmps:=bB.mono hle h
theorem eA.getD {U:Mu}{ts:aL}{tmps:Array Value}(h:eA U ts tmps)(t:Nat):ao U (ts.getD t Go.undef) (tmps.getD t Go.undef):=by
 by_cases ht:t<ts.length
 ·obtain⟨v',h1,h2⟩:=h.2 t ts[t] (by simp[ht])
  have:t<tmps.size:=by have:=h.1;simp at this;omega
  simp[this] at h1
  simp[List.getD,ht,Array.getD,this,h1,h2]
 have:¬t<tmps.size:=by have:=h.1;simp at this;omega
 simp[List.getD,ht,Array.getD,this]
 exact .undef
theorem iw {U:Mu}{ts:aL}{a:Act}(h:eA U ts a.tmps){x:Operand}{v:Value}(hv:dF ts x=some v):ao U v (a.eval x):=by
 cases x with
 |tmp t=>simp only[dF,aB] at hv;subst hv;exact h.getD t
 |const u=>
  simp only[dF] at hv
  cases hs:ot u with
  |true=>simp[hs] at hv;subst hv;exact .Bv hs
  |false=>simp[hs] at hv
 |func f=>simp only[dF,aB] at hv;subst hv;exact .func f #[] #[] #[] #[] rfl rfl (fun i h=>by simp at h) (fun i h=>by simp at h)
 |global g=>simp[dF] at hv
def dH (P:Program)(t:TypeId):Option Nat:=(P.info? t).map (·.size)
def sL (P:Program)(t:TypeId):Option (List Value):=
 match (P.info? t).bind (·.zero) with
 |some v=>bif ot v then some v.cells.toList else none
 |none=>none
def bK (P:Program)(t:TypeId):Option Bool:=
 match P.underlying t with
 |some (.struct _)|some (.array _ _)=>some true
 |some _=>some false
 |none=>none
theorem qt {P:Program}{t:TypeId}{n:Nat}(h:dH P t=some n)(w:World):(sizeOf t).run P w=.ok n w:=by
 unfold dH at h
 cases hi:P.info? t with
 |none=>simp[hi] at h
 |some i=>simp[hi] at h;subst h;simp[sizeOf,typeInfo,hi]
theorem Bw {P:Program}{t:TypeId}{z:List Value}(h:sL P t=some z)(w:World):∃v,(zeroValue t).run P w=.ok v w∧v.cells.toList=z∧ot v=true:=by
 unfold sL at h
 cases hi:P.info? t with
 |none=>simp[hi] at h
 |some i=>
  simp only[hi,Option.bind_some] at h
  cases hz:i.zero with
  |none=>simp[hz] at h
  |some v=>
   simp only[hz] at h
   cases hs:ot v with
   |false=>simp[hs] at h
   |true=>simp[hs] at h;exact⟨v,by simp[zeroValue,typeInfo,hi,hz],h,hs⟩
theorem GZ {P:Program}{t:TypeId}{b:Bool}(h:bK P t=some b)(w:World):(isAgg t).run P w=.ok b w:=by
 unfold bK at h
 split at h
 ·rename_i hu;simp at h;subst h;simp[isAgg,run_underlying hu]
 ·rename_i hu;simp at h;subst h;simp[isAgg,run_underlying hu]
 ·rename_i d h1 h2 hu
  simp at h;subst h
  cases d<;>simp_all[isAgg,run_underlying hu]
 simp at h
theorem ED {U:Mu}{v:Value}(h:ot v=true):bB U v.cells.toList v.cells.toList:=(ao.Bv h).cells
def fF (P:Program)(lo:Nat)(s:Sem Value)(U:Mu)(h:ai)(w:World)(v:Value)(h':ai):Prop:=
 ∃v' w' aV,s.run P w=.ok v' w'∧ao aV v v'∧Rel aV lo h' w'∧Frame lo U h w aV h' w'
theorem fF.same {P:Program}{lo:Nat}{s:Sem Value}{U:Mu}{h:ai}{w:World}{v v':Value}(r:Rel U lo h w)(hr:s.run P w=.ok v' w)(hv:ao U v v'):fF P lo s U h w v h:=
 ⟨v',w,U,hr,hv,r,Frame.refl _ _ _ _⟩
theorem OE {P:Program}{lo:Nat}{U:Mu}{h:ai}{w:World}(r:Rel U lo h w)(t:TypeId)(arr:Array Value)(cs:List Value)(hc:bB U cs arr.toList) :
  ∃aV,(newRow t arr).run P w=.ok ⟨w.heap.size,0,none⟩ (w.alloc (.cells arr t))∧aV h.next=some (w.heap.size,0,0)∧Rel aV lo (h.alloc (.cells 0 cs)) (w.alloc (.cells arr t))∧
   Frame lo U h w aV (h.alloc (.cells 0 cs)) (w.alloc (.cells arr t)):=by
 obtain⟨aV,h1,h2,h3⟩:=T5 r arr t 0 0 cs (fun i v hv=>by obtain⟨v',h1,h2⟩:=hc.2 i v hv;exact⟨v',by simpa using h1,h2⟩) (fun h=>by omega)
 exact⟨aV,rfl,h1,h2,h3⟩
theorem T8 {P:Program}{lo:Nat}{U:Mu}{h:ai}{w:World}(r:Rel U lo h w)(t:TypeId)(v v':Value)(hv:ao U v v') :
  fF P lo (do pure (.pointer (some (← newVar t v')))) U h w (.pointer (some ⟨h.next,0,none⟩)) (h.alloc (.cells 0 v.cells.toList)):=by
 obtain⟨aV,h1,h2,h3,h4⟩:=OE (P:=P) r t v'.cells v.cells.toList hv.cells
 exact⟨_,_,aV,by simp[newVar,h1],.ptr _ 0 _ 0 0 h2,h3,h4⟩
def G0 (P:Program)(h:ai)(t:TypeId):Option (Value×ai):=
 match sL P t with
 |some z=>some (.pointer (some ⟨h.next,0,none⟩),h.alloc (.cells 0 z))
 |none=>none
theorem z0o {P:Program}{lo:Nat}{U:Mu}{h:ai}{w:World}(r:Rel U lo h w){t:TypeId}{v:Value}{h':ai}(ha:G0 P h t=some (v,h')) :
  fF P lo (Instr.alloc t true (.tuple #[])) U h w v h':=by
 unfold G0 at ha
 cases hz:sL P t with
 |none=>simp[hz] at ha
 |some z=>
  simp only[hz,aB,bO] at ha
  obtain⟨rfl,rfl⟩:=ha
  obtain⟨zv,h1,h2,h3⟩:=Bw hz w
  obtain⟨v',w',aV,h4,h5⟩:=T8 (P:=P) r t zv zv (.Bv h3)
  rw[h2] at h5
  exact⟨v',w',aV,by simpa[Instr.alloc,h1] using h4,h5⟩
def v8 (h:ai)(v:Value):Value×ai:=(.pointer (some ⟨h.next,0,none⟩),h.alloc (.cells 0 v.cells.toList))
theorem z9s {P:Program}{lo:Nat}{U:Mu}{h:ai}{w:World}(r:Rel U lo h w)(t:TypeId){v v':Value}(hv:ao U v v') :
 fF P lo (Instr.box t v') U h w (v8 h v).1 (v8 h v).2:=T8 r t v v' hv
def wa (P:Program)(h:ai)(t:TypeId)(p:Value):Option Value:=
 match p with
 |.pointer (some ⟨o,off,none⟩)=>
  match h.get o with
  |some (.cells _ cs)=>
   match bK P t with
   |some true=>
    match dH P t with
    |some n=>bif Nat.ble (off+n) cs.length then some (.agg ((cs.drop off).take n).toArray) else none
    |none=>none
   |some false=>cs[off]?
   |none=>none
  |_=>none
 |_=>none
theorem qT {U:Mu}{lo:Nat}{h:ai}{w:World}(r:Rel U lo h w){o b a C:Nat}{x:bn}(hx:h.get o=some x)(hm:U o=some (b,a,C)):iu U w b a C x:=by
 obtain⟨b',a',C',h1,h2⟩:=r.br o x hx
 rw[hm] at h1;injection h1 with h1;injection h1 with h1 rp;injection rp with rp EC;subst h1 rp EC
 exact h2
theorem wc (b a n:Nat):(⟨b,a,none⟩:Addr).add n=⟨b,a+n,none⟩:=by unfold Addr.add;split<;>simp_all
theorem L3 {U:Mu}{w:World}{b a C s:Nat}{cs:List Value}(ho:iu U w b a C (.cells s cs))(off n:Nat)(hn:off+n≤cs.length) :
  ∃au:List Value,bB U ((cs.drop off).take n) au∧au.length=n∧∀j v,au[j]?=some v→w.cell? ((⟨b,a+off,none⟩:Addr).add j)=some v:=by
 obtain⟨_,sJ,_⟩:=ho
 have hex:∀i,i<cs.length→∃v',w.cell? ⟨b,a+i,none⟩=some v'∧∀v,cs[i]?=some v→ao U v v':=fun i hi=>by
  obtain⟨v',h1,h2⟩:=sJ i cs[i] (by simp[hi])
  exact⟨v',h1,fun v hv=>by simp[hi] at hv;subst hv;exact h2⟩
 refine⟨(List.range n).map fun j=>(w.cell? ⟨b,a+off+j,none⟩).getD Go.undef,⟨by simp;omega,fun i v hv=>?_⟩,by simp,fun j v hj=>?_⟩
 ·have hi:i<n:=by
   rcases Nat.lt_or_ge i n with h|h
   ·exact h
   rw[List.getElem?_eq_none (by simp;omega)] at hv;simp at hv
  obtain⟨v',h1,h2⟩:=hex (off+i) (by omega)
  refine⟨v',by simp[hi,show a+off+i=a+(off+i) by omega,h1],h2 v ?_⟩
  rw[List.getElem?_take,if_pos hi,List.getElem?_drop] at hv
  exact hv
 have hi:j<n:=by
  rcases Nat.lt_or_ge j n with h|h
  ·exact h
  rw[List.getElem?_eq_none (by simp;omega)] at hj;simp at hj
 obtain⟨v',h1,h2⟩:=hex (off+j) (by omega)
 simp[hi] at hj
 rw[wc,← hj,show a+off+j=a+(off+j) by omega,h1]
 rfl
theorem OF {P:Program}{lo:Nat}{U:Mu}{h:ai}{w:World}(r:Rel U lo h w){t:TypeId}{p p' v:Value}(hp:ao U p p')(ha:wa P h t p=some v) :
  fF P lo (Instr.loadAt t p') U h w v h:=by
 unfold wa at ha
 split at ha
 ·rename_i o off
  cases hp with
  |ptr _ _ b a C hm=>
   split at ha
   ·rename_i s cs hx
    have ho:=qT r hx hm
    split at ha
    ·rename_i hg
     split at ha
     ·rename_i n hn
      cases hle:Nat.ble (off+n) cs.length with
      |false=>simp[hle] at ha
      |true=>
       simp only[hle,aQ,aB] at ha;subst ha
       obtain⟨au,h1,h2,h3⟩:=L3 ho off n (by simpa using hle)
       refine .same r (v':=.agg au.toArray) ?_ (.lW h1)
       have hl:=run_loadCells_list (P:=P) w _ au h3
       rw[h2] at hl
       simp[Instr.loadAt,Instr.sureAddr,loadVar,GZ hg,qt hn,hl]
     simp at ha
    ·rename_i hg
     obtain⟨v',h1,h2⟩:=ho.2.1 off v ha
     exact .same r (v':=v') (by simp[Instr.loadAt,Instr.sureAddr,loadVar,GZ hg,h1]) h2
    simp at ha
   simp at ha
 simp at ha
def G1 (P:Program)(lo:Nat)(h:ai)(t:TypeId)(p v:Value):Option ai:=
 match p with
 |.pointer (some ⟨o,off,none⟩)=>
  match h.get o,dH P t with
  |some (.cells s cs),some n=>
   bif Nat.ble lo o&&Nat.beq v.cells.toList.length n&&v.cells.toList.all (·.oneCell')&&Nat.ble (off+n) cs.length then
    some (h.put o (some (.cells s (ia cs off v.cells.toList)))) else none
  |_,_=>none
 |_=>none
theorem T9 {U:Mu}{l l':List Value}(h:bB U l l')(ha:l.all (·.oneCell')=true):∀v∈l',v.oneCell'=true:=by
 intro v hv
 obtain⟨i,hi⟩:=List.getElem?_of_mem hv
 have a8:i<l.length:=by
  have:=h.1
  rcases Nat.lt_or_ge i l.length with h'|h'
  ·exact h'
  rw[List.getElem?_eq_none (by omega)] at hi;simp at hi
 obtain⟨v',h1,h2⟩:=h.2 i l[i] (by simp[a8])
 rw[hi] at h1;injection h1 with h1;subst h1
 rw[h2.xa4]
 rw[List.all_eq_true] at ha
 exact ha _ (List.getElem_mem a8)
theorem L4 {P:Program}{lo:Nat}{U:Mu}{h:ai}{w:World}(r:Rel U lo h w){o s:Nat}{cs:List Value}(hx:h.get o=some (.cells s cs))(hl:lo≤o){b a C:Nat}(hm:U o=some (b,a,C))
  (off:Nat) (vs oq:List Value) (hv:bB U vs oq) (yj:vs.all (·.oneCell')=true) (hlen:off+vs.length≤cs.length) :
  (storeCells ⟨b,a+off,none⟩ oq).run P w=.ok () (w.setCells b (a+off) oq):=by
 have ho:=qT r hx hm
 have:=run_storeCells_cells (P:=P) b (a+off) oq 0 w (fun j hj=>by
   have mN:off+j<cs.length:=by have:=hv.1;omega
   obtain⟨v',h3,_⟩:=ho.2.1 (off+j) cs[off+j] (by simp[mN])
   rw[show a+off+0+j=a+(off+j) by omega,h3];rfl)
  (fun j hj=>r.fZ o _ b a C hl hx hm _) (T9 hv yj)
 simpa using this
theorem z4n {P:Program}{lo:Nat}{U:Mu}{h:ai}{w:World}(r:Rel U lo h w){t:TypeId}{p p' v v':Value}{h':ai}(hp:ao U p p')(hv:ao U v v')(ha:G1 P lo h t p v=some h') :
  ∃w',(Instr.storeAt t p' v').run P w=.ok () w'∧Rel U lo h' w'∧Frame lo U h w U h' w':=by
 unfold G1 at ha
 split at ha
 ·rename_i o off
  cases hp with
  |ptr _ _ b a C hm=>
   split at ha
   ·rename_i s cs n hx hn
    cases hc:(Nat.ble lo o&&Nat.beq v.cells.toList.length n&&v.cells.toList.all (·.oneCell')&&Nat.ble (off+n) cs.length) with
    |false=>rw[hc] at ha;simp at ha
    |true=>
     rw[hc] at ha
     simp only[aQ,aB] at ha;subst ha
     simp only[bW] at hc
     obtain⟨⟨⟨h1,h2⟩,h3⟩,h4⟩:=hc
     have h1:lo≤o:=by simpa using h1
     have h2:v.cells.toList.length=n:=by simpa using h2
     have h4:off+n≤cs.length:=by simpa using h4
     obtain⟨h5,h6⟩:=GY r hx h1 hm off v.cells.toList v'.cells.toList hv.cells (by omega)
     refine⟨_,?_,h5,h6⟩
     have cS:=L4 (P:=P) r hx h1 hm off _ _ hv.cells h3 (by omega)
     have dU:v'.cells.size=n:=by have:=hv.cells.1;simp at this h2;omega
     simp[Instr.storeAt,Instr.sureAddr,storeVar,qt hn,dU,cS]
   simp at ha
 simp at ha
def eo (P:Program)(s:TypeId)(f:Nat):Option (TypeId×Nat×Nat):=
 match P.underlying s with
 |some (.struct fields)=>
  match fields.toList[f]? with
  |some fd=>match dH P fd.type with
   |some n=>some (fd.type,fd.offset,n)
   |none=>none
  |none=>none
 |_=>none
theorem Ua {P:Program}{s:TypeId}{f:Nat}{ty:TypeId}{off n:Nat}(h:eo P s f=some (ty,off,n)) :
  ∃fields fd,P.underlying s=some (.struct fields)∧fields[f]?=some fd∧fd.type=ty∧fd.offset=off∧dH P fd.type=some n:=by
 unfold eo at h
 split at h
 ·rename_i fields hu
  split at h
  ·rename_i fd hf
   split at h
   ·rename_i m hm
    simp only[aB,bO] at h
    obtain⟨h1,h2,h3⟩:=h
    exact⟨fields,fd,hu,by simpa using hf,h1,h2,by rw[hm,h3]⟩
   simp at h
  simp at h
 simp at h
def G2 (P:Program)(s:TypeId)(p:Value)(f:Nat):Option Value:=
 match p,eo P s f with
 |.pointer (some ⟨o,off,none⟩),some (_,fo,n)=>bif Nat.beq n 0 then none else some (.pointer (some ⟨o,off+fo,none⟩))
 |_,_=>none
theorem zrg {P:Program}{U:Mu}{w:World}{s:TypeId}{f:Nat}{p p' v:Value}(hp:ao U p p')(ha:G2 P s p f=some v) :
  ∃v',(Instr.fieldAt s p' f).run P w=.ok v' w∧ao U v v':=by
 unfold G2 at ha
 split at ha
 ·rename_i o off ty fo n hf
  obtain⟨fields,fd,h1,h2,h3,h4,h5⟩:=Ua hf
  cases hn:Nat.beq n 0 with
  |true=>simp[hn] at ha
  |false=>
   simp only[hn,bx,aB] at ha;subst ha
   cases hp with
   |ptr _ _ b a C hm=>
    have oO:n≠0:=by intro h;subst h;simp at hn
    refine⟨_,?_,.ptr o (off+fo) b a C hm⟩
    simp[Instr.fieldAt,run_underlying h1,h2,Instr.sureAddr,fieldPlace,qt h5,oO,wc,h4,Nat.add_assoc]
 simp at ha
def jh (P:Program)(t:TypeId):Option (TypeId×Nat):=
 match P.underlying t with
 |some (.slice e)=>match dH P e with
  |some n=>some (e,n)
  |none=>none
 |_=>none
theorem xz {P:Program}{t e:TypeId}{n:Nat}(h:jh P t=some (e,n)):P.underlying t=some (.slice e)∧dH P e=some n:=by
 unfold jh at h
 split at h
 ·rename_i e' hu
  split at h
  ·rename_i m hm
   simp only[aB,bO] at h
   obtain⟨rfl,rfl⟩:=h
   exact⟨hu,hm⟩
  simp at h
 simp at h
def lg (P:Program)(t:TypeId):Option (Nat×TypeId×Nat):=
 match P.underlying t with
 |some (.array len e)=>match dH P e with
  |some n=>some (len,e,n)
  |none=>none
 |_=>none
theorem Ub {P:Program}{t e:TypeId}{len n:Nat}(h:lg P t=some (len,e,n)):P.underlying t=some (.array len e)∧dH P e=some n:=by
 unfold lg at h
 split at h
 ·rename_i l' e' hu
  split at h
  ·rename_i m hm
   simp only[aB,bO] at h
   obtain⟨rfl,rfl,rfl⟩:=h
   exact⟨hu,hm⟩
  simp at h
 simp at h
def within (i:Int)(n:Nat):Option Nat:=
 match i with
 |.ofNat k=>bif Nat.blt k n then some k else none
 |.negSucc _=>none
theorem OG {i:Int}{n k:Nat}(h:within i n=some k):i=(k:Int)∧k<n:=by
 unfold within at h
 split at h
 ·rename_i j
  cases hj:Nat.blt j n with
  |false=>simp[hj] at h
  |true=>simp[hj] at h;subst h;rw[Nat.blt_eq] at hj;exact⟨rfl,hj⟩
 simp at h
def Bx (P:Program)(t:TypeId)(x i:Value):Option Value:=
 match x,i with
 |.slice (some ⟨o,off,none⟩) len _,.int _ n=>
  match jh P t,within n len with
  |some (_,sz),some k=>some (.pointer (some ⟨o,off+k*sz,none⟩))
  |_,_=>none
 |.pointer (some ⟨o,off,none⟩),.int _ n=>
  match lg P t with
  |some (len,_,sz)=>
   match within n len with
   |some k=>some (.pointer (some ⟨o,off+k*sz,none⟩))
   |none=>none
  |none=>none
 |_,_=>none
theorem zrm {P:Program}{U:Mu}{w:World}{t:TypeId}{x x' i i' v:Value}(hx:ao U x x')(hi:ao U i i')(ha:Bx P t x i=some v) :
  ∃v',(Instr.indexAt t x' i').run P w=.ok v' w∧ao U v v':=by
 unfold Bx at ha
 split at ha
 ·rename_i o off len k kd n
  cases hi with
  |int=>
  split at ha
  ·rename_i e sz kk h1 h2
   obtain⟨h3,h4⟩:=xz h1
   obtain⟨rfl,h6⟩:=OG h2
   simp only[aB] at ha;subst ha
   cases hx with
   |slice _ _ _ _ b a C hm hl hk=>
    refine⟨_,?_,.ptr o (off+kk*sz) b a C hm⟩
    simp[Instr.indexAt,asIntOf,run_underlying h3,qt h4,wc,h6,Nat.add_assoc]
   |cj=>omega
   |cK=>omega
  simp at ha
 ·rename_i o off kd n
  cases hi with
  |int=>
  split at ha
  ·rename_i len e sz h1
   obtain⟨h3,h4⟩:=Ub h1
   split at ha
   ·rename_i kk h2
    obtain⟨rfl,h6⟩:=OG h2
    simp only[aB] at ha;subst ha
    cases hx with
    |ptr _ _ b a C hm=>
     refine⟨_,?_,.ptr o (off+kk*sz) b a C hm⟩
     simp[Instr.indexAt,asIntOf,run_underlying h3,Instr.sureAddr,qt h4,wc,h6,Nat.add_assoc]
   simp at ha
  simp at ha
 simp at ha
def apart (P:Program)(t:TypeId)(cs:List Value)(off n:Nat):Option Value:=
 match bK P t with
 |some true=>bif Nat.ble (off+n) cs.length then some (.agg ((cs.drop off).take n).toArray) else none
 |some false=>cs[off]?
 |none=>none
theorem It {P:Program}{U:Mu}{w:World}{t:TypeId}{cs au:Array Value}{off n:Nat}{v:Value}(hc:bB U cs.toList au.toList)(hn:dH P t=some n)(ha:apart P t cs.toList off n=some v) :
  ∃v',(part t au off).run P w=.ok v' w∧ao U v v':=by
 unfold apart at ha
 split at ha
 ·rename_i hg
  cases hle:Nat.ble (off+n) cs.toList.length with
  |false=>rw[hle] at ha;simp at ha
  |true=>
   rw[hle] at ha
   simp only[aQ,aB] at ha;subst ha
   refine⟨_,?_,.lW ((hc.drop off).take n)⟩
   have he:au.extract off (off+n)=((au.toList.drop off).take n).toArray:=by
    apply Array.ext'
    simp[List.extract_eq_take_drop]
   simp[part,GZ hg,qt hn,he]
 ·rename_i hg
  obtain⟨v',h1,h2⟩:=hc.2 off v ha
  have rp:au[off]?=some v':=by simpa using h1
  exact⟨v',by simp[part,GZ hg,rp],h2⟩
 simp at ha
def Iu (P:Program)(t:TypeId)(x:Value)(f:Nat):Option Value:=
 match x,eo P t f with
 |.agg cs,some (ty,off,n)=>apart P ty cs.toList off n
 |_,_=>none
theorem zzv {P:Program}{U:Mu}{w:World}{t:TypeId}{f:Nat}{x x' v:Value}(hx:ao U x x')(ha:Iu P t x f=some v) :
  ∃v',(Instr.field t x' f).run P w=.ok v' w∧ao U v v':=by
 unfold Iu at ha
 split at ha
 ·rename_i cs ty off n hf
  obtain⟨fields,fd,h1,h2,h3,h4,h5⟩:=Ua hf
  obtain⟨au,rfl,hc⟩:=hx.GX
  obtain⟨v',h6,h7⟩:=It (w:=w) hc (h3▸h5) ha
  exact⟨v',by simp[Instr.field,run_underlying h1,h2,asAgg,h3,h4,h6],h7⟩
 simp at ha
def EE (P:Program)(t:TypeId)(x i:Value):Option Value:=
 match x,i with
 |.agg cs,.int _ n=>
  match lg P t with
  |some (len,e,sz)=>
   match within n len with
   |some k=>apart P e cs.toList (k*sz) sz
   |none=>none
  |none=>none
 |.string s,.int _ n=>
  match P.underlying t,n with
  |some .string,.ofNat k=>match s.data.toList[k]? with
   |some b=>some (.int .u8 b.toNat)
   |none=>none
  |_,_=>none
 |_,_=>none
theorem zzl {P:Program}{U:Mu}{w:World}{t:TypeId}{x x' i i' v:Value}(hx:ao U x x')(hi:ao U i i')(ha:EE P t x i=some v) :
  ∃v',(Instr.index t x' i').run P w=.ok v' w∧ao U v v':=by
 unfold EE at ha
 split at ha
 ·rename_i cs kd n
  cases hi with
  |int=>
  split at ha
  ·rename_i len e sz h1
   obtain⟨h3,h4⟩:=Ub h1
   split at ha
   ·rename_i kk h2
    obtain⟨rfl,h6⟩:=OG h2
    obtain⟨au,rfl,hc⟩:=hx.GX
    obtain⟨v',h7,h8⟩:=It (w:=w) hc h4 ha
    exact⟨v',by simp[Instr.index,asIntOf,run_underlying h3,qt h4,h6,h7],h8⟩
   simp at ha
  simp at ha
 ·rename_i s kd n
  cases hi with
  |int=>
  cases hx with
  |string=>
  split at ha
  ·rename_i k hu
   split at ha
   ·rename_i b hb
    simp only[aB] at ha;subst ha
    have h1:s[k]?=some b:=by
     have a8:k<s.data.toList.length:=by
      rcases Nat.lt_or_ge k s.data.toList.length with h|h
      ·exact h
      rw[List.getElem?_eq_none h] at hb;cases hb
     have we:k<s.size:=by rw[ByteArray.size,← Array.length_toList];exact a8
     rw[getElem?_pos s k we]
     rw[List.getElem?_eq_getElem a8] at hb
     injection hb with hb
     rw[← hb]
     rfl
    refine⟨.int .u8 b.toNat,?_,.int .u8 b.toNat⟩
    have h0:(0:Int)≤Int.ofNat k:=Int.natCast_nonneg k
    have h2:(Int.ofNat k).toNat=k:=rfl
    simp only[Instr.index,asIntOf,Sem.run_bind,Sem.run_pure,Result.andThen_ok,run_underlying hu,h0,if_true,h2,h1]
   simp at ha
  simp at ha
 simp at ha
def Iv (x:Value)(i:Nat):Option Value:=
 match x with
 |.tuple vs=>vs.toList[i]?
 |_=>none
theorem ztt {P:Program}{U:Mu}{w:World}{i:Nat}{x x' v:Value}(hx:ao U x x')(ha:Iv x i=some v) :
  ∃v',(Instr.extract x' i).run P w=.ok v' w∧ao U v v':=by
 unfold Iv at ha
 split at ha
 ·obtain⟨au,rfl,hc⟩:=hx.T3
  obtain⟨v',h1,h2⟩:=hc.2 i v ha
  have rp:au[i]?=some v':=by simpa using h1
  exact⟨v',by simp[Instr.extract,rp],h2⟩
 simp at ha
def xA (place:Nat→Option (Nat×Nat)):List Value→List (Nat×Value)→Option (List Value)
 |cells,[]=>some cells
 |cells,(i,v)::rest=>
  match place i with
  |none=>none
  |some (off,size)=>
   bif Nat.beq v.cells.toList.length size&&Nat.ble (off+v.cells.toList.length) cells.length then xA place (ia cells off v.cells.toList) rest else none
theorem zmb (vs:List Value):∀(k off:Nat) (arr:Array Value),off+k+vs.length≤arr.size→
  ((vs.zipIdx k).foldl (fun cs (x:Value×Nat)=>cs.setIfInBounds (off+x.2) x.1) arr).toList=ia arr.toList (off+k) vs:=by
 induction vs with
 |nil=>intro k off arr h;simp[ia]
 |cons v r ih=>
  intro k off arr h
  simp only[List.length_cons] at h
  simp only[List.zipIdx_cons,List.foldl_cons]
  rw[ih (k+1) off _ (by simp;omega)]
  apply List.ext_getElem?
  intro j
  rw[LZ _ _ _ (by simp;omega),LZ _ _ _ (by simp;omega)]
  simp only[Array.toList_setIfInBounds,List.length_cons]
  by_cases h1:j=off+k
  ·subst h1
   have e1:¬(off+(k+1)≤off+k∧off+k<off+(k+1)+r.length):=by omega
   have e2:off+k≤off+k∧off+k<off+k+(r.length+1):=by omega
   simp only[e1,e2,and_self,if_true,if_false]
   rw[List.getElem?_set_self (by simp;omega)]
   simp
  rw[List.getElem?_set_ne (by omega)]
  by_cases h2:off+(k+1)≤j∧j<off+(k+1)+r.length
  ·have e2:off+k≤j∧j<off+k+(r.length+1):=by omega
   simp only[h2,e2,and_self,if_true]
   rw[show j - (off+k)=(j - (off+(k+1)))+1 by omega,List.getElem?_cons_succ]
  have e2:¬(off+k≤j∧j<off+k+(r.length+1)):=by omega
  simp only[h2,e2,if_false]
def ym (U:Mu)(l l':List (Nat×Value)):Prop:=l.map (·.1)=l'.map (·.1)∧bB U (l.map (·.2)) (l'.map (·.2))
theorem zyq {U:Mu}{cs au vs oq:List Value}{off:Nat}(hc:bB U cs au)(hv:bB U vs oq):bB U (ia cs off vs) (ia au off oq):=by
 unfold ia
 rw[← hv.1]
 exact((hc.take off).append hv).append (hc.drop _)
theorem L5 {U:Mu}(place:Nat→Option (Nat×Nat)):∀(l l':List (Nat×Value)) (cs:List Value) (arr:Array Value) (out:List Value),
  ym U l l'→bB U cs arr.toList→xA place cs l=some out→∃gM,Instr.fill place arr l'=some gM∧bB U out gM.toList:=by
 intro l
 induction l with
 |nil=>
  intro l' cs arr out hl hc ha
  have:l'=[]:=by have:=hl.1;simp at this;exact this
  subst this
  simp only[xA,aB] at ha;subst ha
  exact⟨arr,rfl,hc⟩
 |cons p rest ih=>
  intro l' cs arr out hl hc ha
  obtain⟨i,v⟩:=p
  cases l' with
  |nil=>have:=hl.1;simp at this
  |cons p' Iw=>
   obtain⟨i',v'⟩:=p'
   have h1:=hl.1
   simp only[List.map_cons,List.cons.injEq] at h1
   obtain⟨rfl,h1⟩:=h1
   obtain⟨u,l2,hu,hv,h2⟩:=bB.eJ (by simpa using hl.2)
   simp only[List.cons.injEq] at hu
   obtain⟨rfl,rfl⟩:=hu
   simp only[xA] at ha
   cases hp:place i with
   |none=>simp[hp] at ha
   |some q=>
    obtain⟨off,size⟩:=q
    simp only[hp] at ha
    cases yn:(Nat.beq v.cells.toList.length size&&Nat.ble (off+v.cells.toList.length) cs.length) with
    |false=>rw[yn] at ha;simp at ha
    |true=>
     rw[yn] at ha
     simp only[aQ] at ha
     simp only[bW] at yn
     have e1:v.cells.toList.length=size:=by simpa using yn.1
     have e2:off+v.cells.toList.length≤cs.length:=by simpa using yn.2
     have yo:v'.cells.toList.length=v.cells.toList.length:=hv.cells.1.symm
     have ep:arr.toList.length=cs.length:=hc.1.symm
     have hz:(v'.cells.zipIdx.foldl (fun cs (x:Value×Nat)=>cs.setIfInBounds (off+x.2) x.1) arr).toList=ia arr.toList off v'.cells.toList:=by
      have:=zmb v'.cells.toList 0 off arr (by simp at yo ep e2 ⊢;omega)
      rw[← Array.foldl_toList,Array.toList_zipIdx]
      simpa using this
     have hs:v'.cells.size=size:=by simp at yo e1 ⊢;omega
     have gq:¬(off+v'.cells.size > arr.size):=by simp at ep e2 yo;omega
     obtain⟨gM,h3,h4⟩:=ih Iw _ (v'.cells.zipIdx.foldl (fun cs (x:Value×Nat)=>cs.setIfInBounds (off+x.2) x.1) arr) out ⟨h1,h2⟩ (by rw[hz];exact zyq hc hv.cells) ha
     refine⟨gM,?_,h4⟩
     simp only[Instr.fill,hp]
     rw[if_neg (by simp[hs];omega)]
     exact h3
def G3 (P:Program):List Field→Option (List (Nat×Nat))
 |[]=>some []
 |f::fs=>match dH P f.type,G3 P fs with
  |some n,some r=>some ((f.offset,n)::r)
  |_,_=>none
theorem run_places {P:Program}{w:World}:∀ {fs:List Field} {l:List (Nat×Nat)},G3 P fs=some l→
  (fs.mapM (fun f=>(sizeOf f.type >>= fun s=>pure (f.offset,s):Sem (Nat×Nat)))).run P w=.ok l w
 |[],l,h=>by simp only[G3,aB] at h;subst h;simp only[List.mapM_nil,Sem.run_pure]
 |f::fs,l,h=>by
  simp only[G3] at h
  split at h
  ·rename_i n r h1 h2
   simp only[aB] at h;subst h
   simp only[List.mapM_cons,Sem.run_bind,qt h1,Result.andThen_ok,Sem.run_pure,run_places h2]
  simp at h
def G4 (P:Program)(t:TypeId)(parts:List (Nat×Value)):Option Value:=
 match sL P t,P.underlying t with
 |some z,some (.struct fields)=>
  match G3 P fields.toList with
  |some l=>(xA (l[·]?) z parts).map fun cs=>.agg cs.toArray
  |none=>none
 |some z,some (.array _ e)=>
  match dH P e with
  |some n=>(xA (fun i=>some (i*n,n)) z parts).map fun cs=>.agg cs.toArray
  |none=>none
 |_,_=>none
theorem z2g {P:Program}{U:Mu}{w:World}{t:TypeId}{parts:List (Nat×Value)}{cN:Array (Nat×Value)}{v:Value}(hp:ym U parts cN.toList)(ha:G4 P t parts=some v) :
  ∃v',(Instr.build t cN).run P w=.ok v' w∧ao U v v':=by
 unfold G4 at ha
 split at ha
 ·rename_i z fields hz hu
  obtain⟨zv,h1,h2,h3⟩:=Bw hz w
  split at ha
  ·rename_i l hl
   cases hf:xA (l[·]?) z parts with
   |none=>rw[hf] at ha;simp at ha
   |some cs=>
    rw[hf] at ha;simp at ha;subst ha
    obtain⟨out,h4,h5⟩:=L5 (U:=U) (l[·]?) parts cN.toList z zv.cells cs hp (h2▸ED h3) hf
    have ji:=run_places (w:=w) hl
    have uA:(fields.mapM (fun f=>(sizeOf f.type >>= fun s=>pure (f.offset,s):Sem (Nat×Nat)))).run P w=.ok l.toArray w:=by
     rw[Array.mapM_eq_mapM_toList,Sem.run_map,ji,Result.andThen_ok]
    refine⟨.agg out,?_,.agg _ _ ?_ ?_⟩
    ·have h4':Instr.fill (fun i=>l.toArray[i]?) zv.cells cN.toList=some out:=by simpa using h4
     simp only[Instr.build,Sem.run_bind,h1,Result.andThen_ok,run_underlying hu,uA,h4',Sem.run_pure]
    ·exact((uw (cs:=cs.toArray)).1 (by simpa using h5)).1
    exact((uw (cs:=cs.toArray)).1 (by simpa using h5)).2
  simp at ha
 ·rename_i z len e hz hu
  obtain⟨zv,h1,h2,h3⟩:=Bw hz w
  split at ha
  ·rename_i n hn
   cases hf:xA (fun i=>some (i*n,n)) z parts with
   |none=>rw[hf] at ha;simp at ha
   |some cs=>
    rw[hf] at ha;simp at ha;subst ha
    obtain⟨out,h4,h5⟩:=L5 (U:=U) (fun i=>some (i*n,n)) parts cN.toList z zv.cells cs hp (h2▸ED h3) hf
    refine⟨.agg out,?_,.agg _ _ ?_ ?_⟩
    ·simp[Instr.build,h1,run_underlying hu,qt hn,h4]
    ·exact((uw (cs:=cs.toArray)).1 (by simpa using h5)).1
    exact((uw (cs:=cs.toArray)).1 (by simpa using h5)).2
  simp at ha
 simp at ha
def dJ (z:List Value):Nat→List Value
 |0=>[]
 |n+1=>z++dJ z n
theorem L6 (z:List Value):∀n,(dJ z n).length=n*z.length
 |0=>by simp[dJ]
 |n+1=>by simp[dJ,L6 z n,Nat.succ_mul];omega
theorem Uc (z:List Value):∀(n i:Nat),i<n*z.length→(dJ z n)[i]?=z[i % z.length]?
 |0,i,h=>by simp at h
 |n+1,i,h=>by
  have hz:0<z.length:=by
   rcases Nat.eq_zero_or_pos z.length with h0|h0
   ·rw[h0] at h;simp at h
   exact h0
  by_cases hi:i<z.length
  ·rw[dJ,List.getElem?_append_left hi,Nat.mod_eq_of_lt hi]
  rw[dJ,List.getElem?_append_right (by omega),Uc z n (i - z.length) (by rw[Nat.succ_mul] at h;omega)]
  rw[Nat.mod_eq_sub_mod (by omega:i≥z.length)]
theorem range_zero (z:Array Value)(n:Nat):((Array.range (n*z.size)).map fun i=>z[i % z.size]!).toList=dJ z.toList n:=by
 apply List.ext_getElem?
 intro i
 by_cases hi:i<n*z.size
 ·rw[Uc _ _ _ (by simpa using hi)]
  have hz:0<z.size:=by
   rcases Nat.eq_zero_or_pos z.size with h0|h0
   ·rw[h0] at hi;simp at hi
   exact h0
  have hm:i % z.size<z.size:=Nat.mod_lt _ hz
  simp[hi,hm]
 rw[List.getElem?_eq_none (by simp;omega),List.getElem?_eq_none (by rw[L6];simp;omega)]
theorem G5 {U:Mu}{z z':List Value}(h:bB U z z'):∀n,bB U (dJ z n) (dJ z' n)
 |0=>bB.nil U
 |n+1=>h.append (G5 h n)
def G6 (P:Program)(h:ai)(t:TypeId)(len:Nat)(parts:List (Nat×Value)):Option (Value×ai):=
 match jh P t with
 |some (e,n)=>
  match sL P e with
  |some z=>
   bif Nat.beq z.length n&&Nat.ble (len*n) 16777216&&Nat.blt 0 n then
    match xA (fun i=>some (i*n,n)) (dJ z len) parts with
    |some cs=>some (.slice (some ⟨h.next,0,none⟩) len len,h.alloc (.cells 0 cs))
    |none=>none
   else none
  |none=>none
 |none=>none
theorem rq {C k:Nat}(h:k<aC):jz C k=k:=by simp[jz,h]
theorem zo1 {P:Program}{lo:Nat}{U:Mu}{h:ai}{w:World}(r:Rel U lo h w){t:TypeId}{len:Nat}{parts:List (Nat×Value)}{cN:Array (Nat×Value)}{v:Value}{h':ai}
  (hp:ym U parts cN.toList) (ha:G6 P h t len parts=some (v,h')):fF P lo (Instr.buildSlice t len cN) U h w v h':=by
 unfold G6 at ha
 split at ha
 ·rename_i e n he
  obtain⟨hu,hn⟩:=xz he
  split at ha
  ·rename_i z hz
   obtain⟨zv,h1,h2,h3⟩:=Bw hz w
   cases hc:(Nat.beq z.length n&&Nat.ble (len*n) 16777216&&Nat.blt 0 n) with
   |false=>rw[hc] at ha;simp at ha
   |true=>
    rw[hc] at ha
    simp only[aQ] at ha
    simp only[bW] at hc
    obtain⟨⟨jI,jk⟩,lh⟩:=hc
    have jI:z.length=n:=by simpa using jI
    have jk:len*n≤16777216:=by simpa using jk
    have lh:0<n:=by rw[Nat.blt_eq] at lh;exact lh
    split at ha
    ·rename_i cs hf
     simp only[aB,bO] at ha
     obtain⟨rfl,rfl⟩:=ha
     have Dd:zv.cells.size=n:=by rw[← jI,← h2];simp
     have hlen:len≤16777216:=Nat.le_trans (Nat.le_mul_of_pos_right len lh) jk
     have uB:bB U (dJ z len) ((Array.range (len*n)).map (zv.cells[· % zv.cells.size]!)).toList:=by
      have:=range_zero zv.cells len
      rw[Dd] at this ⊢
      rw[this,h2]
      exact G5 (h2▸ED h3) len
     obtain⟨out,h4,h5⟩:=L5 (U:=U) (fun i=>some (i*n,n)) parts cN.toList (dJ z len) _ cs hp uB hf
     obtain⟨aV,h6,h7,h8,h9⟩:=OE (P:=P) r e out cs h5
     have iJ:len=jz 0 len:=by rw[rq];unfold aC;omega
     refine⟨.slice (some ⟨w.heap.size,0,none⟩) len len,_,aV,?_,?_,h8,h9⟩
     ·have iK:¬(len*n > 2 ^ 24):=by omega
      by_cases h0:len*n=0
      ·have nf:len=0:=by
        rcases Nat.mul_eq_zero.1 h0 with h|h
        ·exact h
        omega
       subst nf
       have qU:Array.range 0=#[]:=rfl
       rw[Nat.zero_mul,qU] at h4
       simp only[List.map_toArray,List.map_nil] at h4
       simp[Instr.buildSlice,run_underlying hu,qt hn,qU,h4,h6]
      simp[Instr.buildSlice,run_underlying hu,qt hn,iK,h0,h1,h4,h6]
     have:=ao.slice h.next 0 len len w.heap.size 0 0 h7 (Nat.le_of_eq iJ) (by unfold eU;omega)
     rwa [← iJ] at this
    simp at ha
  simp at ha
 simp at ha
def G7 (P:Program)(h:ai)(t:TypeId)(l c:Value):Option (Value×ai):=
 match l,c,jh P t with
 |.int .i64 (.ofNat l),.int .i64 (.ofNat c),some (e,n)=>
  match sL P e,(P.info? e).map (·.bytes) with
  |some z,some bytes=>
   bif Nat.beq z.length n&&Nat.ble l c&&Nat.ble (bytes*c) 281474976710656&&Nat.blt 0 n&&Nat.ble c 281474976710656 then
    some (.slice (some ⟨h.next,0,none⟩) l c,h.alloc (.cells 0 (dJ z c)))
   else none
  |_,_=>none
 |_,_,_=>none
theorem L7 {n:Nat}(h:n≤281474976710656):IntKind.i64.wrap (n:Int)=n:=by
 simp[IntKind.wrap,IntKind.signed,IntKind.bits]
 omega
theorem zrq {P:Program}{lo:Nat}{U:Mu}{h:ai}{w:World}(r:Rel U lo h w){t:TypeId}{l l' c c':Value}{v:Value}{h':ai}
  (hl:ao U l l') (jn:ao U c c') (ha:G7 P h t l c=some (v,h')):fF P lo (Instr.makeSlice t l' c') U h w v h':=by
 unfold G7 at ha
 split at ha
 ·rename_i l c e n he
  cases hl with
  |int=>
  cases jn with
  |int=>
  obtain⟨hu,hn⟩:=xz he
  split at ha
  ·rename_i z bytes hz hb
   obtain⟨zv,h1,h2,h3⟩:=Bw hz w
   cases hc:(Nat.beq z.length n&&Nat.ble l c&&Nat.ble (bytes*c) 281474976710656&&Nat.blt 0 n&&Nat.ble c 281474976710656) with
   |false=>rw[hc] at ha;simp at ha
   |true=>
    rw[hc] at ha
    simp only[aQ,aB,bO] at ha
    obtain⟨rfl,rfl⟩:=ha
    simp only[bW] at hc
    obtain⟨⟨⟨⟨jI,jk⟩,lh⟩,EF⟩,EG⟩:=hc
    have jI:z.length=n:=by simpa using jI
    have jk:l≤c:=by simpa using jk
    have lh:bytes*c≤281474976710656:=by simpa using lh
    have EF:0<n:=by rw[Nat.blt_eq] at EF;exact EF
    have EG:c≤281474976710656:=by simpa using EG
    have Dd:zv.cells.size=n:=by rw[← jI,← h2];simp
    have By:IntKind.i64.wrap (c:Int)=c:=L7 EG
    have qV:IntKind.i64.wrap (l:Int)=l:=L7 (by omega)
    have uB:bB U (dJ z c) ((Array.range (c*n)).map (zv.cells[· % zv.cells.size]!)).toList:=by
     have:=range_zero zv.cells c
     rw[Dd] at this ⊢
     rw[this,h2]
     exact G5 (h2▸ED h3) c
    obtain⟨aV,h6,h7,h8,h9⟩:=OE (P:=P) r e _ _ uB
    have iJ:c=jz 0 c:=by rw[rq];unfold aC;omega
    refine⟨.slice (some ⟨w.heap.size,0,none⟩) l c,_,aV,?_,?_,h8,h9⟩
    ·cases hi:P.info? e with
     |none=>simp[hi] at hb
     |some i=>
      simp only[hi,Option.map_some,aB] at hb
      subst hb
      have EH:(typeInfo e).run P w=.ok i w:=by simp[typeInfo,hi]
      have Ix:¬((281474976710656:Int)<(i.bytes:Int)*(c:Int)):=by
       have:((i.bytes*c:Nat):Int)≤((281474976710656:Nat):Int):=Int.ofNat_le.2 lh
       rw[Int.natCast_mul] at this
       exact Int.not_lt.2 this
      have De:¬((c:Int)<(l:Int)):=by omega
      by_cases h0:c*n=0
      ·have yp:c=0:=by
        rcases Nat.mul_eq_zero.1 h0 with h|h
        ·exact h
        omega
       subst yp
       have nf:l=0:=by omega
       subst nf
       have qU:Array.range 0=#[]:=rfl
       have xB:IntKind.i64.wrap 0=0:=by decide
       rw[Nat.zero_mul,qU] at h6
       simp only[Array.map_empty] at h6
       simp[Instr.makeSlice,run_underlying hu,asInt,asIntOf,EH,qt hn,xB,qU,h6]
      simp[Instr.makeSlice,run_underlying hu,asInt,asIntOf,EH,qt hn,By,qV,De,h0,h1,h6]
      rintro ((hh|hh)|hh)
      ·omega
      ·exact absurd hh Ix
      omega
    have:=ao.slice h.next 0 l c w.heap.size 0 0 h7 (by rw[← iJ];exact jk) (by unfold eU;omega)
    rwa [← iJ] at this
  simp at ha
 simp at ha
def dK (op:BinOp)(k:IntKind)(a b:Int):Option Value:=
 match op with
 |.add=>some (.int k (k.wrap (a+b)))
 |.sub=>some (.int k (k.wrap (a - b)))
 |.mul=>some (.int k (k.wrap (a*b)))
 |.quo=>bif decide (b=0) then none else some (.int k (k.wrap (a.tdiv b)))
 |.rem=>bif decide (b=0) then none else some (.int k (a.tmod b))
 |.and=>some (.int k (k.wrap (BitVec.ofInt k.bits a &&& BitVec.ofInt k.bits b).toNat))
 |.or=>some (.int k (k.wrap (BitVec.ofInt k.bits a ||| BitVec.ofInt k.bits b).toNat))
 |.xor=>some (.int k (k.wrap (BitVec.ofInt k.bits a ^^^ BitVec.ofInt k.bits b).toNat))
 |.andNot=>some (.int k (k.wrap (BitVec.ofInt k.bits a &&& ~~~ BitVec.ofInt k.bits b).toNat))
 |.eql=>some (.bool (a==b))
 |.neq=>some (.bool (a != b))
 |.lss=>some (.bool (decide (a<b)))
 |.leq=>some (.bool (decide (a≤b)))
 |.gtr=>some (.bool (decide (a > b)))
 |.geq=>some (.bool (decide (a≥b)))
 |_=>none
def jY (op:BinOp)(k:IntKind)(a b:Int):Option Value:=
 match op with
 |.shl=>bif decide (b<0) then none else some (.int k (k.wrap (a*2 ^ min b.toNat k.bits)))
 |.shr=>bif decide (b<0) then none else some (.int k (a.fdiv (2 ^ min b.toNat k.bits)))
 |_=>none
def Df (P:Program)(t:TypeId)(a b:Value):Option Bool:=
 match P.underlying t,a,b with
 |some (.int _),.int k x,.int k' y=>bif decide (k=k') then some (x==y) else none
 |some .bool,.bool x,.bool y=>some (x==y)
 |some .string,.string x,.string y=>some (x.toList==y.toList)
 |_,_,_=>none
def wg (P:Program)(xs ys:List Value):List Field→Option Bool
 |[]=>some true
 |f::fs=>
  bif f.name == "_" then wg P xs ys fs else
  match dH P f.type with
  |some n=>
   match apart P f.type xs f.offset n,apart P f.type ys f.offset n with
   |some a,some b=>
    match Df P f.type a b with
    |some true=>wg P xs ys fs
    |some false=>some false
    |none=>none
   |_,_=>none
  |none=>none
def eB (P:Program)(t:TypeId)(a b:Value):Option Bool:=
 match a,b with
 |.bool x,.bool y=>match P.underlying t with|some .bool=>some (x==y)|_=>none
 |.pointer none,.pointer none=>match P.underlying t with|some (.pointer _)=>some true|_=>none
 |.pointer none,.pointer (some _)=>match P.underlying t with|some (.pointer _)=>some false|_=>none
 |.pointer (some _),.pointer none=>match P.underlying t with|some (.pointer _)=>some false|_=>none
 |.slice none _ _,.slice none _ _=>match P.underlying t with|some (.slice _)=>some true|_=>none
 |.slice none _ _,.slice (some _) _ _=>match P.underlying t with|some (.slice _)=>some false|_=>none
 |.slice (some _) _ _,.slice none _ _=>match P.underlying t with|some (.slice _)=>some false|_=>none
 |.agg xs,.agg ys=>
  match P.underlying t with
  |some (.struct fs)=>bif P.stoodInHeld t||P.eqGuardType P.depth t then none else wg P xs.toList ys.toList fs.toList
  |_=>none
 |_,_=>none
def Iy (op:BinOp)(x y:ByteArray):Option Value:=
 match op with
 |.eql=>some (.bool (x.toList==y.toList))
 |.neq=>some (.bool !(x.toList==y.toList))
 |.lss=>some (.bool (Op.bytesLess x.toList y.toList))
 |.add=>bif Nat.ble (x.size+y.size) 4611686018427387904 then some (.string (x++y)) else none
 |_=>none
def iL (P:Program)(op:BinOp)(t:TypeId)(a b:Value):Option Value:=
 match op,a,b with
 |.shl,.int k x,.int _ y=>jY .shl k x y
 |.shr,.int k x,.int _ y=>jY .shr k x y
 |op,.int k x,.int k' y=>bif decide (k=k') then dK op k x y else none
 |op,.string x,.string y=>Iy op x y
 |.eql,x,y=>(eB P t x y).map .bool
 |.neq,x,y=>(eB P t x y).map fun r=>.bool !r
 |_,_,_=>none
theorem z4z {P:Program}{w:World}{op:BinOp}{t:TypeId}{k:IntKind}{x y:Int}{v:Value}(h:dK op k x y=some v) :
    (binOp op t (.int k x) (.int k y)).run P w=.ok v w:=by
  cases op<;>simp only[dK,aB,reduceCtorEq] at h
  all_goals first
    |(subst h;simp[binOp,Op.intArith,Op.intBits,Op.intCmp];done)
    | (cases hb : decide (y = 0) with
       |true=>rw[hb] at h;simp at h
       |false=>rw[hb] at h;simp at h;simp at hb;subst h;simp[binOp,Op.intDiv,hb])
theorem Ud {P:Program}{w:World}{U:Mu}{t:TypeId}{d:Nat}{a b a' b':Value}{r:Bool}(ha:ao U a a')(hb:ao U b b')(h:Df P t a b=some r) :
  (Op.equalIn (d+1) t a' b').run P w=.ok r w:=by
 unfold Df at h
 split at h
 ·rename_i k0 k x k' y hu
  cases ha;cases hb
  cases hk:decide (k=k') with
  |false=>rw[hk] at h;simp at h
  |true=>rw[hk] at h;simp at h hk;subst hk h;exact run_equalIn_int w d t k k0 x y hu
 ·rename_i hu;cases ha;cases hb;simp at h;subst h;exact run_equalIn_bool' w d t _ _ hu
 ·rename_i hu;cases ha;cases hb;simp at h;subst h;exact run_equalIn_string w d t _ _ hu
 simp at h
theorem OH {P:Program}{w:World}{U:Mu}{d:Nat}{xs ys bu eI:Array Value}(hx:bB U xs.toList bu.toList)(hy:bB U ys.toList eI.toList):∀ {fs:List Field} {r:Bool},
  wg P xs.toList ys.toList fs=some r→(Op.eqFields (d+1) bu eI fs).run P w=.ok r w
 |[],r,h=>by simp[wg] at h;subst h;simp[Op.eqFields]
 |f::fs,r,h=>by
  simp only[wg] at h
  cases hn:(f.name == "_") with
  |true=>
   rw[hn] at h
   simp only[aQ] at h
   have oO:f.name = "_" := by simpa using hn
   simp only[Op.eqFields,oO,ne_eq,not_true,if_false]
   exact OH hx hy h
  |false=>
   rw[hn] at h
   simp only[bx] at h
   have oO:f.name ≠ "_" := by simpa using hn
   simp only[Op.eqFields,oO,ne_eq,not_false_eq_true,if_true]
   split at h
   ·rename_i n dU
    split at h
    ·rename_i a b h1 h2
     obtain⟨a',h3,h4⟩:=It (w:=w) hx dU h1
     obtain⟨b',h5,h6⟩:=It (w:=w) hy dU h2
     split at h
     ·rename_i h7
      have h8:=Ud (P:=P) (w:=w) (d:=d) h4 h6 h7
      simp only[Sem.run_bind,h3,h5,h8,Result.andThen_ok,Bool.not_true,Bool.false_eq_true,if_false]
      exact OH hx hy h
     ·rename_i h7
      simp only[aB] at h;subst h
      have h8:=Ud (P:=P) (w:=w) (d:=d) h4 h6 h7
      simp only[Sem.run_bind,h3,h5,h8,Result.andThen_ok,Bool.not_false,if_true,Sem.run_pure]
     simp at h
    simp at h
   simp at h
theorem EI {P:Program}{w:World}{t:TypeId}{x y:Value}{r:Result Bool}(h:∀d,(Op.equalIn (d+1) t x y).run P w=r):(Op.equal t x y).run P w=r:=h 9999
theorem OI {P:Program}{w:World}{U:Mu}{t:TypeId}{a b a' b':Value}{r:Bool}(ha:ao U a a')(hb:ao U b b')(h:eB P t a b=some r) :
    (Op.equal t a' b').run P w=.ok r w∧(∀op x y,(eqGuard op t x y a' b').run P w=.ok () w)∧
      (∀op,(∀k x k' y,¬(a'=.int k x∧b'=.int k' y))∧(∀x y,¬(a'=.string x∧b'=.string y))∧(op=BinOp.eql→binOp op t a' b'=(do pure (.bool (← Op.equal t a' b'))))∧(op=BinOp.neq→binOp op t a' b'=(do pure (.bool (!(← Op.equal t a' b')))))):=by
  have lZ:∀(op:BinOp) (x y:Operand) (u v:Value),(∀xs ys,¬(u=.agg xs∧v=.agg ys))→¬(u=.nilIface∧v=.nilIface)→(eqGuard op t x y u v).run P w=.ok () w:=by
    intro op x y u v h1 h2
    cases op<;>simp only[eqGuard]<;>simp
    all_goals (cases u<;>cases v<;>simp_all)
  unfold eB at h
  split at h
  · cases ha;cases hb
    split at h
    · rename_i hu;simp at h;subst h
      exact⟨EI fun d=>run_equalIn_bool' w d t _ _ hu,fun op x y=>lZ op x y _ _ (by simp) (by simp),fun op=>⟨by simp,by simp,by rintro rfl;rfl,by rintro rfl;rfl⟩⟩
    simp at h
  · cases ha;cases hb
    split at h
    · rename_i hu;simp at h;subst h
      exact⟨EI fun d=>by simp[Op.equalIn,run_underlying hu],fun op x y=>lZ op x y _ _ (by simp) (by simp),fun op=>⟨by simp,by simp,by rintro rfl;rfl,by rintro rfl;rfl⟩⟩
    simp at h
  · cases ha;cases hb
    split at h
    · rename_i hu;simp at h;subst h
      exact⟨EI fun d=>by simp[Op.equalIn,run_underlying hu],fun op x y=>lZ op x y _ _ (by simp) (by simp),fun op=>⟨by simp,by simp,by rintro rfl;rfl,by rintro rfl;rfl⟩⟩
    simp at h
  · cases ha;cases hb
    split at h
    · rename_i hu;simp at h;subst h
      exact⟨EI fun d=>by simp[Op.equalIn,run_underlying hu],fun op x y=>lZ op x y _ _ (by simp) (by simp),fun op=>⟨by simp,by simp,by rintro rfl;rfl,by rintro rfl;rfl⟩⟩
    simp at h
  · cases ha;cases hb
    split at h
    · rename_i hu;simp at h;subst h
      exact⟨EI fun d=>by simp[Op.equalIn,run_underlying hu],fun op x y=>lZ op x y _ _ (by simp) (by simp),fun op=>⟨by simp,by simp,by rintro rfl;rfl,by rintro rfl;rfl⟩⟩
    simp at h
  · cases ha
    cases hb<;>
    (split at h
     · rename_i hu;simp at h;subst h
       exact⟨EI fun d=>by simp[Op.equalIn,run_underlying hu],fun op x y=>lZ op x y _ _ (by simp) (by simp),fun op=>⟨by simp,by simp,by rintro rfl;rfl,by rintro rfl;rfl⟩⟩
     simp at h)
  · cases hb
    cases ha<;>
    (split at h
     · rename_i hu;simp at h;subst h
       exact⟨EI fun d=>by simp[Op.equalIn,run_underlying hu],fun op x y=>lZ op x y _ _ (by simp) (by simp),fun op=>⟨by simp,by simp,by rintro rfl;rfl,by rintro rfl;rfl⟩⟩
     simp at h)
  · rename_i xs ys
    obtain⟨bu,rfl,hx⟩:=ha.GX
    obtain⟨eI,rfl,hy⟩:=hb.GX
    split at h
    · rename_i fs hu
      cases hc:(P.stoodInHeld t||P.eqGuardType P.depth t) with
      |true=>rw[hc] at h;simp at h
      | false =>
        rw[hc] at h
        simp only[bx] at h
        simp only[Bool.or_eq_false_iff] at hc
        have Bz:P.fieldsOf t=fs:=by simp[Program.fieldsOf,hu]
        refine⟨?_,fun op x y=>run_eqGuard_agg w op t x y bu eI hc.2,fun op=>⟨by simp,by simp,by rintro rfl;rfl,by rintro rfl;rfl⟩⟩
        have hq:=run_equalIn_agg w 9999 t bu eI (by rw[Bz];exact hu) hc.1
        rw[Bz,OH (d:=9998) hx hy h] at hq
        exact hq
    simp at h
  simp at h
theorem z2f {P:Program}{U:Mu}{w:World}{op:BinOp}{t:TypeId}{x y:Operand}{a a' b b' v:Value}(ha:ao U a a')(hb:ao U b b')(h:iL P op t a b=some v) :
    ∃v',(do eqGuard op t x y a' b';binOp op t a' b':Sem Value).run P w=.ok v' w∧ao U v v':=by
  have gi:∀(op:BinOp) (k k':IntKind) (m n:Int),(eqGuard op t x y (.int k m) (.int k' n)).run P w=.ok () w:=by
    intro op k k' m n;cases op<;>simp[eqGuard]
  have gs:∀(op:BinOp) (m n:ByteArray),(eqGuard op t x y (.string m) (.string n)).run P w=.ok () w:=by
    intro op m n;cases op<;>simp[eqGuard]
  unfold iL at h
  split at h
  · cases ha;cases hb
    rename_i k m _ n
    simp only[jY] at h
    cases hc:decide (n<0) with
    |true=>rw[hc] at h;simp at h
    | false =>
      rw[hc] at h;simp only[bx,aB] at h;subst h
      have L8:¬n<0:=by simpa using hc
      exact⟨_,by simp[gi,binOp,Op.shift,L8],.int _ _⟩
  · cases ha;cases hb
    rename_i k m _ n
    simp only[jY] at h
    cases hc:decide (n<0) with
    |true=>rw[hc] at h;simp at h
    | false =>
      rw[hc] at h;simp only[bx,aB] at h;subst h
      have L8:¬n<0:=by simpa using hc
      exact⟨_,by simp[gi,binOp,Op.shift,L8],.int _ _⟩
  · cases ha;cases hb
    rename_i k m k' n _ _
    cases hk:decide (k=k') with
    |false=>rw[hk] at h;simp at h
    | true =>
      rw[hk] at h;simp only[aQ] at h;simp at hk;subst hk
      have:=z4z (P:=P) (w:=w) (t:=t) h
      refine⟨v,by simp[gi,this],?_⟩
      cases op<;>simp only[dK,aB,reduceCtorEq] at h
      all_goals first
        |(subst h;first|exact .int _ _|exact .bool _)
        | (cases hb : decide (n = 0) with
           |true=>rw[hb] at h;simp at h
           |false=>rw[hb] at h;simp at h;subst h;exact .int _ _)
  · cases ha;cases hb
    rename_i m n
    cases op<;>simp only[Iy,aB,reduceCtorEq] at h
    all_goals first
      |(subst h;exact⟨_,by simp[gs,binOp,Op.stringOp],.bool _⟩)
      | (cases hc : Nat.ble (m.size + n.size) 4611686018427387904 with
         |false=>rw[hc] at h;simp at h
         | true =>
           rw[hc] at h;simp only[aQ,aB] at h;subst h
           have L8:m.size+n.size≤4611686018427387904:=by simpa using hc
           have lj:¬(((m.size+n.size:Nat):Int) > IntKind.i64.max):=by
             have:IntKind.i64.max=9223372036854775807:=by decide
             rw[this];omega
           exact⟨.string (m++n),by simp only[Sem.run_bind,gs,Result.andThen_ok,binOp,Op.stringOp];rw[if_neg lj];rfl,.string _⟩)
  · rename_i h1 h2
    cases hq:eB P t a b with
    |none=>rw[hq] at h;simp at h
    | some r =>
      rw[hq] at h;simp at h;subst h
      obtain⟨e1,e2,e3⟩:=OI (w:=w) ha hb hq
      refine⟨.bool r,?_,.bool r⟩
      rw[Sem.run_bind,e2,Result.andThen_ok,(e3 .eql).2.2.1 rfl]
      simp[e1]
  · rename_i h1 h2
    cases hq:eB P t a b with
    |none=>rw[hq] at h;simp at h
    | some r =>
      rw[hq] at h;simp at h;subst h
      obtain⟨e1,e2,e3⟩:=OI (w:=w) ha hb hq
      refine⟨.bool !r,?_,.bool _⟩
      rw[Sem.run_bind,e2,Result.andThen_ok,(e3 .neq).2.2.2 rfl]
      simp[e1]
  simp at h
def jO (op:UnOp)(x:Value):Option Value:=
 match op,x with
 |.neg,.int k n=>some (.int k (k.wrap (0 - n)))
 |.not,.bool b=>some (.bool !b)
 |_,_=>none
theorem z6m {P:Program}{U:Mu}{w:World}{op:UnOp}{a a' v:Value}(ha:ao U a a')(h:jO op a=some v):∃v',(Op.unary op a').run P w=.ok v' w∧ao U v v':=by
 unfold jO at h
 split at h
 ·cases ha;simp only[aB] at h;subst h;exact⟨_,by simp[Op.unary,Op.intArith],.int _ _⟩
 ·cases ha;simp only[aB] at h;subst h;exact⟨_,by simp[Op.unary],.bool _⟩
 simp at h
def jP (P:Program)(s d:TypeId)(x:Value):Option Value:=
 match P.underlying s,P.underlying d,x with
 |some (.int _),some (.int k),.int _ n=>some (.int k (k.wrap n))
 |some .string,some .string,.string s=>some (.string s)
 |_,_,_=>none
theorem zvs {P:Program}{U:Mu}{w:World}{s d:TypeId}{a a' v:Value}(ha:ao U a a')(h:jP P s d a=some v):∃v',(convert s d a').run P w=.ok v' w∧ao U v v':=by
 unfold jP at h
 split at h
 ·rename_i h1 h2
  cases ha;simp only[aB] at h;subst h
  exact⟨_,by simp[convert,run_underlying h1,run_underlying h2,Conv.intToInt],.int _ _⟩
 ·rename_i h1 h2
  cases ha;simp only[aB] at h;subst h
  exact⟨_,by simp[convert,run_underlying h1,run_underlying h2],.string _⟩
 simp at h
def G8 (x:Value):Option Value:=
 match x with
 |.pointer (some a)=>some (.pointer (some a))
 |.func (.func f) a b=>some (.func (.func f) a b)
 |_=>none
def nE (v:Value)(y:Nat):Option Nat:=
 match v with
 |.int _ (.ofNat i)=>bif Nat.ble i y then some i else none
 |_=>none
theorem L9 {P:Program}{U:Mu}{w:World}{v v':Value}{y i:Nat}(hv:ao U v v')(h:nE v y=some i)(y':Nat)(hy:y≤y')(c:BoundsCode) :
  (Instr.sliceBound v' y' c).run P w=.ok i w∧i≤y:=by
 unfold nE at h
 split at h
 ·rename_i k j
  cases hv
  cases hj:Nat.ble j y with
  |false=>rw[hj] at h;simp at h
  |true=>
   rw[hj] at h;simp only[aQ,aB] at h;subst h
   have mN:j≤y:=by simpa using hj
   have h1:(0:Int)≤(Int.ofNat j)∧Int.ofNat j≤(y':Int):=by
    constructor
    ·exact Int.natCast_nonneg j
    exact Int.ofNat_le.2 (Nat.le_trans mN hy)
   refine⟨?_,mN⟩
   simp only[Instr.sliceBound,Sem.run_bind,asIntOf,Sem.run_pure,Result.andThen_ok]
   rw[if_pos h1];rfl
 simp at h
def bM (known:Nat):Option Value→Option (Option Nat)
 |some v=>(nE v known).map some
 |none=>some none
def bH (len known:Nat):Option Value→Option Nat→Option Nat
 |some v,some m=>nE v m
 |some v,none=>nE v known
 |none,none=>some len
 |none,some _=>none
def bL (h:Nat):Option Value→Option Nat
 |some v=>nE v h
 |none=>some 0
def uC (len known:Nat)(lo hi mx:Option Value):Option (Nat×Nat×Option Nat):=
 match bM known mx with
 |none=>none
 |some m=>
  match bH len known hi m with
  |none=>none
  |some h=>
   match bL h lo with
   |none=>none
   |some l=>some (l,h,m)
def cM (cap:Nat)(sl:Bool):Option Value→Sem Nat
 |some v=>Instr.sliceBound v cap (if sl then .slice3Acap else .slice3Alen)
 |none=>pure cap
def cH (len m:Nat)(sl:Bool)(mx:Option Value):Option Value→Sem Nat
 |some v=>match mx with
  |some _=>Instr.sliceBound v m .slice3B
  |none=>Instr.sliceBound v m (if sl then .sliceAcap else .sliceAlen)
 |none=>match mx with
  |some _=>stuck "Slice: max without high"
  |none=>pure len
def cL (h:Nat)(mx:Option Value):Option Value→Sem Nat
 |some v=>Instr.sliceBound v h (if mx.isSome then .slice3C else .sliceB)
 |none=>pure 0
theorem zo5 (sl:Bool)(len cap:Nat)(lo hi mx:Option Value) :
  Instr.sliceBounds sl len cap lo hi mx=(cM cap sl mx >>= fun m=>cH len m sl mx hi >>= fun h=>cL h mx lo >>= fun l=>pure (l,h,m)):=by
 unfold Instr.sliceBounds
 cases mx<;>cases hi<;>cases lo<;>rfl
def EJ (U:Mu):Option Value→Option Value→Prop
 |none,none=>True
 |some v,some v'=>ao U v v'
 |_,_=>False
theorem EK {P:Program}{U:Mu}{w:World}{len known:Nat}{lo hi mx gK dB l3:Option Value}{l h:Nat}{m:Option Nat}(cY:EJ U lo gK)(jZ:EJ U hi dB)(lj:EJ U mx l3)
  (ha:uC len known lo hi mx=some (l,h,m)) (cap:Nat) (hc:known≤cap) (hl:len≤known) (sl:Bool) :
  (Instr.sliceBounds sl len cap gK dB l3).run P w=.ok (l,h,m.getD cap) w∧l≤h∧h≤known∧(∀x,m=some x→h≤x∧x≤known):=by
 unfold uC at ha
 cases hm:bM known mx with
 |none=>simp[hm] at ha
 |some m0=>
  simp only[hm] at ha
  cases hh:bH len known hi m0 with
  |none=>simp[hh] at ha
  |some h0=>
   simp only[hh] at ha
   cases da:bL h0 lo with
   |none=>simp[da] at ha
   |some l0=>
    simp only[da,aB,bO] at ha
    obtain⟨rfl,rfl,rfl⟩:=ha
    have nR:(cM cap sl l3).run P w=.ok (m0.getD cap) w∧(∀x,m0=some x→x≤known)∧(m0.isSome=l3.isSome):=by
     cases mx with
     |none=>
      cases l3 with
      |none=>simp only[bM,aB] at hm;subst hm;exact⟨rfl,by simp,rfl⟩
      |some v'=>exact lj.elim
     |some v=>
      cases l3 with
      |none=>exact lj.elim
      |some v'=>
       simp only[bM] at hm
       cases hb:nE v known with
       |none=>rw[hb] at hm;simp at hm
       |some x=>
        rw[hb] at hm;simp only[Option.map_some,aB] at hm;subst hm
        have hr:=fun c=>(L9 (P:=P) (w:=w) (show ao U v v' from lj) hb cap hc c)
        exact⟨(hr _).1,fun y hy=>by simp only[aB] at hy;subst hy;exact(hr .index).2,rfl⟩
    obtain⟨b7,gW,Iz⟩:=nR
    have hh0:(cH len (m0.getD cap) sl l3 dB).run P w=.ok h0 w∧h0≤known∧(∀x,m0=some x→h0≤x):=by
     cases hi with
     |none=>
      cases dB with
      |some v'=>exact jZ.elim
      |none=>
       cases m0 with
       |some x=>simp[bH] at hh
       |none=>
        simp only[bH,aB] at hh;subst hh
        cases l3 with
        |some v'=>simp at Iz
        |none=>exact⟨rfl,hl,by simp⟩
     |some v=>
      cases dB with
      |none=>exact jZ.elim
      |some v'=>
       cases m0 with
       |some x=>
        cases l3 with
        |none=>simp at Iz
        |some u=>
         have hr:=L9 (P:=P) (w:=w) (show ao U v v' from jZ) hh x (Nat.le_refl _) .slice3B
         exact⟨hr.1,Nat.le_trans hr.2 (gW x rfl),fun y hy=>by simp only[aB] at hy;subst hy;exact hr.2⟩
       |none=>
        cases l3 with
        |some u=>simp at Iz
        |none=>
         have hr:=fun c=>L9 (P:=P) (w:=w) (show ao U v v' from jZ) hh cap hc c
         exact⟨(hr _).1,(hr .index).2,by simp⟩
    obtain⟨hh1,EL,hh3⟩:=hh0
    have cT:(cL h0 l3 gK).run P w=.ok l0 w∧l0≤h0:=by
     cases lo with
     |none=>
      cases gK with
      |some v'=>exact cY.elim
      |none=>simp only[bL,aB] at da;subst da;exact⟨rfl,Nat.zero_le _⟩
     |some v=>
      cases gK with
      |none=>exact cY.elim
      |some v'=>
       have hr:=fun c=>L9 (P:=P) (w:=w) (show ao U v v' from cY) da h0 (Nat.le_refl _) c
       exact⟨(hr _).1,(hr .index).2⟩
    refine⟨?_,cT.2,EL,fun x hx=>⟨hh3 x hx,gW x hx⟩⟩
    rw[zo5,Sem.run_bind,b7,Result.andThen_ok,Sem.run_bind,hh1,Result.andThen_ok,Sem.run_bind,cT.1,Result.andThen_ok,Sem.run_pure]
def nS (P:Program)(t:TypeId)(x:Value)(lo hi mx:Option Value):Option Value:=
 match x with
 |.slice none 0 0=>
  match jh P t,uC 0 0 lo hi mx with
  |some _,some _=>some (.slice none 0 0)
  |_,_=>none
 |.slice (some ⟨o,off,none⟩) len k=>
  match jh P t with
  |some (_,sz)=>
   bif Nat.blt k aC then
    match uC len k lo hi mx with
    |some (l,h,m)=>
     let m':=m.getD k
     some (.slice (some ⟨o,bif Nat.beq m' l then off else off+l*sz,none⟩) (h - l) (m' - l))
    |none=>none
   else bif Nat.blt k eU then
    match uC len len lo hi mx with
    |some (l,h,some m)=>bif Nat.blt m aC then some (.slice (some ⟨o,bif Nat.beq m l then off else off+l*sz,none⟩) (h - l) (m - l)) else none
    |some (l,h,none)=>
     bif Nat.beq l 0 then some (.slice (some ⟨o,off,none⟩) h k)
     else bif Nat.beq h l then some (.slice (some ⟨o,off,none⟩) 0 eU)
     else bif Nat.blt (k+l) eU then some (.slice (some ⟨o,off+l*sz,none⟩) (h - l) (k+l)) else none
    |none=>none
   else
    match uC 0 0 lo hi mx with
    |some (_,_,none)=>some (.slice (some ⟨o,off,none⟩) 0 eU)
    |some (_,_,some _)=>some (.slice (some ⟨o,off,none⟩) 0 0)
    |none=>none
  |none=>none
 |_=>none
theorem ng (a b:Nat):(Nat.beq a b=true∧a=b)∨(Nat.beq a b=false∧a≠b):=by
 cases h:Nat.beq a b with
 |true=>exact .inl ⟨rfl,by simpa using h⟩
 |false=>exact .inr ⟨rfl,by intro e;subst e;simp at h⟩
theorem EM {P:Program}{w:World}{t e:TypeId}{n:Nat}(hu:P.underlying t=some (.slice e))(hn:dH P e=some n)(p:Option Addr)(len cap:Nat)(lo hi mx:Option Value){l h m:Nat}
  (hb:(Instr.sliceBounds true len cap lo hi mx).run P w=.ok (l,h,m) w) :
  (Instr.sliceAt t (.slice p len cap) lo hi mx).run P w=.ok (.slice (if m=l then p else p.map (·.add (l*n))) (h - l) (m - l)) w:=by
 simp only[Instr.sliceAt,Sem.run_bind,run_underlying hu,Result.andThen_ok,Instr.slice,hb,qt hn,Sem.run_pure]
theorem z0g {P:Program}{U:Mu}{w:World}{t:TypeId}{x x':Value}{lo hi mx gK dB l3:Option Value}{v:Value}(hx:ao U x x')(cY:EJ U lo gK)(jZ:EJ U hi dB)(lj:EJ U mx l3)
  (ha:nS P t x lo hi mx=some v):∃v',(Instr.sliceAt t x' gK dB l3).run P w=.ok v' w∧ao U v v':=by
 unfold nS at ha
 split at ha
 ·split at ha
  ·rename_i e q mw hb
   obtain⟨e1,n⟩:=e
   obtain⟨hu,hn⟩:=xz mw
   obtain⟨l,h,m⟩:=q
   cases hx
   obtain⟨h1,h2,h3,h4⟩:=EK (P:=P) (w:=w) cY jZ lj hb 0 (Nat.le_refl _) (Nat.le_refl _) true
   simp only[aB] at ha;subst ha
   have hm:m.getD 0=0:=by
    cases m with
    |none=>rfl
    |some x=>have:=(h4 x rfl).2;simp;omega
   have hh:h=0:=by omega
   have hl:l=0:=by omega
   subst hh hl
   rw[hm] at h1
   exact⟨_,EM hu hn none 0 0 gK dB l3 h1,by simp;exact .eX⟩
  simp at ha
 ·rename_i o off len k
  split at ha
  ·rename_i e sz mw
   obtain⟨hu,hn⟩:=xz mw
   cases hk:Nat.blt k aC with
   |true=>
    have my:k<aC:=by rw[Nat.blt_eq] at hk;exact hk
    rw[hk] at ha
    simp only[aQ] at ha
    split at ha
    ·rename_i l h m hb
     simp only[aB] at ha;subst ha
     cases hx with
     |slice _ _ _ _ b a C hm hl eY=>
      rw[rq my] at hl ⊢
      obtain⟨h1,h2,h3,h4⟩:=EK (P:=P) (w:=w) cY jZ lj hb k (Nat.le_refl _) hl true
      refine⟨_,EM hu hn _ _ _ _ _ _ h1,?_⟩
      have G9:m.getD k≤k∧h≤m.getD k:=by
       cases m with
       |none=>exact⟨Nat.le_refl _,h3⟩
       |some x=>exact⟨(h4 x rfl).2,(h4 x rfl).1⟩
      have a8:m.getD k - l<aC:=by omega
      rcases ng (m.getD k) l with⟨hq,cG⟩|⟨hq,cG⟩
      ·rw[hq]
       simp only[cG,if_true,aQ]
       have:=ao.slice o off (h - l) (l - l) b a C hm (by rw[rq (by omega)];omega) (by unfold eU;unfold aC at *;omega)
       rwa [rq (by omega)] at this
      rw[hq]
      simp only[cG,if_false,bx,Option.map_some,wc]
      have:=ao.slice o (off+l*sz) (h - l) (m.getD k - l) b a C hm (by rw[rq a8];omega) (by unfold eU;unfold aC at *;omega)
      rwa [rq a8,← Nat.add_assoc] at this
     |cj=>unfold eU aC at my;omega
     |cK p p'=>
      obtain⟨h1,h2,h3,h4⟩:=EK (P:=P) (w:=w) cY jZ lj hb 0 (Nat.le_refl _) (Nat.le_refl _) true
      refine⟨_,EM hu hn _ _ _ _ _ _ h1,?_⟩
      have hm:m.getD 0=0:=by
       cases m with
       |none=>rfl
       |some x=>have:=(h4 x rfl).2;simp;omega
      have hh:h=0:=by omega
      have hl:l=0:=by omega
      subst hh hl
      simp only[hm,if_true]
      exact .cK _ _
    simp at ha
   |false=>
    rw[hk] at ha
    simp only[bx] at ha
    have my:¬k<aC:=by intro h;rw[← Nat.blt_eq,hk] at h;cases h
    cases im:Nat.blt k eU with
    |true=>
     rw[im] at ha
     simp only[aQ] at ha
     have EN:k<eU:=by rw[Nat.blt_eq] at im;exact im
     cases hx with
     |cj=>omega
     |cK=>unfold aC at my;omega
     |slice _ _ _ _ b a C hm hl eY=>
      split at ha
      ·rename_i l h m hb
       cases BA:Nat.blt m aC with
       |false=>rw[BA] at ha;simp at ha
       |true=>
       rw[BA] at ha
       simp only[aQ,aB] at ha;subst ha
       have hmi:m<aC:=by rw[Nat.blt_eq] at BA;exact BA
       obtain⟨h1,h2,h3,h4⟩:=EK (P:=P) (w:=w) cY jZ lj hb (jz C k) hl (Nat.le_refl _) true
       refine⟨_,EM hu hn _ _ _ _ _ _ h1,?_⟩
       obtain⟨h5,h6⟩:=h4 m rfl
       simp only[Option.getD_some]
       have fx:jz C k=C - (k - aC):=by simp[jz,my]
       have o7:m - l<aC:=by omega
       ·rcases ng m l with⟨hq,cG⟩|⟨hq,cG⟩
        ·rw[hq]
         simp only[cG,if_true,aQ]
         have:=ao.slice o off (h - l) (l - l) b a C hm (by rw[rq (by omega)];omega) (by unfold eU;unfold aC at *;omega)
         rwa [rq (by omega)] at this
        rw[hq]
        simp only[cG,if_false,bx,Option.map_some,wc]
        have:=ao.slice o (off+l*sz) (h - l) (m - l) b a C hm (by rw[rq o7];omega) (by unfold eU;unfold aC at *;omega)
        rwa [rq o7,← Nat.add_assoc] at this
      ·rename_i l h hb
       obtain⟨h1,h2,h3,h4⟩:=EK (P:=P) (w:=w) cY jZ lj hb (jz C k) hl (Nat.le_refl _) true
       have gB:=EM hu hn (some ⟨b,a+off,none⟩) len (jz C k) gK dB l3 h1
       simp only[Option.getD_none] at gB
       have fx:jz C k=C - (k - aC):=by simp[jz,my]
       rcases ng l 0 with⟨hq,cG⟩|⟨hq,cG⟩
       ·rw[hq] at ha
        simp only[aQ,aB] at ha;subst ha cG
        refine⟨_,gB,?_⟩
        have:=ao.slice o off h k b a C hm (by omega) eY
        simp only[Nat.zero_mul,Option.map_some,wc,Nat.add_zero,ite_self,Nat.sub_zero]
        exact this
       rw[hq] at ha
       simp only[bx] at ha
       rcases ng h l with⟨hr,ru⟩|⟨hr,ru⟩
       ·rw[hr] at ha
        simp only[aQ,aB] at ha;subst ha ru
        refine⟨_,gB,?_⟩
        rw[Nat.sub_self]
        split
        ·exact .cj _ _ _
        exact .cj _ _ _
       rw[hr] at ha
       simp only[bx] at ha
       cases hz:Nat.blt (k+l) eU with
       |false=>rw[hz] at ha;simp at ha
       |true=>
        rw[hz] at ha
        simp only[aQ,aB] at ha;subst ha
        refine⟨_,gB,?_⟩
        rw[if_neg (by omega)]
        simp only[Option.map_some,wc]
        have jk:jz C (k+l)=jz C k - l:=by
         rw[fx];unfold jz;rw[if_neg (by omega)];omega
        have:=ao.slice o (off+l*sz) (h - l) (k+l) b a C hm (by rw[jk];omega) (by rw[Nat.blt_eq] at hz;exact hz)
        rwa [jk,← Nat.add_assoc] at this
      simp at ha
    |false=>
     rw[im] at ha
     simp only[bx] at ha
     have EN:¬k<eU:=by intro h;rw[← Nat.blt_eq,im] at h;cases h
     cases hx with
     |slice _ _ _ _ b a C hm hl eY=>omega
     |cK=>unfold eU at EN;omega
     |cj p p' c=>
      split at ha
      ·rename_i l h hb
       simp only[aB] at ha;subst ha
       obtain⟨h1,h2,h3,h4⟩:=EK (P:=P) (w:=w) cY jZ lj hb c (Nat.zero_le _) (Nat.le_refl _) true
       have gB:=EM hu hn (some p') 0 c gK dB l3 h1
       have hh:h=0:=by omega
       have hl:l=0:=by omega
       subst hh hl
       refine⟨_,gB,?_⟩
       simp only[Option.getD_none,Nat.sub_zero]
       split
       ·exact .cj _ _ _
       exact .cj _ _ _
      ·rename_i l h m hb
       simp only[aB] at ha;subst ha
       obtain⟨h1,h2,h3,h4⟩:=EK (P:=P) (w:=w) cY jZ lj hb c (Nat.zero_le _) (Nat.le_refl _) true
       have gB:=EM hu hn (some p') 0 c gK dB l3 h1
       have hm:=(h4 m rfl).2
       have hh:h=0:=by omega
       have hl:l=0:=by omega
       have nR:m=0:=by omega
       subst hh hl nR
       refine⟨_,gB,?_⟩
       simp only[Option.getD_some,Nat.sub_zero,if_true]
       exact .cK _ _
      simp at ha
  simp at ha
 simp at ha
def sd (h:ai)(n:Nat)(x:Value)(m:Nat):Option (List Value):=
 bif Nat.beq m 0 then some [] else
 match x with
 |.slice (some ⟨o,off,none⟩) _ _=>
  match h.get o with
  |some (.cells _ cs)=>bif Nat.ble (off+m*n) cs.length then some ((cs.drop off).take (m*n)) else none
  |_=>none
 |_=>none
def mO:Value→Option Nat
 |.slice _ l _=>some l
 |_=>none
theorem OJ {P:Program}{U:Mu}{w:World}{x x':Value}{m:Nat}(hx:ao U x x')(h:mO x=some m):(Builtin.lenOf x').run P w=.ok m w∧∃p c,x'=.slice p m c:=by
 unfold mO at h
 split at h
 ·simp only[aB] at h;subst h
  cases hx<;>exact⟨rfl,_,_,rfl⟩
 simp at h
theorem Ma {P:Program}{lo:Nat}{U:Mu}{h:ai}{w:World}(r:Rel U lo h w){n m:Nat}{x x':Value}{xs:List Value}(hx:ao U x x'){p:Option Addr}{l c:Nat}(fP:x'=.slice p l c)(Ha:m≤l)(hs:sd h n x m=some xs) :
  ∃bu:List Value,(∀w2:World,(∀a,w2.cell? a=w.cell? a)→(Builtin.firstCells n m x').run P w2=.ok bu.toArray w2)∧bB U xs bu∧xs.length=m*n:=by
 unfold sd at hs
 rcases ng m 0 with⟨hq,cG⟩|⟨hq,cG⟩
 ·rw[hq] at hs;simp only[aQ,aB] at hs;subst hs cG
  refine⟨[],fun w2 _=>?_,bB.nil U,by simp⟩
  subst fP
  cases p<;>simp[Builtin.firstCells,loadCells,loadCellsFrom]
 rw[hq] at hs
 simp only[bx] at hs
 split at hs
 ·rename_i o off l0 k0
  split at hs
  ·rename_i s cs ho
   cases hle:Nat.ble (off+m*n) cs.length with
   |false=>rw[hle] at hs;simp at hs
   |true=>
    rw[hle] at hs;simp only[aQ,aB] at hs;subst hs
    have OK:off+m*n≤cs.length:=by simpa using hle
    cases hx with
    |slice _ _ _ _ b a C hm hl eY=>
     obtain⟨au,h1,h2,h3⟩:=L3 (qT r ho hm) off (m*n) OK
     refine⟨au,fun w2 cR=>?_,h1,by simp;omega⟩
     have gB:=run_loadCells_list (P:=P) w2 _ au (fun j v hj=>by rw[cR];exact h3 j v hj)
     rw[h2] at gB
     simpa[Builtin.firstCells] using gB
    |cj=>simp only[Value.slice.injEq] at fP;omega
    |cK=>simp only[Value.slice.injEq] at fP;omega
  simp at hs
 simp at hs
theorem zy0 (rz jg:Nat)(h:jg<rz):Builtin.nextslicecap rz jg≤2*rz+192:=by
 have grow:∀(rounds c:Nat),c≤2*rz+192→Builtin.growBy rz rounds c≤2*rz+192:=by
  intro rounds
  induction rounds with
  |zero=>intro c hc;simpa[Builtin.growBy] using hc
  |succ r ih=>
   intro c hc
   simp only[Builtin.growBy]
   split
   ·exact hc
   exact ih _ (by omega)
 unfold Builtin.nextslicecap
 split
 ·omega
 split
 ·omega
 exact grow 4 jg (by omega)
section
variable {P:Program} {w:World} {sT xT ty e:TypeId} {i:TypeInfo} {d0:TypeId} {x:Value} {base:Option Addr} {cU ib m:Nat} {new:List Value}
theorem fG (hu:P.underlying sT=some (.slice e))(hi:P.info? e=some i)(hx:P.underlying xT=some (.slice d0))(hl:(Builtin.lenOf x).run P w=.ok m w)
  (hf:(Builtin.firstCells i.size m x).run P w=.ok new.toArray w) (hn:cU+m≤ib) :
  (Builtin.append_ #[sT,xT] ty #[.slice base cU ib,x]).run P w =
   (match base with|some a=>(storeCells (a.add (cU*i.size)) new).run P w|none=>.ok () w).andThen fun _ w'=>.ok (.slice base (cU+m) ib) w':=by
 cases base with
 |none=>simp[Builtin.append_,run_underlying hu,run_underlying hx,sizeOf,typeInfo,hi,hl,hn,hf]
 |some a=>simp[Builtin.append_,run_underlying hu,run_underlying hx,sizeOf,typeInfo,hi,hl,hn,hf]
theorem nF {z:Value}{j3:List Value}(hu:P.underlying sT=some (.slice e))(hi:P.info? e=some i)(hz:i.zero=some z)(hx:P.underlying xT=some (.slice d0))(hl:(Builtin.lenOf x).run P w=.ok m w)
  (Bz:(Builtin.firstCells i.size cU (.slice base cU ib)).run P w.drew=.ok j3.toArray w.drew) (hf:(Builtin.firstCells i.size m x).run P w.drew=.ok new.toArray w.drew)
  (hn:ib<cU+m) (Ue:cU+m≤17592186044416) (Uf:(2*(cU+m)+192)*i.bytes≤281474976710656) :
  (Builtin.append_ #[sT,xT] ty #[.slice base cU ib,x]).run P w =
   .ok (.slice (some ⟨w.heap.size,0,none⟩) (cU+m) (grownCap w (cU+m) ib e))
    (w.drew.alloc (.cells (j3.toArray++new.toArray++Builtin.zeroCells z.cells (grownCap w (cU+m) ib e - (cU+m))) e)):=by
 have oO:¬(cU+m≤ib):=by omega
 have OL:¬(9223372036854775807<((cU:Int)+(m:Int))):=by omega
 have OM:¬(281474976710656<Builtin.nextslicecap (cU+m) ib*i.bytes):=by
  have:=Nat.mul_le_mul_right i.bytes (zy0 (cU+m) ib hn)
  omega
 simp[Builtin.append_,run_underlying hu,run_underlying hx,sizeOf,typeInfo,zeroValue,hi,hz,hl,oO,OL,OM,Question.forced,hf,Bz,newRow,grownCap]
 congr 2
 apply Array.ext'
 simp[List.append_assoc]
end
theorem grownCap_ge (w:World)(rz jg:Nat)(e:TypeId):rz≤grownCap w rz jg e:=by
 simp[grownCap,Question.cut]
def sM (P:Program)(lo:Nat)(h:ai)(sT xT:TypeId)(s x:Value):Option (Value×ai):=
 match jh P sT,jh P xT,mO x with
 |some (e,n),some _,some m=>
  match sL P e,(P.info? e).map (·.bytes),sd h n x m with
  |some z,some bytes,some xs=>
   bif !(Nat.beq z.length n&&Nat.blt 0 n&&xs.all (·.oneCell')) then none else
   match s with
   |.slice none 0 0=>
    bif Nat.beq m 0 then some (.slice none 0 0,h) else
    bif Nat.ble m 17592186044416&&Nat.ble ((2*m+192)*bytes) 281474976710656 then some (.slice (some ⟨h.next,0,none⟩) m aC,h.alloc (.cells n xs)) else none
   |.slice (some ⟨o,off,none⟩) l k=>
    bif Nat.beq m 0 then some (.slice (some ⟨o,off,none⟩) l k,h) else
    bif Nat.blt k aC then
     bif Nat.ble (l+m) k then
      match h.get o with
      |some (.cells s cs)=>
       bif Nat.ble lo o&&Nat.ble (off+(l+m)*n) cs.length then
        some (.slice (some ⟨o,off,none⟩) (l+m) k,h.put o (some (.cells s (ia cs (off+l*n) xs)))) else none
      |_=>none
     else
      match sd h n s l with
      |some j3=>
       bif Nat.ble (l+m) 17592186044416&&Nat.ble ((2*(l+m)+192)*bytes) 281474976710656 then
        some (.slice (some ⟨h.next,0,none⟩) (l+m) aC,h.alloc (.cells n (j3++xs))) else none
      |none=>none
    else bif Nat.blt k eU then
     match h.get o with
     |some (.cells s cs)=>
      bif !(Nat.ble lo o&&Nat.beq off ((k - aC)*n)&&Nat.beq s n&&Nat.ble (l+m) 17592186044416&&Nat.ble ((2*(l+m)+192)*bytes) 281474976710656) then none else
      bif Nat.ble (off+(l+m)*n) cs.length then
       some (.slice (some ⟨o,off,none⟩) (l+m) k,h.put o (some (.cells s (ia cs (off+l*n) xs))))
      else bif Nat.ble (off+l*n) cs.length then
       some (.slice (some ⟨h.next,0,none⟩) (l+m) aC,(h.put o none).alloc (.cells n ((cs.drop off).take (l*n)++xs)))
      else none
     |_=>none
    else none
   |_=>none
  |_,_,_=>none
 |_,_,_=>none
theorem zyd {U:Mu}{lo:Nat}{h:ai}{w:World}(r:Rel U lo h w){o:Nat}(ho:lo≤o)(a8:o<h.next):Rel U lo (h.put o none) w∧Frame lo U h w U (h.put o none) w:=by
 have sN:∀p x,(h.put o none).get p=some x→h.get p=some x:=fun p x hx=>by
  rw[ai.eT _ _ _ _ a8] at hx
  by_cases hp:p=o
  ·simp[hp] at hx
  simpa[hp] using hx
 refine⟨r.sub (Nat.le_refl _) sN (Nat.le_refl _) r.bX,⟨Mu.le_refl U,Nat.le_refl _,Nat.le_refl _,fun _ _ _=>rfl,fun b _=>?_,fun p hp=>?_,fun _ _=>rfl,fun p hp hn=>?_,.refl w⟩⟩
 ·rintro⟨p,x,a,C,h1,h2,h3⟩;exact⟨p,x,a,C,h1,sN p x h2,h3⟩
 ·rw[ai.eT _ _ _ _ a8]
  have:p≠o:=by omega
  simp[this]
 rw[ai.eT _ _ _ _ a8]
 by_cases h1:p=o
 ·simp[h1]
 simpa[h1] using hn
theorem zyb {U:Mu}{lo:Nat}{h:ai}{w w':World}(r:Rel U lo h w){o:Nat}{x:bn}(hx:h.get o=some x)(hl:lo≤o){b a C:Nat}(hm:U o=some (b,a,C))(y:bn)(a' C':Nat)
  (dU:w'.heap.size=w.heap.size) (hk:∀b',b'≠b→w'.heap[b']?=w.heap[b']?) (hy:∀ν,U.le ν→iu ν w' b a' C' y) (uz:∀off,w'.frozen? ⟨b,off,none⟩=false) (yg:Calm w w') :
  ∃aV,aV h.next=some (b,a',C')∧Rel aV lo ((h.put o none).alloc y) w'∧Frame lo U h w aV ((h.put o none).alloc y) w':=by
 have a8:=ai.iE hx
 have hle:=r.EB (b,a',C')
 have gN:∀p z,((h.put o none).alloc y).get p=some z→(p=h.next∧z=y)∨(p≠h.next∧p≠o∧h.get p=some z):=fun p z hz=>by
  rw[ai.lf] at hz
  simp only[ai.LY] at hz
  by_cases hp:p=h.next
  ·simp[hp] at hz;exact .inl ⟨hp,hz.symm⟩
  simp only[hp,if_false] at hz
  rw[ai.eT _ _ _ _ a8] at hz
  by_cases vz:p=o
  ·simp[vz] at hz
  simp only[vz,if_false] at hz;exact .inr ⟨hp,vz,hz⟩
 have fO:∀p z b' AF sH,h.get p=some z→U p=some (b',AF,sH)→p≠o→b'≠b:=fun p z b' AF sH hz fN hp hb=>by
  subst hb;exact hp (r.inj o p x z b' a C AF sH hl hx hz hm fN).symm
 refine⟨U.put h.next (b,a',C'),Mu.cX _ _ _,Rel.Oy r ?_ ?_ ?_ ?_ ?_ ⟨hle,by omega,by simp,fun b' _ hn=>hk b' (fun hb=>hn (hb▸⟨o,x,a,C,hl,hx,hm⟩)),?_,?_,fun p hp=>Mu.lX _ (by omega),fun p hp hn=>?_,yg⟩⟩
 ·intro p z hz
  rcases gN p z hz with⟨rfl,rfl⟩|⟨h1,h2,h3⟩
  ·exact⟨b,a',C',Mu.cX _ _ _,hy _ hle⟩
  obtain⟨b',AF,sH,h4,h5⟩:=r.br p z h3
  exact⟨b',AF,sH,by rw[Mu.lX _ h1];exact h4,(h5.mono hle).kept (hk b' (fO p z b' AF sH h3 h4 h2))⟩
 ·intro p p' z z' b' a1 C1 a2 C2 yh hz lY b7 gW
  rcases gN p z hz with⟨rfl,rfl⟩|⟨h1,h2,h3⟩
  ·rcases gN p' z' lY with⟨rfl,rfl⟩|⟨rp,IA,Mb⟩
   ·rfl
   rw[Mu.lX _ rp] at gW
   rw[Mu.cX] at b7;injection b7 with b7;injection b7 with b7 _;subst b7
   exact absurd rfl (fO p' z' _ _ _ Mb gW IA)
  rw[Mu.lX _ h1] at b7
  rcases gN p' z' lY with⟨rfl,rfl⟩|⟨rp,IA,Mb⟩
  ·rw[Mu.cX] at gW;injection gW with gW;injection gW with gW _;subst gW
   exact absurd rfl (fO p z _ _ _ h3 b7 h2)
  rw[Mu.lX _ rp] at gW
  exact r.inj p p' z z' b' a1 C1 a2 C2 yh h3 Mb b7 gW
 ·intro p z hz
  by_cases hp:p=h.next
  ·subst hp;simp
  rw[Mu.lX _ hp] at hz
  have:=r.rm p z hz
  simp;omega
 ·intro p z b' a1 C1 yh hz b7 off
  rcases gN p z hz with⟨rfl,rfl⟩|⟨h1,h2,h3⟩
  ·rw[Mu.cX] at b7;injection b7 with b7;injection b7 with b7 _;subst b7;exact uz off
  rw[Mu.lX _ h1] at b7
  rw[Bu (hk b' (fO p z b' a1 C1 h3 b7 h2))]
  exact r.fZ p z b' a1 C1 yh h3 b7 off
 ·have:=r.bX;simp;omega
 ·intro b' sK
  rintro⟨p,z,a1,C1,yh,hz,b7⟩
  rcases gN p z hz with⟨rfl,rfl⟩|⟨h1,h2,h3⟩
  ·rw[Mu.cX] at b7;injection b7 with b7;injection b7 with b7 _;subst b7;exact⟨o,x,a,C,hl,hx,hm⟩
  rw[Mu.lX _ h1] at b7;exact⟨p,z,a1,C1,yh,h3,b7⟩
 ·intro p hp
  rw[ai.lf,ai.LY]
  have h1:p≠h.next:=by have:=r.bX;omega
  have h2:p≠o:=by omega
  simp only[h1,if_false]
  rw[ai.eT _ _ _ _ a8]
  simp[h2]
 rw[ai.lf,ai.LY,if_neg (by omega),ai.eT _ _ _ _ a8]
 by_cases h1:p=o
 ·simp[h1]
 simpa[h1] using hn
theorem zor {P:Program}{e:TypeId}{z:List Value}{i:TypeInfo}(hz:sL P e=some z)(hi:P.info? e=some i):∃zv,i.zero=some zv∧zv.cells.toList=z∧ot zv=true:=by
 unfold sL at hz
 simp only[hi,Option.bind_some] at hz
 cases h0:i.zero with
 |none=>simp[h0] at hz
 |some v=>
  simp only[h0] at hz
  cases hs:ot v with
  |false=>simp[hs] at hz
  |true=>simp[hs] at hz;exact⟨v,rfl,hz,hs⟩
theorem Ug:aC<eU:=by decide
theorem ON (h:eU<aC):False:=absurd h (by decide)
theorem zq0 (h:¬0<aC):False:=h (by decide)
theorem Uh (C:Nat):jz C aC=C:=by unfold jz;rw[if_neg (Nat.lt_irrefl _),Nat.sub_self,Nat.sub_zero]
theorem zyx {P:Program}{lo:Nat}{U:Mu}{h:ai}{w:World}(r:Rel U lo h w){sT xT ty:TypeId}{s s' x x' v:Value}{h':ai}(hs:ao U s s')(hx:ao U x x')
  (ha:sM P lo h sT xT s x=some (v,h')):fF P lo (Builtin.append_ #[sT,xT] ty #[s',x']) U h w v h':=by
 unfold sM at ha
 split at ha
 ·rename_i e n q m mw htx hlen
  obtain⟨d0,n0⟩:=q
  obtain⟨hu,hn⟩:=xz mw
  obtain⟨Mc,_⟩:=xz htx
  obtain⟨hl,px,cx,oP⟩:=OJ (P:=P) (w:=w) hx hlen
  split at ha
  ·rename_i z bytes xs hz hb uD
   cases hi:P.info? e with
   |none=>simp[hi] at hb
   |some i=>
   simp only[hi,Option.map_some,aB] at hb
   have dC:i.size=n:=by simpa[dH,hi] using hn
   obtain⟨zv,hzv,Hb,Dd⟩:=zor hz hi
   cases yp:(Nat.beq z.length n&&Nat.blt 0 n&&xs.all (·.oneCell')) with
   |false=>rw[yp] at ha;simp at ha
   |true=>
   rw[yp] at ha
   simp only[Bool.not_true,bx] at ha
   simp only[bW] at yp
   obtain⟨⟨jI,jk⟩,lh⟩:=yp
   have jI:z.length=n:=by simpa using jI
   have jk:0<n:=by rw[Nat.blt_eq] at jk;exact jk
   obtain⟨bu,hf,gC,yq⟩:=Ma (P:=P) r hx oP (Nat.le_refl _) uD
   have nj:(Builtin.firstCells i.size m x').run P w=.ok bu.toArray w:=by rw[dC];exact hf w (fun _=>rfl)
   have hfd:(Builtin.firstCells i.size m x').run P w.drew=.ok bu.toArray w.drew:=by rw[dC];exact hf w.drew (fun _=>rfl)
   have more:∀(base:Option Addr) (cU ib:Nat) (j3 mP:List Value) (hh:ai),s'=.slice base cU ib→bB U j3 mP→j3.length=cU*n→
     (Builtin.firstCells i.size cU (.slice base cU ib)).run P w.drew=.ok mP.toArray w.drew→ib<cU+m→cU+m≤17592186044416→(2*(cU+m)+192)*bytes≤281474976710656→
     Rel U lo hh w→Frame lo U h w U hh w→
     fF P lo (Builtin.append_ #[sT,xT] ty #[s',x']) U h w (.slice (some ⟨hh.next,0,none⟩) (cU+m) aC) (hh.alloc (.cells n (j3++xs))):=by
    intro base cU ib j3 mP hh uE ho EO Bz iJ Ue Uf rr ff
    subst uE
    have gB:=nF (P:=P) (w:=w) (sT:=sT) (xT:=xT) (ty:=ty) hu hi hzv Mc hl Bz hfd iJ Ue (by rw[hb];exact Uf)
    generalize hC:grownCap w (cU+m) ib e=C at gB
    have IB:cU+m≤C:=by rw[← hC];exact grownCap_ge w (cU+m) ib e
    have yas:zv.cells.size=n:=by rw[← jI,← Hb];simp
    have OO:bu.length=m*n:=by rw[← gC.1];exact yq
    have OP:mP.length=cU*n:=by rw[← ho.1];exact EO
    have rA:(mP.toArray++bu.toArray++Builtin.zeroCells zv.cells (C - (cU+m))).toList=mP++bu++dJ z (C - (cU+m)):=by
     have:=range_zero zv.cells (C - (cU+m))
     rw[Hb] at this
     simp only[Array.toList_append,Builtin.zeroCells,this]
    obtain⟨aV,h1,h2,h3⟩:=T5 rr.drew (mP.toArray++bu.toArray++Builtin.zeroCells zv.cells (C - (cU+m))) e n C (j3++xs)
     (fun j u hj=>by
      obtain⟨u',h1,h2⟩:=(ho.append gC).2 j u hj
      refine⟨u',?_,h2⟩
      rw[← Array.getElem?_toList,rA,List.getElem?_append_left ?_]
      ·exact h1
      rcases Nat.lt_or_ge j (mP++bu).length with h|h
      ·exact h
      rw[List.getElem?_eq_none h] at h1;simp at h1)
     (fun _=>by
      have dU:(mP.toArray++bu.toArray++Builtin.zeroCells zv.cells (C - (cU+m))).size=C*n:=by
       rw[← Array.length_toList,rA]
       simp only[List.length_append,L6,OP,OO,jI]
       rw[← Nat.add_mul,← Nat.add_mul]
       congr 1;omega
      refine⟨?_,by rw[dU];exact Nat.le_refl _⟩
      simp only[List.length_append,EO,yq]
      rw[← Nat.add_mul]
      exact Nat.mul_le_mul_right n IB)
    refine⟨_,_,aV,gB,?_,h2,ff.trans ((Frame.drew lo U hh w).trans h3)⟩
    have IC:jz C aC=C:=Uh C
    have:=ao.slice hh.next 0 (cU+m) aC w.heap.size 0 C h1 (by rw[IC];exact IB) Ug
    rwa [IC] at this
   have idle:m=0→∀(base:Option Addr) (cU ib:Nat),s'=.slice base cU ib→cU≤ib→(Builtin.append_ #[sT,xT] ty #[s',x']).run P w=.ok s' w:=by
    intro hm base cU ib uE hle
    subst uE
    have yr:bu=[]:=by
     have:bu.length=0:=by rw[← gC.1,yq,hm];simp
     exact List.eq_nil_of_length_eq_zero this
    subst yr
    rw[fG (P:=P) (w:=w) (sT:=sT) (xT:=xT) (ty:=ty) hu hi Mc hl nj (by omega)]
    cases base<;>simp[storeCells,hm]
   have fits:∀(o off l k b a C so:Nat) (cs:List Value),s'=.slice (some ⟨b,a+off,none⟩) l (jz C k)→U o=some (b,a,C)→h.get o=some (.cells so cs)→lo≤o→off+(l+m)*n≤cs.length→l+m≤jz C k→k<eU→
     fF P lo (Builtin.append_ #[sT,xT] ty #[s',x']) U h w (.slice (some ⟨o,off,none⟩) (l+m) k) (h.put o (some (.cells so (ia cs (off+l*n) xs)))):=by
    intro o off l k b a C so cs uE hm ho cY wh iJ eY
    subst uE
    have yt:off+l*n+xs.length≤cs.length:=by rw[yq];rw[Nat.add_mul] at wh;omega
    obtain⟨h5,h6⟩:=GY r ho cY hm (off+l*n) xs bu gC yt
    have cS:=L4 (P:=P) r ho cY hm (off+l*n) xs bu gC lh yt
    refine⟨.slice (some ⟨b,a+off,none⟩) (l+m) (jz C k),w.setCells b (a+(off+l*n)) bu,U,?_,?_,h5,h6⟩
    ·rw[fG (P:=P) (w:=w) (sT:=sT) (xT:=xT) (ty:=ty) hu hi Mc hl nj iJ]
     simp only[wc,dC]
     rw[show a+off+l*n=a+(off+l*n) by omega,cS,Result.andThen_ok]
    exact .slice o off (l+m) k b a C hm iJ eY
   split at ha
   · -- nil
    cases hs
    rcases ng m 0 with⟨hq,cG⟩|⟨hq,cG⟩
    ·rw[hq] at ha;simp only[aQ,aB,bO] at ha;obtain⟨rfl,rfl⟩:=ha
     exact .same r (idle cG none 0 0 rfl (Nat.le_refl _)) .eX
    rw[hq] at ha;simp only[bx] at ha
    cases hc:(Nat.ble m 17592186044416&&Nat.ble ((2*m+192)*bytes) 281474976710656) with
    |false=>rw[hc] at ha;simp at ha
    |true=>
     rw[hc] at ha;simp only[aQ,aB,bO] at ha;obtain⟨rfl,rfl⟩:=ha
     simp only[bW] at hc
     have e1:m≤17592186044416:=by simpa using hc.1
     have e2:(2*m+192)*bytes≤281474976710656:=by simpa using hc.2
     have:=more none 0 0 [] [] h rfl (bB.nil U) (by simp) (by simp[Builtin.firstCells]) (by omega) (by omega) (by simpa using e2) r (Frame.refl _ _ _ _)
     simpa using this
   ·rename_i o off l k
    rcases ng m 0 with⟨hq,cG⟩|⟨hq,cG⟩
    ·rw[hq] at ha;simp only[aQ,aB,bO] at ha;obtain⟨rfl,rfl⟩:=ha
     have yu:=hs
     cases hs with
     |slice _ _ _ _ b a C hm lk eY=>exact .same r (idle cG _ _ _ rfl lk) yu
     |cj p p' c=>exact .same r (idle cG _ _ _ rfl (Nat.zero_le _)) yu
     |cK p p'=>exact .same r (idle cG _ _ _ rfl (Nat.zero_le _)) yu
    rw[hq] at ha;simp only[bx] at ha
    cases hk:Nat.blt k aC with
    |true=>
     rw[hk] at ha;simp only[aQ] at ha
     have my:k<aC:=by rw[Nat.blt_eq] at hk;exact hk
     cases wh:Nat.ble (l+m) k with
     |true=>
      rw[wh] at ha;simp only[aQ] at ha
      have Dg:l+m≤k:=by simpa using wh
      split at ha
      ·rename_i so cs ho
       cases hc:(Nat.ble lo o&&Nat.ble (off+(l+m)*n) cs.length) with
       |false=>rw[hc] at ha;simp at ha
       |true=>
        rw[hc] at ha;simp only[aQ,aB,bO] at ha;obtain⟨rfl,rfl⟩:=ha
        simp only[bW] at hc
        have e1:lo≤o:=by simpa using hc.1
        have e2:off+(l+m)*n≤cs.length:=by simpa using hc.2
        cases hs with
        |slice _ _ _ _ b a C hm lk eY=>exact fits o off l k b a C so cs rfl hm ho e1 e2 (by rw[rq my];exact Dg) eY
        |cj p p' c=>exact(ON my).elim
        |cK p p'=>omega
      simp at ha
     |false=>
      rw[wh] at ha;simp only[bx] at ha
      have Dg:¬l+m≤k:=by intro hh;have:Nat.ble (l+m) k=true:=(by simpa using hh);rw[wh] at this;cases this
      split at ha
      ·rename_i j3 iM
       cases hc:(Nat.ble (l+m) 17592186044416&&Nat.ble ((2*(l+m)+192)*bytes) 281474976710656) with
       |false=>rw[hc] at ha;simp at ha
       |true=>
        rw[hc] at ha;simp only[aQ,aB,bO] at ha;obtain⟨rfl,rfl⟩:=ha
        simp only[bW] at hc
        have e1:l+m≤17592186044416:=by simpa using hc.1
        have e2:(2*(l+m)+192)*bytes≤281474976710656:=by simpa using hc.2
        have yu:=hs
        cases hs with
        |slice _ _ _ _ b a C hm lk eY=>
         rw[rq my] at yu
         obtain⟨uF,g1,g2,g3⟩:=Ma (P:=P) r yu rfl (Nat.le_refl _) iM
         rw[rq my]
         have:=more (some ⟨b,a+off,none⟩) l k j3 uF h (by rw[rq my]) g2 g3 (by rw[dC];exact g1 w.drew (fun _=>rfl)) (by omega) e1 e2 r (Frame.refl _ _ _ _)
         rwa [rq my] at this
        |cj p p' c=>exact(ON my).elim
        |cK p p'=>
         obtain⟨uF,g1,g2,g3⟩:=Ma (P:=P) r yu rfl (Nat.le_refl _) iM
         exact more (some p') 0 0 j3 uF h rfl g2 g3 (by rw[dC];exact g1 w.drew (fun _=>rfl)) (by omega) e1 e2 r (Frame.refl _ _ _ _)
      simp at ha
    |false=>
     rw[hk] at ha;simp only[bx] at ha
     have my:¬k<aC:=by intro hh;rw[← Nat.blt_eq,hk] at hh;cases hh
     cases im:Nat.blt k eU with
     |false=>rw[im] at ha;simp at ha
     |true=>
     rw[im] at ha;simp only[aQ] at ha
     have EN:k<eU:=by rw[Nat.blt_eq] at im;exact im
     split at ha
     ·rename_i so cs ho
      cases hc:(Nat.ble lo o&&Nat.beq off ((k - aC)*n)&&Nat.beq so n&&Nat.ble (l+m) 17592186044416&&Nat.ble ((2*(l+m)+192)*bytes) 281474976710656) with
      |false=>rw[hc] at ha;simp at ha
      |true=>
       rw[hc] at ha;simp only[Bool.not_true,bx] at ha
       simp only[bW] at hc
       obtain⟨⟨⟨⟨c1,c2⟩,c3⟩,c4⟩,c5⟩:=hc
       have c1:lo≤o:=by simpa using c1
       have c2:off=(k - aC)*n:=by simpa using c2
       have c3:so=n:=by simpa using c3
       have c4:l+m≤17592186044416:=by simpa using c4
       have c5:(2*(l+m)+192)*bytes≤281474976710656:=by simpa using c5
       subst c3
       cases hs with
       |cj p p' c=>omega
       |cK p p'=>exact(zq0 my).elim
       |slice _ _ _ _ b a C hm lk eY=>
        have sP:=qT r ho hm
        obtain⟨hblk,OQ,vA⟩:=sP
        obtain⟨oQ,ky⟩:=vA jk
        have iJ:jz C k=C - (k - aC):=by simp[jz,my]
        cases EP:Nat.ble (off+(l+m)*so) cs.length with
        |true=>
         rw[EP] at ha;simp only[aQ,aB,bO] at ha;obtain⟨rfl,rfl⟩:=ha
         have e2:off+(l+m)*so≤cs.length:=by simpa using EP
         refine fits o off l k b a C so cs rfl hm ho c1 e2 ?_ eY
         rw[iJ]
         have:(k - aC+(l+m))*so≤C*so:=by rw[Nat.add_mul];omega
         have:=Nat.le_of_mul_le_mul_right this jk
         omega
        |false=>
         rw[EP] at ha;simp only[bx] at ha
         cases ER:Nat.ble (off+l*so) cs.length with
         |false=>rw[ER] at ha;simp at ha
         |true=>
          rw[ER] at ha;simp only[aQ,aB,bO] at ha;obtain⟨rfl,rfl⟩:=ha
          have e2:off+l*so≤cs.length:=by simpa using ER
          have a8:=ai.iE ho
          obtain⟨fr,ff⟩:=zyd r c1 a8
          obtain⟨uF,g1,g2,g3⟩:=L3 (qT r ho hm) off (l*so) e2
          have Dh:=run_loadCells_list (P:=P) w.drew _ uF (fun j v hj=>g3 j v hj)
          rw[g2] at Dh
          by_cases ES:l+m≤jz C k
          · -- in place, beyond what was known
           have sQ:off+l*so+bu.length≤C*so:=by
            rw[← gC.1,yq]
            have:(k - aC+(l+m))*so≤C*so:=Nat.mul_le_mul_right so (by omega)
            rw[Nat.add_mul,Nat.add_mul] at this
            omega
           have nD:∀j,j<bu.length→(w.cell? ⟨b,a+off+l*so+j,none⟩).isSome=true:=fun j hj=>by
            obtain⟨v',h3⟩:=ky (off+l*so+j) (by omega)
            rw[show a+off+l*so+j=a+(off+l*so+j) by omega,h3];rfl
           have cS:=run_storeCells_cells (P:=P) b (a+off+l*so) bu 0 w (by simpa using nD) (fun j hj=>r.fZ o _ b a C c1 ho hm _) (T9 gC lh)
           simp only[Nat.add_zero] at cS
           have BB:∀j,j<l*so→(w.setCells b (a+off+l*so) bu).cell? ⟨b,a+off+j,none⟩=w.cell? ⟨b,a+off+j,none⟩:=fun j hj=>
            World.cell?_setCells_out b bu _ w _ (fun _ _=>by simp;omega)
           obtain⟨aV,q1,q2,q3⟩:=zyb r ho c1 hm (.cells so ((cs.drop off).take (l*so)++xs)) (a+off) (C - (k - aC)) (w':=w.setCells b (a+off+l*so) bu)
            (Is _ _ _ _) (fun b' sK=>OB _ _ _ _ sK)
            (fun ν BD=>by
             refine⟨by rw[Is];exact hblk,fun j u hj=>?_,fun _=>⟨?_,fun j hj=>?_⟩⟩
             ·have ID:((cs.drop off).take (l*so)).length=l*so:=by simp;omega
              by_cases eV:j<l*so
              ·rw[List.getElem?_append_left (by omega)] at hj
               obtain⟨u',t1,t2⟩:=g1.2 j u hj
               refine⟨u',?_,t2.mono BD⟩
               rw[BB j eV]
               have:=g3 j u' t1
               rwa [wc] at this
              rw[List.getElem?_append_right (by omega),ID] at hj
              obtain⟨u',t1,t2⟩:=gC.2 _ u hj
              have Ui:j - l*so<bu.length:=by
               rcases Nat.lt_or_ge (j - l*so) bu.length with h|h
               ·exact h
               rw[List.getElem?_eq_none h] at t1;simp at t1
              refine⟨u',?_,t2.mono BD⟩
              have:=World.cell?_setCells_in b bu (a+off+l*so) w nD (j - l*so) Ui
              rw[show a+off+l*so+(j - l*so)=a+off+j by omega] at this
              rw[this]
              rw[List.getElem?_eq_getElem Ui] at t1
              exact t1
             ·simp only[List.length_append,List.length_take,List.length_drop,yq]
              rw[Nat.min_eq_left (by omega),← Nat.add_mul]
              exact Nat.mul_le_mul_right so (by omega)
             have hjC:off+j<C*so:=by
              rw[Nat.sub_mul] at hj;omega
             obtain⟨v',h3⟩:=ky (off+j) hjC
             by_cases yat:l*so≤j∧j<l*so+bu.length
             ·have:=World.cell?_setCells_in b bu (a+off+l*so) w nD (j - l*so) (by omega)
              rw[show a+off+l*so+(j - l*so)=a+off+j by omega] at this
              exact⟨_,this⟩
             refine⟨v',?_⟩
             rw[World.cell?_setCells_out b bu _ w _ (fun _ _=>by simp;omega)]
             rw[show a+off+j=a+(off+j) by omega]
             exact h3)
            (fun qq=>by rw[World.frozen?_setCells];exact r.fZ o _ b a C c1 ho hm qq) (OD _ _ _ _)
           refine⟨.slice (some ⟨b,a+off,none⟩) (l+m) (jz C k),w.setCells b (a+off+l*so) bu,aV,?_,?_,q2,q3⟩
           ·rw[fG (P:=P) (w:=w) (sT:=sT) (xT:=xT) (ty:=ty) hu hi Mc hl nj ES]
            simp only[wc,dC]
            rw[cS,Result.andThen_ok]
           have IC:jz (C - (k - aC)) aC=C - (k - aC):=Uh _
           have:=ao.slice h.next 0 (l+m) aC b (a+off) (C - (k - aC)) q1 (by rw[IC];omega) Ug
           rw[IC] at this
           rw[iJ]
           exact this
          have:=more (some ⟨b,a+off,none⟩) l (jz C k) ((cs.drop off).take (l*so)) uF (h.put o none) rfl g1 (by simp;omega) (by simpa[Builtin.firstCells,dC] using Dh) (by omega) c4 c5 fr ff
          simpa using this
     simp at ha
   simp at ha
  simp at ha
 simp at ha
theorem fF.mk {P:Program}{lo:Nat}{s:Sem Value}{U aV:Mu}{h h':ai}{w w':World}{v v':Value}(hr:s.run P w=.ok v' w')(hv:ao aV v v')(r:Rel aV lo h' w')(f:Frame lo U h w aV h' w') :
 fF P lo s U h w v h':=⟨v',w',aV,hr,hv,r,f⟩
def oR (n:Nat):Value:=.int .i64 n
def Hc (P:Program)(lo:Nat)(h:ai)(dT:TypeId)(d x:Value):Option (Value×ai):=
 match jh P dT,mO d,mO x with
 |some (_,n),some dl,some xl=>
  match sd h n x (Nat.min xl dl) with
  |some xs=>
   bif Nat.beq (Nat.min xl dl) 0 then some (oR 0,h) else
   match d with
   |.slice (some ⟨o,off,none⟩) _ _=>
    match h.get o with
    |some (.cells s cs)=>
     bif Nat.ble lo o&&Nat.ble (off+xs.length) cs.length&&xs.all (·.oneCell') then some (oR (Nat.min xl dl),h.put o (some (.cells s (ia cs off xs)))) else none
    |_=>none
   |_=>none
  |none=>none
 |_,_,_=>none
theorem z5n {P:Program}{lo:Nat}{U:Mu}{h:ai}{w:World}(r:Rel U lo h w){dT xT ty:TypeId}{d d' x x' v:Value}{h':ai}(hd:ao U d d')(hx:ao U x x')
  (ha:Hc P lo h dT d x=some (v,h')):fF P lo (Builtin.copy_ #[dT,xT] ty #[d',x']) U h w v h':=by
 unfold Hc at ha
 split at ha
 ·rename_i e n dl xl mw Di yq
  obtain⟨hu,hn⟩:=xz mw
  obtain⟨ll,px,cx,oP⟩:=OJ (P:=P) (w:=w) hx yq
  obtain⟨_,pd,cd,BE⟩:=OJ (P:=P) (w:=w) hd Di
  split at ha
  ·rename_i xs uD
   obtain⟨bu,hf,gC,hlen⟩:=Ma (P:=P) r hx oP (Nat.min_le_left _ _) uD
   have nj:(Builtin.firstCells n (Nat.min xl dl) x').run P w=.ok bu.toArray w:=hf w (fun _=>rfl)
   have hlen:xs.length=Nat.min xl dl*n:=hlen
   have hmm:min xl dl=Nat.min xl dl:=rfl
   rcases ng (Nat.min xl dl) 0 with⟨hq,cG⟩|⟨hq,cG⟩
   ·rw[hq] at ha;simp only[aQ,aB,bO] at ha;obtain⟨rfl,rfl⟩:=ha
    have yr:bu=[]:=by
     have:bu.length=0:=by rw[← gC.1,hlen,cG];simp
     exact List.eq_nil_of_length_eq_zero this
    subst yr
    rw[cG] at nj
    refine .same r (v':=.int .i64 0) ?_ (.int _ _)
    subst BE
    cases pd<;>simp[Builtin.copy_,run_underlying hu,ll,qt hn,cG,nj,storeCells,goInt]
   rw[hq] at ha;simp only[bx] at ha
   split at ha
   ·rename_i o off l0 k0
    split at ha
    ·rename_i so cs ho
     cases hc:(Nat.ble lo o&&Nat.ble (off+xs.length) cs.length&&xs.all (·.oneCell')) with
     |false=>rw[hc] at ha;simp at ha
     |true=>
      rw[hc] at ha;simp only[aQ,aB,bO] at ha;obtain⟨rfl,rfl⟩:=ha
      simp only[bW] at hc
      obtain⟨⟨c1,c2⟩,c3⟩:=hc
      have c1:lo≤o:=by simpa using c1
      have c2:off+xs.length≤cs.length:=by simpa using c2
      simp only[mO,aB] at Di
      subst Di
      cases hd with
      |slice _ _ _ _ b a C hm hl eY=>
       obtain⟨h5,h6⟩:=GY r ho c1 hm off xs bu gC c2
       have cS:=L4 (P:=P) r ho c1 hm off xs bu gC c3 c2
       refine .mk (v':=.int .i64 (Nat.min xl l0)) (w':=w.setCells b (a+off) bu) ?_ (.int _ _) h5 h6
       simp[Builtin.copy_,run_underlying hu,ll,qt hn,nj,cS,goInt]
      |cj=>exact(cG (by simp)).elim
      |cK=>exact(cG (by simp)).elim
    simp at ha
   simp at ha
  simp at ha
 simp at ha
def p7 (P:Program)(h:ai)(t:TypeId)(x:Value):Option Value:=
 match P.underlying t,x with
 |some .string,.string s=>some (oR s.size)
 |some (.slice _),.slice _ n _=>some (oR n)
 |some (.array n _),_=>some (oR n)
 |some (.map _ _),.map none=>some (oR 0)
 |some (.map _ _),.map (some o)=>match h.get o with
  |some (.map es)=>some (oR es.length)
  |_=>none
 |_,_=>none
theorem z2j {P:Program}{lo:Nat}{U:Mu}{h:ai}{w:World}(r:Rel U lo h w){t ty:TypeId}{x x' v:Value}(hx:ao U x x')(ha:p7 P h t x=some v) :
  fF P lo (Builtin.len_ #[t] ty #[x']) U h w v h:=by
 unfold p7 at ha
 split at ha
 ·rename_i hu;simp only[aB] at ha;subst ha;cases hx
  exact .same r (by simp[Builtin.len_,run_underlying hu];rfl) (.int _ _)
 ·rename_i hu;simp only[aB] at ha;subst ha
  cases hx<;>exact .same r (by simp[Builtin.len_,run_underlying hu];rfl) (.int _ _)
 ·rename_i hu;simp only[aB] at ha;subst ha
  exact .same r (by simp[Builtin.len_,run_underlying hu];rfl) (.int _ _)
 ·rename_i hu;simp only[aB] at ha;subst ha;cases hx
  exact .same r (by simp[Builtin.len_,run_underlying hu];rfl) (.int _ _)
 ·rename_i hu
  split at ha
  ·rename_i es ho
   simp only[aB] at ha;subst ha
   cases hx with
   |map o b C hm=>
    obtain⟨_,entries,clock,h1,l,h2,h3,h4,_⟩:=qT r ho hm
    have hl:entries.size=es.length:=by rw[← h4];exact h2.length_eq
    refine .same r (v':=.int .i64 es.length) ?_ (.int _ _)
    simp[Builtin.len_,run_underlying hu,getObj,Sem.run,h1,hl,goInt]
  simp at ha
 simp at ha
def BF (P:Program)(t:TypeId)(x:Value):Option Value:=
 match P.underlying t,x with
 |some (.slice _),.slice _ _ k=>bif Nat.blt k aC then some (oR k) else none
 |_,_=>none
theorem xbd {P:Program}{U:Mu}{w:World}{t ty:TypeId}{x x' v:Value}(hx:ao U x x')(ha:BF P t x=some v):∃v',(Builtin.cap_ #[t] ty #[x']).run P w=.ok v' w∧ao U v v':=by
 unfold BF at ha
 split at ha
 ·rename_i e p l k hu
  cases hk:Nat.blt k aC with
  |false=>rw[hk] at ha;simp at ha
  |true=>
   rw[hk] at ha;simp only[aQ,aB] at ha;subst ha
   have my:k<aC:=by rw[Nat.blt_eq] at hk;exact hk
   cases hx with
   |eX=>exact⟨_,by simp[Builtin.cap_,run_underlying hu];rfl,.int _ _⟩
   |slice _ _ _ _ b a C hm hl eY=>exact⟨_,by simp[Builtin.cap_,run_underlying hu,rq my];rfl,.int _ _⟩
   |cj=>exact(ON my).elim
   |cK=>exact⟨_,by simp[Builtin.cap_,run_underlying hu];rfl,.int _ _⟩
 simp at ha
def AG (P:Program)(lo:Nat)(h:ai)(t:TypeId)(x:Value):Option ai:=
 match jh P t,x with
 |some _,.slice none _ _=>some h
 |some _,.slice (some _) 0 _=>some h
 |some (e,n),.slice (some ⟨o,off,none⟩) l _=>
  match sL P e,h.get o with
  |some z,some (.cells s cs)=>
   bif Nat.ble lo o&&Nat.beq z.length n&&Nat.ble (off+l*n) cs.length&&z.all (·.oneCell') then some (h.put o (some (.cells s (ia cs off (dJ z l))))) else none
  |_,_=>none
 |_,_=>none
theorem Uj {z:List Value}(h:z.all (·.oneCell')=true):∀n,(dJ z n).all (·.oneCell')=true
 |0=>rfl
 |n+1=>by rw[dJ,List.all_append,h,Uj h n];rfl
theorem Uk {P:Program}{t:TypeId}{q:TypeId×Nat}(h:jh P t=some q):P.underlying t=some (.slice q.1):=(xz (e:=q.1) (n:=q.2) h).1
theorem z1w {P:Program}{lo:Nat}{U:Mu}{h:ai}{w:World}(r:Rel U lo h w){t ty:TypeId}{x x':Value}{h':ai}(hx:ao U x x')(ha:AG P lo h t x=some h') :
  fF P lo (Builtin.clear_ #[t] ty #[x']) U h w Go.undef h':=by
 unfold AG at ha
 split at ha
 ·rename_i mw
  have hu:=Uk mw
  simp only[aB] at ha;subst ha
  cases hx
  exact .same r (v':=Go.undef) (by simp[Builtin.clear_,run_underlying hu,Go.undef]) .undef
 ·rename_i mw
  have hu:=Uk mw
  simp only[aB] at ha;subst ha
  cases hx<;>exact .same r (v':=Go.undef) (by simp[Builtin.clear_,run_underlying hu,Go.undef]) .undef
 ·rename_i e n o off l k db mw
  obtain⟨hu,hn⟩:=xz mw
  split at ha
  ·rename_i z s cs hz ho
   cases hc:(Nat.ble lo o&&Nat.beq z.length n&&Nat.ble (off+l*n) cs.length&&z.all (·.oneCell')) with
   |false=>rw[hc] at ha;simp at ha
   |true=>
    rw[hc] at ha;simp only[aQ,aB] at ha;subst ha
    simp only[bW] at hc
    obtain⟨⟨⟨c1,c2⟩,c3⟩,c4⟩:=hc
    have c1:lo≤o:=by simpa using c1
    have c2:z.length=n:=by simpa using c2
    have c3:off+l*n≤cs.length:=by simpa using c3
    obtain⟨zv,h1,h2,h3⟩:=Bw hz w
    have nf:l≠0:=fun h=>db h
    cases hx with
    |slice _ _ _ _ b a C hm hl eY=>
     have wj:bB U (dJ z l) (dJ z l):=G5 (h2▸ED h3) l
     have hlen:off+(dJ z l).length≤cs.length:=by rw[L6,c2];exact c3
     obtain⟨h5,h6⟩:=GY r ho c1 hm off _ _ wj hlen
     have cS:=L4 (P:=P) r ho c1 hm off _ _ wj (Uj c4 l) hlen
     have Md:(Builtin.zeroCells zv.cells l).toList=dJ z l:=by
      have:=range_zero zv.cells l
      rw[h2] at this;exact this
     refine .mk (v':=Go.undef) (w':=w.setCells b (a+off) (dJ z l)) ?_ .undef h5 h6
     cases l with
     |zero=>exact(nf rfl).elim
     |succ l=>simp[Builtin.clear_,run_underlying hu,h1,Md,cS,Go.undef]
    |cj=>exact(nf rfl).elim
    |cK=>exact(nf rfl).elim
  simp at ha
 simp at ha
def kz (mx:Bool):Value→Value→Option Value
 |.int k x,.int _ y=>some (.int k (bif mx then (if y > x then y else x) else (if y<x then y else x)))
 |_,_=>none
def gX (mx:Bool):Value→List Value→Option Value
 |x,[]=>some x
 |x,y::r=>match kz mx x y with
  |some z=>gX mx z r
  |none=>none
theorem Ul {P:Program}{U:Mu}{w:World}:∀ {r r':List Value} {x x' v:Value},ao U x x'→bB U r r'→gX true x r=some v→∃v',(r'.foldlM Builtin.max2 x').run P w=.ok v' w∧ao U v v'
 |[],r',x,x',v,hx,hr,h=>by
  have:=hr.lV;subst this
  simp only[gX,aB] at h;subst h
  exact⟨x',rfl,hx⟩
 |y::r,r',x,x',v,hx,hr,h=>by
  obtain⟨y',r2,rfl,hy,ky⟩:=hr.eJ
  simp only[gX] at h
  split at h
  ·rename_i z hz
   unfold kz at hz
   split at hz
   ·cases hx;cases hy
    simp only[aQ,aB] at hz;subst hz
    obtain⟨v',h1,h2⟩:=Ul (P:=P) (w:=w) (ao.int _ _) ky h
    exact⟨v',by simp only[List.foldlM_cons,Sem.run_bind,Builtin.max2,Sem.run_pure,Result.andThen_ok];exact h1,h2⟩
   simp at hz
  simp at h
theorem Um {P:Program}{U:Mu}{w:World}:∀ {r r':List Value} {x x' v:Value},ao U x x'→bB U r r'→gX false x r=some v→∃v',(r'.foldlM Builtin.min2 x').run P w=.ok v' w∧ao U v v'
 |[],r',x,x',v,hx,hr,h=>by
  have:=hr.lV;subst this
  simp only[gX,aB] at h;subst h
  exact⟨x',rfl,hx⟩
 |y::r,r',x,x',v,hx,hr,h=>by
  obtain⟨y',r2,rfl,hy,ky⟩:=hr.eJ
  simp only[gX] at h
  split at h
  ·rename_i z hz
   unfold kz at hz
   split at hz
   ·cases hx;cases hy
    simp only[bx,aB] at hz;subst hz
    obtain⟨v',h1,h2⟩:=Um (P:=P) (w:=w) (ao.int _ _) ky h
    exact⟨v',by simp only[List.foldlM_cons,Sem.run_bind,Builtin.min2,Sem.run_pure,Result.andThen_ok];exact h1,h2⟩
   simp at hz
  simp at h
def yv (kd:IntKind)(n:Int):List (Value×Value)→Option (Option Value)
 |[]=>some none
 |(.int k a,v)::r=>
  bif decide (k=kd) then
   match yv kd n r with
   |none=>none
   |some q=>some (bif decide (a=n) then some v else q)
  else none
 |_=>none
theorem Me {kd:IntKind}{n:Int}:∀ {es:List (Value×Value)} {q:Option Value},yv kd n es=some q→
  (∀p∈es,∃a,p.1=.int kd a)∧(∀v,q=some v→(Value.int kd n,v)∈es)∧(q=none→∀p∈es,p.1≠.int kd n)
 |[],q,h=>by simp only[yv,aB] at h;subst h;exact⟨by simp,by simp,by simp⟩
 |(k,v)::r,q,h=>by
  unfold yv at h
  split at h
  ·rename_i heq;cases heq
  ·rename_i k a v' r' heq
   simp only[List.cons.injEq,bO] at heq
   obtain⟨⟨rfl,rfl⟩,rfl⟩:=heq
   cases hk:decide (k=kd) with
   |false=>rw[hk] at h;simp at h
   |true=>
    rw[hk] at h;simp only[aQ] at h
    have my:k=kd:=by simpa using hk
    subst my
    split at h
    ·simp at h
    rename_i q' cG
    obtain⟨i1,i2,i3⟩:=Me cG
    simp only[aB] at h;subst h
    refine⟨?_,?_,?_⟩
    ·intro p hp
     cases List.mem_cons.1 hp with
     |inl e=>subst e;exact⟨a,rfl⟩
     |inr e=>exact i1 p e
    ·intro u hu
     cases ha:decide (a=n) with
     |true=>rw[ha] at hu;simp at hu ha;subst hu ha;simp
     |false=>rw[ha] at hu;simp only[bx] at hu;exact List.mem_cons_of_mem _ (i2 u hu)
    intro hn p hp
    cases ha:decide (a=n) with
    |true=>rw[ha] at hn;simp at hn
    |false=>
     rw[ha] at hn;simp only[bx] at hn
     have OR:a≠n:=by simpa using ha
     cases List.mem_cons.1 hp with
     |inl e=>subst e;simpa using OR
     |inr e=>exact i3 hn p e
  simp at h
theorem findNow_spec {k0 kd:IntKind}{n:Int}:∀(L:List MapEntry) (i:Nat),(∀e∈L,∃a,e.key=.int kd a)→
  (∃j e,L[j]?=some e∧e.key=.int kd n∧Instr.findNow (.int k0) (.int kd n) L i=some (some (i+j,e.val)))∨((∀e∈L,e.key≠.int kd n)∧Instr.findNow (.int k0) (.int kd n) L i=some none)
 |[],i,_=>.inr ⟨by simp,rfl⟩
 |e::L,i,h=>by
  obtain⟨a,ha⟩:=h e (by simp)
  simp only[Instr.findNow,ha,Instr.sameNow,if_true]
  by_cases hn:n=a
  ·subst hn
   simp only[beq_self_eq_true]
   exact .inl ⟨0,e,by simp,ha,by simp⟩
  have:(n==a)=false:=by simpa using hn
  simp only[this]
  rcases findNow_spec (k0:=k0) (kd:=kd) (n:=n) L (i+1) (fun e he=>h e (List.mem_cons_of_mem _ he)) with⟨j,e',h1,h2,h3⟩|⟨h1,h2⟩
  ·exact .inl ⟨j+1,e',by simpa using h1,h2,by rw[h3];simp;omega⟩
  refine .inr ⟨fun e' dV=>?_,h2⟩
  cases List.mem_cons.1 dV with
  |inl OS=>subst OS;rw[ha];simp;exact fun h=>hn h.symm
  |inr OS=>exact h1 e' OS
def o8 (P:Program)(t:TypeId):Option (TypeId×TypeId):=
 match P.underlying t with
 |some (.map k e)=>match P.underlying k with
  |some (.int _)=>some (k,e)
  |_=>none
 |_=>none
theorem OT {P:Program}{t k e:TypeId}(h:o8 P t=some (k,e)):P.underlying t=some (.map k e)∧∃k0,P.underlying k=some (.int k0):=by
 unfold o8 at h
 split at h
 ·rename_i k' e' hu
  split at h
  ·rename_i k0 hk
   simp only[aB,bO] at h
   obtain⟨rfl,rfl⟩:=h
   exact⟨hu,k0,hk⟩
  simp at h
 simp at h
theorem Mf {α:Type}{l:List α}(h:l.Nodup){i j:Nat}(hi:i<l.length)(hj:j<l.length)(he:l[i]=l[j]):i=j:=by
 rcases Nat.lt_trichotomy i j with h1|h1|h1
 ·exact absurd he (List.pairwise_iff_getElem.1 h i j hi hj h1)
 ·exact h1
 exact absurd he.symm (List.pairwise_iff_getElem.1 h j i hj hi h1)
theorem IE {P:Program}{w:World}{U:Mu}{es:List (Value×Value)}{entries:Array MapEntry}{clock:Nat}(hM:jf U es entries clock){kT:TypeId}{k0 kd:IntKind}{n:Int}{q:Option Value}(hk:P.underlying kT=some (.int k0))(hq:yv kd n es=some q) :
  (∃v j e,q=some v∧entries[j]?=some e∧e.key=.int kd n∧ao U v e.val∧(Instr.findKey kT (.int kd n) entries.toList).run P w=.ok (some (j,e.val)) w)∨
  (q=none∧(∀e∈entries.toList,e.key≠.int kd n)∧(Instr.findKey kT (.int kd n) entries.toList).run P w=.ok none w):=by
 obtain⟨l,h1,h0,h2,h3,h4,h5⟩:=hM
 obtain⟨i1,i2,i3⟩:=Me hq
 have bk:∀e∈entries.toList,∃p∈es,Ez U p e:=fun e he=>by
  obtain⟨j,hj⟩:=List.getElem?_of_mem he
  have mN:entries[j]?=some e:=by simpa using hj
  have eV:j<l.length:=by
   rw[h2]
   rcases Nat.lt_or_ge j entries.size with h|h
   ·exact h
   rw[Array.getElem?_eq_none h] at mN;simp at mN
  exact⟨l[j],h1.mem_iff.1 (List.getElem_mem eV),h3 j l[j] e (by simp[eV]) mN⟩
 have o9:∀e∈entries.toList,∃a,e.key=.int kd a:=fun e he=>by
  obtain⟨p,hp,hr⟩:=bk e he
  obtain⟨a,ha⟩:=i1 p hp
  exact⟨a,by rw[hr.1,ha]⟩
 rcases findNow_spec (k0:=k0) (n:=n) entries.toList 0 o9 with⟨j,e,g1,g2,g3⟩|⟨g1,g2⟩
 ·have he:e∈entries.toList:=List.mem_of_getElem? g1
  have BG:entries[j]?=some e:=by simpa using g1
  have eV:j<l.length:=by
   rw[h2]
   rcases Nat.lt_or_ge j entries.size with h|h
   ·exact h
   rw[Array.getElem?_eq_none h] at BG;simp at BG
  have hr:=h3 j l[j] e (by simp[eV]) BG
  have pa:l[j]∈es:=h1.mem_iff.1 (List.getElem_mem eV)
  cases q with
  |none=>exact absurd (hr.1▸g2) (i3 rfl _ pa)
  |some v=>
   have hv:=i2 v rfl
   have yo:(Value.int kd n,v)∈l:=h1.mem_iff.2 hv
   have:l[j]=(Value.int kd n,v):=by
    obtain⟨j2,ET,rB⟩:=List.getElem_of_mem yo
    have p8:(l.map (·.1))[j]'(by simpa using eV)=(l.map (·.1))[j2]'(by simpa using ET):=by
     simp only[List.getElem_map,rB]
     rw[← hr.1,g2]
    have BH:j=j2:=Mf h0 _ _ p8
    subst BH
    exact rB
   refine .inl ⟨v,j,e,rfl,BG,g2,?_,?_⟩
   ·have:=hr.2;rwa [‹l[j]=_›] at this
   simp only[Instr.findKey,Sem.run_bind,run_underlying hk,Result.andThen_ok,g3,Sem.run_pure,Nat.zero_add]
 refine .inr ⟨?_,g1,?_⟩
 ·cases q with
  |none=>rfl
  |some v=>
   have hv:=i2 v rfl
   have yo:(Value.int kd n,v)∈l:=h1.mem_iff.2 hv
   obtain⟨j2,ET,rB⟩:=List.getElem_of_mem yo
   have vB:j2<entries.size:=by omega
   have:=h3 j2 l[j2] entries[j2] (by simp[ET]) (by simp[vB])
   rw[rB] at this
   exact absurd this.1 (g1 _ (by simp))
 simp only[Instr.findKey,Sem.run_bind,run_underlying hk,Result.andThen_ok,g2,Sem.run_pure]
def fH (P:Program)(t:TypeId):Option Value:=
 match (P.info? t).bind (·.zero) with
 |some v=>bif ot v then some v else none
 |none=>none
theorem Un {P:Program}{t:TypeId}{z:Value}(h:fH P t=some z)(w:World):(zeroValue t).run P w=.ok z w∧ot z=true:=by
 unfold fH at h
 cases hi:P.info? t with
 |none=>simp[hi] at h
 |some i=>
  simp only[hi,Option.bind_some] at h
  cases hz:i.zero with
  |none=>simp[hz] at h
  |some v=>
   simp only[hz] at h
   cases hs:ot v with
   |false=>simp[hs] at h
   |true=>simp[hs] at h;subst h;exact⟨by simp[zeroValue,typeInfo,hi,hz],hs⟩
theorem run_checkKey {P:Program}{w:World}{kT:TypeId}{k0 kd:IntKind}{n:Int}(hk:P.underlying kT=some (.int k0))(b:Bool):(Instr.checkKey b 10000 kT (.int kd n)).run P w=.ok () w:=by
 have:∀d,(Instr.checkKey b (d+1) kT (.int kd n)).run P w=.ok () w:=fun d=>by
  simp only[Instr.checkKey,Sem.run_bind,run_underlying hk,Result.andThen_ok,Sem.run_pure]
 exact this 9999
def xC (P:Program)(h:ai)(t:TypeId)(m k:Value)(ok:Bool):Option Value:=
 match o8 P t,k with
 |some (_,e),.int kd n=>
  match fH P e with
  |some z=>
   let r:Option (Option Value):=match m with
    |.map none=>some none
    |.map (some o)=>match h.get o with
     |some (.map es)=>yv kd n es
     |_=>none
    |_=>none
   match r with
   |some (some v)=>some (bif ok then .tuple #[v,.bool true] else v)
   |some none=>some (bif ok then .tuple #[z,.bool false] else z)
   |none=>none
  |none=>none
 |_,_=>none
theorem ao.pair {U:Mu}{a b a' b':Value}(ha:ao U a a')(hb:ao U b b'):ao U (.tuple #[a,b]) (.tuple #[a',b']):=by
 have:=ao.uy (bB.cons ha (bB.cons hb (bB.nil U)))
 simpa using this
theorem zy4 {P:Program}{lo:Nat}{U:Mu}{h:ai}{w:World}(r:Rel U lo h w){t:TypeId}{m m' k k' v:Value}{ok:Bool}(hm:ao U m m')(hk:ao U k k')(ha:xC P h t m k ok=some v) :
  fF P lo (Instr.lookup t m' k' ok) U h w v h:=by
 unfold xC at ha
 split at ha
 ·rename_i kT e kd n mw
  obtain⟨hu,k0,eY⟩:=OT mw
  cases hk
  split at ha
  ·rename_i z hz
   obtain⟨nk,uG⟩:=Un hz w
   have BJ:ao U z z:=.Bv uG
   simp only at ha
   split at ha
   ·rename_i v0 hr
    simp only[aB] at ha;subst ha
    split at hr
    ·simp at hr
    ·rename_i o
     split at hr
     ·rename_i es ho
      cases hm with
      |map _ b C ov=>
       obtain⟨_,entries,clock,h1,hM⟩:=qT r ho ov
       rcases IE (P:=P) (w:=w) hM eY hr with⟨v1,j,e1,g1,g2,g3,g4,g5⟩|⟨g1,_⟩
       ·simp only[aB] at g1;subst g1
        cases ok with
        |true=>exact .same r (by simp[Instr.lookup,run_underlying hu,getObj,Sem.run,h1,run_checkKey eY,g5]) (.pair g4 (.bool true))
        |false=>exact .same r (by simp[Instr.lookup,run_underlying hu,getObj,Sem.run,h1,run_checkKey eY,g5]) g4
       cases g1
     simp at hr
    simp at hr
   ·rename_i hr
    simp only[aB] at ha;subst ha
    split at hr
    ·cases hm
     cases ok with
     |true=>exact .same r (by simp[Instr.lookup,run_underlying hu,run_checkKey eY,Instr.findKey,run_underlying eY,Instr.findNow,nk]) (.pair BJ (.bool false))
     |false=>exact .same r (by simp[Instr.lookup,run_underlying hu,run_checkKey eY,Instr.findKey,run_underlying eY,Instr.findNow,nk]) BJ
    ·rename_i o
     split at hr
     ·rename_i es ho
      cases hm with
      |map _ b C ov=>
       obtain⟨_,entries,clock,h1,hM⟩:=qT r ho ov
       rcases IE (P:=P) (w:=w) hM eY hr with⟨v1,j,e1,g1,_⟩|⟨_,_,g5⟩
       ·cases g1
       cases ok with
       |true=>exact .same r (by simp[Instr.lookup,run_underlying hu,getObj,Sem.run,h1,run_checkKey eY,g5,nk]) (.pair BJ (.bool false))
       |false=>exact .same r (by simp[Instr.lookup,run_underlying hu,getObj,Sem.run,h1,run_checkKey eY,g5,nk]) BJ
     simp at hr
    simp at hr
   simp at ha
  simp at ha
 simp at ha
def l4 (n:Int)(v:Value)(p:Value×Value):Value×Value:=
 match p with
 |(.int k a,u)=>bif decide (a=n) then (.int k a,v) else (.int k a,u)
 |p=>p
def sR (n:Int)(p:Value×Value):Bool:=
 match p.1 with
 |.int _ a=>!decide (a=n)
 |_=>true
def EU (P:Program)(lo:Nat)(h:ai)(t:TypeId)(m k v:Value):Option ai:=
 match o8 P t,m,k with
 |some _,.map (some o),.int kd n=>
  match h.get o with
  |some (.map es)=>
   bif Nat.ble lo o then
    match yv kd n es with
    |some (some _)=>some (h.put o (some (.map (es.map (l4 n v)))))
    |some none=>some (h.put o (some (.map (es++[(.int kd n,v)]))))
    |none=>none
   else none
  |_=>none
 |_,_,_=>none
theorem Uo (d:Nat)(k:IntKind)(n:Int):Instr.sameBits d (.int k n) (.int k n)=true:=by
 cases d<;>simp[Instr.sameBits]
theorem Dk {P:Program}{w:World}{b:Nat}{entries gO:Array MapEntry}{clock l5:Nat}(h:w.heap[b]?=some (.map entries clock)) :
  (setObj b (.map gO l5)).run P w=.ok () { w with heap:=w.heap.setIfInBounds b (.map gO l5) }:=by
 simp[setObj,Sem.run,h]
theorem Dl {U:Mu}{lo:Nat}{h:ai}{w:World}(r:Rel U lo h w){o:Nat}{es bs:List (Value×Value)}(hx:h.get o=some (.map es))(hl:lo≤o){b C:Nat}(hm:U o=some (b,0,C))
  {entries gO:Array MapEntry} {clock l5:Nat} (hb:w.heap[b]?=some (.map entries clock)) (hM:jf U bs gO l5) :
  Rel U lo (h.put o (some (.map bs))) { w with heap:=w.heap.setIfInBounds b (.map gO l5) }∧Frame lo U h w U (h.put o (some (.map bs))) { w with heap:=w.heap.setIfInBounds b (.map gO l5) }:=by
 have a8:b<w.heap.size:=by
  rcases Nat.lt_or_ge b w.heap.size with h'|h'
  ·exact h'
  simp[Array.getElem?_eq_none h'] at hb
 refine OA r hx hl hm (.map bs) (by simp) (fun b' sK=>?_) ⟨rfl,gO,l5,by simp[a8],hM⟩ (fun off=>?_) ⟨rfl,rfl,rfl,fun _=>by first|exact Nat.le_refl _|exact Nat.le_add_right _ _|exact Nat.le_succ _⟩
 ·have:b≠b':=fun h=>sK h.symm
  simp[this]
 simp[World.frozen?,a8]
theorem zqu {P:Program}{lo:Nat}{U:Mu}{h:ai}{w:World}(r:Rel U lo h w){t:TypeId}{m m' k k' v v':Value}{h':ai}(hm:ao U m m')(hk:ao U k k')(hv:ao U v v')
  (ha:EU P lo h t m k v=some h'):∃w',(Instr.mapUpdate t m' k' v').run P w=.ok () w'∧Rel U lo h' w'∧Frame lo U h w U h' w':=by
 unfold EU at ha
 split at ha
 ·rename_i q o kd n mw
  obtain⟨kT,e⟩:=q
  obtain⟨hu,k0,eY⟩:=OT mw
  cases hk
  split at ha
  ·rename_i es ho
   cases cY:Nat.ble lo o with
   |false=>rw[cY] at ha;simp at ha
   |true=>
   rw[cY] at ha;simp only[aQ] at ha
   have pe:lo≤o:=by simpa using cY
   cases hm with
   |map _ b C ov=>
    obtain⟨_,entries,clock,h1,hM⟩:=qT r ho ov
    split at ha
    ·rename_i v0 hq
     simp only[aB] at ha;subst ha
     rcases IE (P:=P) (w:=w) hM eY hq with⟨v1,j,e1,g1,g2,g3,g4,g5⟩|⟨g1,_⟩
     ·have se:jf U (es.map (l4 n v)) (entries.modify j fun e=>{ e with key:=.int kd n,val:=v' }) clock:=by
       obtain⟨l,p1,p0,p2,p3,p4,p5⟩:=hM
       obtain⟨i1,_,_⟩:=Me hq
       have o9:∀p∈l,∃a,p.1=.int kd a:=fun p hp=>i1 p (p1.mem_iff.1 hp)
       have eV:j<l.length:=by
        rw[p2]
        rcases Nat.lt_or_ge j entries.size with h|h
        ·exact h
        rw[Array.getElem?_eq_none h] at g2;simp at g2
       have EV:∀p,(l4 n v p).1=p.1:=by
        intro p;unfold l4;split
        ·rename_i k1 a1 u1;cases decide (a1=n)<;>rfl
        rfl
       refine⟨l.map (l4 n v),p1.map _,?_,by simp[p2],?_,?_,?_⟩
       ·rw[List.map_map]
        have:((fun x:Value×Value=>x.1)∘l4 n v)=(fun x=>x.1):=funext EV
        rw[this];exact p0
       ·intro i p e' hp dV
        rw[List.getElem?_map] at hp
        cases mQ:l[i]? with
        |none=>rw[mQ] at hp;simp at hp
        |some p'=>
         rw[mQ] at hp;simp only[Option.map_some,aB] at hp;subst hp
         rw[Array.getElem?_modify] at dV
         by_cases gP:j=i
         ·subst gP
          simp only[if_true,g2,Option.map_some,aB] at dV;subst dV
          have hr:=p3 j p' e1 mQ g2
          have qu:p'.1=.int kd n:=by rw[← hr.1,g3]
          obtain⟨pk,pv⟩:=p'
          simp only at qu;subst qu
          refine⟨?_,?_⟩
          ·simp[l4]
          simpa[l4] using hv
         simp only[gP,if_false] at dV
         have hr:=p3 i p' e' mQ dV
         obtain⟨a,ha⟩:=o9 p' (List.mem_of_getElem? mQ)
         have db:a≠n:=by
          intro hh;subst hh
          have cE:i<l.length:=by
           rcases Nat.lt_or_ge i l.length with h|h
           ·exact h
           rw[List.getElem?_eq_none h] at mQ;simp at mQ
          have e2:l[j].1=.int kd a:=by
           have:=p3 j l[j] e1 (by simp[eV]) g2
           rw[← this.1,g3]
          have e3:l[i].1=.int kd a:=by
           rw[List.getElem?_eq_getElem cE] at mQ;injection mQ with mQ;rw[mQ,ha]
          exact gP (Mf p0 (i:=j) (j:=i) (by simpa using eV) (by simpa using cE) (by simp[e2,e3]))
         obtain⟨pk,pv⟩:=p'
         simp only at ha;subst ha
         have hd:decide (a=n)=false:=by simpa using db
         have:l4 n v (Value.int kd a,pv)=(Value.int kd a,pv):=by simp[l4,hd]
         rw[this];exact hr
       ·have:((entries.modify j fun e=>{ e with key:=.int kd n,val:=v' }).toList.map (·.born))=entries.toList.map (·.born):=by
         apply List.ext_getElem?
         intro i
         simp only[List.getElem?_map,Array.getElem?_toList,Array.getElem?_modify]
         by_cases gP:j=i
         ·simp[gP]
          cases entries[i]?<;>rfl
         simp[gP]
        rw[this];exact p4
       intro e' dV
       obtain⟨i,hi⟩:=List.getElem?_of_mem dV
       rw[Array.getElem?_toList,Array.getElem?_modify] at hi
       by_cases gP:j=i
       ·subst gP
        simp only[if_true,g2,Option.map_some,aB] at hi;subst hi
        exact p5 e1 (by simpa using List.mem_of_getElem? (l:=entries.toList) (by simpa using g2))
       simp only[gP,if_false] at hi
       exact p5 e' (by simpa using List.mem_of_getElem? (l:=entries.toList) (by simpa using hi))
      obtain⟨h5,h6⟩:=Dl r ho pe ov h1 se
      refine⟨_,?_,h5,h6⟩
      have EW:(Instr.keyThatStays (((entries[j]?).map (·.key)).getD (.int kd n)) (.int kd n)).run P w=.ok (.int kd n) w:=by
       simp[g2,g3,Instr.keyThatStays,Uo]
      simp only[Instr.mapUpdate,Sem.run_bind,run_underlying hu,Result.andThen_ok]
      have qW:(getObj b).run P w=.ok (.map entries clock) w:=by simp[getObj,Sem.run,h1]
      simp only[Sem.run_bind,qW,Result.andThen_ok,run_checkKey eY,g5,EW,Dk h1]
     cases g1
    ·rename_i hq
     simp only[aB] at ha;subst ha
     rcases IE (P:=P) (w:=w) hM eY hq with⟨v1,j,e1,g1,_⟩|⟨_,g4,g5⟩
     ·cases g1
     have se:jf U (es++[(.int kd n,v)]) (entries.push { key:=.int kd n,val:=v',born:=clock }) (clock+1):=by
      obtain⟨l,p1,p0,p2,p3,p4,p5⟩:=hM
      have OU:∀p∈l,p.1≠.int kd n:=fun p hp=>by
       obtain⟨i,hi⟩:=List.getElem?_of_mem hp
       have cE:i<entries.size:=by
        rw[← p2]
        rcases Nat.lt_or_ge i l.length with h|h
        ·exact h
        rw[List.getElem?_eq_none h] at hi;simp at hi
       have hr:=p3 i p entries[i] hi (by simp[cE])
       rw[← hr.1]
       exact g4 _ (by simp)
      refine⟨l++[(.int kd n,v)],p1.append_right _,?_,by simp[p2],?_,?_,?_⟩
      ·rw[List.map_append,List.nodup_append]
       refine⟨p0,by simp,?_⟩
       intro a ha b hb
       simp at hb;subst hb
       obtain⟨p,hp,rfl⟩:=List.mem_map.1 ha
       exact OU p hp
      ·intro i p e' hp dV
       rw[Array.getElem?_push] at dV
       by_cases hi:i=entries.size
       ·simp only[hi,if_true,aB] at dV;subst dV
        rw[List.getElem?_append_right (by omega),hi,p2] at hp
        simp at hp;subst hp
        exact⟨rfl,hv⟩
       simp only[hi,if_false] at dV
       have cE:i<entries.size:=by
        rcases Nat.lt_or_ge i entries.size with h|h
        ·exact h
        rw[Array.getElem?_eq_none h] at dV;simp at dV
       rw[List.getElem?_append_left (by omega)] at hp
       exact p3 i p e' hp dV
      ·simp only[Array.toList_push,List.map_append,List.map_cons,List.map_nil]
       rw[List.pairwise_append]
       refine⟨p4,by simp,?_⟩
       intro a ha b hb
       simp at hb;subst hb
       obtain⟨e',dV,rfl⟩:=List.mem_map.1 ha
       exact p5 e' dV
      intro e' dV
      simp only[Array.toList_push,List.mem_append,List.mem_singleton] at dV
      rcases dV with dV|dV
      ·have:=p5 e' dV;omega
      subst dV;simp
     obtain⟨h5,h6⟩:=Dl r ho pe ov h1 se
     refine⟨_,?_,h5,h6⟩
     have qW:(getObj b).run P w=.ok (.map entries clock) w:=by simp[getObj,Sem.run,h1]
     simp only[Instr.mapUpdate,Sem.run_bind,run_underlying hu,Result.andThen_ok,qW,run_checkKey eY,g5,Dk h1]
    simp at ha
  simp at ha
 simp at ha
def EX (P:Program)(lo:Nat)(h:ai)(t:TypeId)(m k:Value):Option ai:=
 match o8 P t,m,k with
 |some _,.map (some o),.int kd n=>
  match h.get o with
  |some (.map es)=>
   bif Nat.ble lo o then
    match yv kd n es with
    |some _=>some (h.put o (some (.map (es.filter (sR n)))))
    |none=>none
   else none
  |_=>none
 |_,_,_=>none
theorem zm9 {l:List (Value×Value)}{kd:IntKind}{n:Int}(hk:∀p∈l,∃a,p.1=.int kd a)(h0:(l.map (·.1)).Nodup){j:Nat}(hj:j<l.length)(he:l[j].1=.int kd n):l.filter (sR n)=l.eraseIdx j:=by
 induction l generalizing j with
 |nil=>simp at hj
 |cons p r ih=>
  obtain⟨pk,pv⟩:=p
  obtain⟨a,ha⟩:=hk (pk,pv) (by simp)
  simp only at ha;subst ha
  simp only[List.map_cons,List.nodup_cons] at h0
  cases j with
  |zero=>
   simp only[List.getElem_cons_zero,Value.int.injEq,true_and] at he
   subst he
   have bk:∀q∈r,sR a q=true:=by
    intro q hq
    obtain⟨b,hb⟩:=hk q (List.mem_cons_of_mem _ hq)
    have:b≠a:=by
     intro hh;subst hh
     exact h0.1 (List.mem_map.2 ⟨q,hq,hb⟩)
    simp[sR,hb,this]
   have h1:sR a (Value.int kd a,pv)=false:=by simp[sR]
   simp only[List.filter_cons,h1,Bool.false_eq_true,if_false,List.eraseIdx_cons_zero]
   exact List.filter_eq_self.2 bk
  |succ j=>
   simp only[List.length_cons,Nat.add_lt_add_iff_right] at hj
   simp only[List.getElem_cons_succ] at he
   have db:a≠n:=by
    intro hh;subst hh
    exact h0.1 (List.mem_map.2 ⟨r[j],List.getElem_mem hj,he⟩)
   have h1:sR n (Value.int kd a,pv)=true:=by simp[sR,db]
   simp only[List.filter_cons,h1,if_true,List.eraseIdx_cons_succ]
   rw[ih (fun q hq=>hk q (List.mem_cons_of_mem _ hq)) h0.2 hj he]
theorem zy9 {P:Program}{lo:Nat}{U:Mu}{h:ai}{w:World}(r:Rel U lo h w){t IF ty:TypeId}{m m' k k':Value}{h':ai}(hm:ao U m m')(hk:ao U k k')
  (ha:EX P lo h t m k=some h'):fF P lo (Builtin.delete_ #[t,IF] ty #[m',k']) U h w Go.undef h':=by
 unfold EX at ha
 split at ha
 ·rename_i q o kd n mw
  obtain⟨kT,e⟩:=q
  obtain⟨hu,k0,eY⟩:=OT mw
  cases hk
  split at ha
  ·rename_i es ho
   cases cY:Nat.ble lo o with
   |false=>rw[cY] at ha;simp at ha
   |true=>
   rw[cY] at ha;simp only[aQ] at ha
   have pe:lo≤o:=by simpa using cY
   cases hm with
   |map _ b C ov=>
    obtain⟨_,entries,clock,h1,hM⟩:=qT r ho ov
    split at ha
    ·rename_i q0 hq
     simp only[aB] at ha;subst ha
     have qW:(getObj b).run P w=.ok (.map entries clock) w:=by simp[getObj,Sem.run,h1]
     obtain⟨i1,i2,i3⟩:=Me hq
     rcases IE (P:=P) (w:=w) hM eY hq with⟨v1,j,e1,g1,g2,g3,g4,g5⟩|⟨g1,g4,g5⟩
     ·have se:jf U (es.filter (sR n)) (entries.eraseIdxIfInBounds j) clock:=by
       obtain⟨l,p1,p0,p2,p3,p4,p5⟩:=hM
       have vB:j<entries.size:=by
        rcases Nat.lt_or_ge j entries.size with h|h
        ·exact h
        rw[Array.getElem?_eq_none h] at g2;simp at g2
       have eV:j<l.length:=by omega
       have o9:∀p∈l,∃a,p.1=.int kd a:=fun p hp=>i1 p (p1.mem_iff.1 hp)
       have EY:l[j].1=.int kd n:=by
        have:=p3 j l[j] e1 (by simp[eV]) g2
        rw[← this.1,g3]
       have tR:=zm9 o9 p0 eV EY
       have mR:(entries.eraseIdxIfInBounds j).toList=entries.toList.eraseIdx j:=by
        simp[Array.eraseIdxIfInBounds,vB]
       refine⟨l.filter (sR n),p1.filter _,?_,?_,?_,?_,?_⟩
       ·exact p0.sublist ((List.filter_sublist).map _)
       ·rw[tR,List.length_eraseIdx,if_pos eV,p2]
        have:(entries.eraseIdxIfInBounds j).toList.length=entries.size - 1:=by rw[mR,List.length_eraseIdx,if_pos (by simpa using vB)];simp
        rw[Array.length_toList] at this
        omega
       ·intro i p e' hp dV
        rw[tR,List.getElem?_eraseIdx] at hp
        rw[← Array.getElem?_toList,mR,List.getElem?_eraseIdx] at dV
        split at hp
        ·rename_i a8;rw[if_pos a8] at dV;exact p3 i p e' hp (by simpa using dV)
        rename_i a8;rw[if_neg a8] at dV;exact p3 (i+1) p e' hp (by simpa using dV)
       ·rw[mR];exact p4.sublist ((List.eraseIdx_sublist _ _).map _)
       intro e' dV;rw[mR] at dV;exact p5 e' ((List.eraseIdx_sublist _ _).subset dV)
      obtain⟨h5,h6⟩:=Dl r ho pe ov h1 se
      refine .mk (v':=Go.undef) ?_ .undef h5 h6
      simp[Builtin.delete_,qW,run_checkKey eY,g5,Dk h1,Go.undef,run_underlying hu]
     have se:jf U (es.filter (sR n)) entries clock:=by
      have:es.filter (sR n)=es:=by
       rw[List.filter_eq_self]
       intro p hp
       obtain⟨a,ha⟩:=i1 p hp
       have:=i3 g1 p hp
       have db:a≠n:=by intro hh;subst hh;exact this ha
       simp[sR,ha,db]
      rw[this];exact hM
     obtain⟨h5,h6⟩:=Dl r ho pe ov h1 se
     refine .mk (v':=Go.undef) ?_ .undef h5 h6
     simp[Builtin.delete_,qW,run_checkKey eY,g5,Dk h1,Go.undef,run_underlying hu]
    simp at ha
  simp at ha
 simp at ha
def lp:List Value→List Value→Option Bool
 |[],[]=>some true
 |.int k a::r,.int k' b::s=>bif decide (k=k') then (match lp r s with|some q=>some (decide (a=b)&&q)|none=>none) else none
 |_,_=>none
def dD:List Value→Bool
 |[]=>true
 |.int _ _::r=>dD r
 |_=>false
theorem IG:∀ {l m:List Value} {q:Bool},lp l m=some q→(q=true↔l=m)∧l.length=m.length
 |[],[],q,h=>by simp[lp] at h;simp[h]
 |[],v::m,q,h=>by cases v<;>simp[lp] at h
 |v::l,[],q,h=>by cases v<;>simp[lp] at h
 |v::l,u::m,q,h=>by
  unfold lp at h
  split at h
  ·rename_i h1 h2;cases h1
  ·rename_i k a r k' b s h1 h2
   injection h1 with e1 e2;injection h2 with e3 e4
   subst e1;subst e2;subst e3;subst e4
   cases hk:decide (k=k') with
   |false=>rw[hk] at h;cases h
   |true=>
    rw[hk,aQ] at h
    have hk:k=k':=by simpa using hk
    subst hk
    split at h
    ·rename_i q' hq
     obtain⟨i1,i2⟩:=IG hq
     injection h with h;subst h
     refine⟨?_,by simp[i2]⟩
     rw[bW,decide_eq_true_eq,i1]
     constructor
     ·rintro⟨rfl,rfl⟩;rfl
     intro h;injection h with h1 h2;injection h1 with _ h3;exact⟨h3,h2⟩
    cases h
  cases h
theorem Up {U:Mu}:∀ {l l':List Value},bB U l l'→dD l=true→l'=l
 |[],l',h,_=>by
  have:=h.1
  exact List.eq_nil_of_length_eq_zero (by simpa using this.symm)
 |.int k a::r,l',h,hi=>by
  cases l' with
  |nil=>have:=h.1;simp at this
  |cons v s=>
   have h0:=h.2 0 (.int k a) rfl
   obtain⟨v',h1,h2⟩:=h0
   simp at h1;subst h1
   cases h2
   have hr:bB U r s:=⟨by have:=h.1;simpa using this,fun i x hx=>by
    obtain⟨v',h1,h2⟩:=h.2 (i+1) x (by simpa using hx)
    exact⟨v',by simpa using h1,h2⟩⟩
   rw[Up hr hi]
 |.bool _::_,_,_,hi=>by cases hi
 |.float _ _::_,_,_,hi=>by cases hi
 |.complex _ _ _::_,_,_,hi=>by cases hi
 |.string _::_,_,_,hi=>by cases hi
 |.pointer _::_,_,_,hi=>by cases hi
 |.slice _ _ _::_,_,_,hi=>by cases hi
 |.map _::_,_,_,hi=>by cases hi
 |.agg _::_,_,_,hi=>by cases hi
 |.tuple _::_,_,_,hi=>by cases hi
 |.iface _ _::_,_,_,hi=>by cases hi
 |.func _ _ _::_,_,_,hi=>by cases hi
 |.nilFunc::_,_,_,hi=>by cases hi
 |.nilIface::_,_,_,hi=>by cases hi
 |.chan _::_,_,_,hi=>by cases hi
theorem Uq (U:Mu):∀ {l:List Value},dD l=true→bB U l l:=fun {l} hi=>by
 refine⟨rfl,fun i v hv=>?_⟩
 induction l generalizing i with
 |nil=>simp at hv
 |cons a r ih=>
  cases a with
  |int k n=>
   cases i with
   |zero=>simp at hv;subst hv;exact⟨_,rfl,.int _ _⟩
   |succ i=>exact ih hi i (by simpa using hv)
  |_=>cases hi
theorem OV:∀ {l m:List Value} {q:Bool},lp l m=some q→dD l=true∧dD m=true
 |[],[],q,h=>⟨rfl,rfl⟩
 |[],v::m,q,h=>by cases v<;>simp[lp] at h
 |v::l,[],q,h=>by cases v<;>simp[lp] at h
 |v::l,u::m,q,h=>by
  unfold lp at h
  split at h
  ·rename_i h1 h2;cases h1
  ·rename_i k a r k' b s h1 h2
   injection h1 with e1 e2;injection h2 with e3 e4
   subst e1;subst e2;subst e3;subst e4
   cases hk:decide (k=k') with
   |false=>rw[hk] at h;cases h
   |true=>
    rw[hk,aQ] at h
    split at h
    ·rename_i q' hq;exact⟨(OV hq).1,(OV hq).2⟩
    cases h
  cases h
def Dm (P:Program):Nat→List Field→Bool
 |_,[]=>true
 |i,f::r=>(match P.underlying f.type with|some (.int _)=>true|_=>false)&&(match bK P f.type,dH P f.type with|some false,some _=>true|_,_=>false)&&Nat.beq f.offset i&&!(f.name == "_")&&Dm P (i+1) r
def AH (P:Program)(t:TypeId):Option (TypeId×TypeId×Nat):=
 match P.underlying t with
 |some (.map k e)=>match P.underlying k with
  |some (.struct fs)=>bif !(P.stoodInHeld k||P.eqGuardType P.depth k)&&Dm P 0 fs.toList then some (k,e,fs.toList.length) else none
  |_=>none
 |_=>none
structure yx (P:Program) (k:TypeId) (n:Nat):Prop where
  ex:∃fs:Array Field,P.underlying k=some (.struct fs)∧Dm P 0 fs.toList=true∧fs.toList.length=n
  nh:(P.stoodInHeld k||P.eqGuardType P.depth k)=false
theorem OW {P:Program}{t k e:TypeId}{n:Nat}(h:AH P t=some (k,e,n)):P.underlying t=some (.map k e)∧yx P k n:=by
 unfold AH at h
 split at h
 ·rename_i k' e' hu
  split at h
  ·rename_i fs hk
   cases hb:(!(P.stoodInHeld k'||P.eqGuardType P.depth k')&&Dm P 0 fs.toList) with
   |false=>rw[hb] at h;cases h
   |true=>
    rw[hb] at h
    simp only[aQ,aB,bO] at h
    obtain⟨rfl,rfl,rfl⟩:=h
    rw[bW] at hb
    exact⟨hu,⟨fs,hk,hb.2,rfl⟩,by simpa using hb.1⟩
  cases h
 cases h
theorem Ur {P:Program}{i:Nat}{f:Field}{r:List Field}(h:Dm P i (f::r)=true):(∃k0,P.underlying f.type=some (.int k0))∧bK P f.type=some false∧(∃n,dH P f.type=some n)∧f.offset=i∧(f.name == "_")=false∧Dm P (i+1) r=true:=by
 simp only[Dm,bW] at h
 obtain⟨⟨⟨⟨h1,h2⟩,h3⟩,h4⟩,h5⟩:=h
 refine⟨?_,?_,?_,v7 h3,by simpa using h4,h5⟩
 ·split at h1
  ·rename_i k0 hk;exact⟨k0,hk⟩
  cases h1
 ·split at h2
  ·rename_i ha hb;exact ha
  cases h2
 split at h2
 ·rename_i n ha hb;exact⟨n,hb⟩
 cases h2
theorem Us:∀ {l m:List Value} {q:Bool} {i:Nat},lp l m=some q→i<l.length→∃k a b q',l[i]?=some (.int k a)∧m[i]?=some (.int k b)∧lp (l.drop (i+1)) (m.drop (i+1))=some q'∧lp (l.drop i) (m.drop i)=some (decide (a=b)&&q')
 |[],_,_,_,_,hi=>absurd hi (Nat.not_lt_zero _)
 |v::l,[],q,_,h,_=>by cases v<;>simp[lp] at h
 |v::l,u::m,q,i,h,hi=>by
  have h0:=h
  unfold lp at h
  split at h
  ·rename_i h1 h2;cases h1
  ·rename_i k a r k' b s h1 h2
   injection h1 with e1 e2;injection h2 with e3 e4
   subst e1;subst e2;subst e3;subst e4
   cases hk:decide (k=k') with
   |false=>rw[hk] at h;cases h
   |true=>
    rw[hk,aQ] at h
    have hk:k=k':=by simpa using hk
    subst hk
    split at h
    ·rename_i q' hq
     injection h with h;subst h
     cases i with
     |zero=>exact⟨k,a,b,q',rfl,rfl,by simpa using hq,by simpa using h0⟩
     |succ i=>
      obtain⟨k2,a2,b2,q2,g1,g2,g3,g4⟩:=Us (i:=i) hq (by simpa using hi)
      exact⟨k2,a2,b2,q2,by simpa using g1,by simpa using g2,by simpa using g3,by simpa using g4⟩
    cases h
  cases h
theorem Ut {P:Program}{xs ys:List Value}{q0:Bool}(h0:lp xs ys=some q0):∀(fs:List Field) (i:Nat) {q:Bool},Dm P i fs=true→xs.length=i+fs.length→lp (xs.drop i) (ys.drop i)=some q→wg P xs ys fs=some q
 |[],i,q,_,hl,h=>by
  have hx:xs.drop i=[]:=List.drop_eq_nil_of_le (by simp at hl;omega)
  have hy:ys.drop i=[]:=List.drop_eq_nil_of_le (by have:=(IG h0).2;simp at hl;omega)
  rw[hx,hy] at h
  simpa[lp,wg] using h
 |f::fs,i,q,hf,hl,h=>by
  obtain⟨⟨k0,wm⟩,ha,⟨n,hn⟩,ho,OX,hr⟩:=Ur hf
  have hi:i<xs.length:=by simp at hl;omega
  obtain⟨k,a,b,q',g1,g2,g3,g4⟩:=Us h0 hi
  rw[g4] at h
  injection h with h
  have ih:=Ut h0 fs (i+1) hr (by simp at hl;omega) g3
  simp only[wg,OX,bx,hn,apart,ha,ho,g1,g2,Df,wm,decide_true,aQ]
  by_cases lN:a=b
  ·subst lN;simp[ih,← h]
  have hb:(a==b)=false:=by simpa using lN
  simp[lN,hb,← h]
theorem zy3 {P:Program}{k:TypeId}{n:Nat}(hk:yx P k n){xs ys:Array Value}{q:Bool}(h:lp xs.toList ys.toList=some q)(hn:xs.toList.length=n)(w:World):(Op.equal k (.agg xs) (.agg ys)).run P w=.ok q w:=by
 obtain⟨⟨fs,h1,h2,h3⟩,h4⟩:=hk
 obtain⟨i1,i2⟩:=OV h
 have hr:∀ {l:List Value},dD l=true→bB (fun _=>none) l l:=fun {l} hi=>Uq _ hi
 have hq:eB P k (.agg xs) (.agg ys)=some q:=by
  simp only[eB,h1,h4,bx]
  exact Ut h fs.toList 0 h2 (by rw[hn,h3,Nat.zero_add]) (by simpa using h)
 have hx:ao (fun _=>none) (.agg xs) (.agg xs):=by have:=ao.lW (hr i1);simpa using this
 have hy:ao (fun _=>none) (.agg ys) (.agg ys):=by have:=ao.lW (hr i2);simpa using this
 exact(OI (w:=w) hx hy hq).1
theorem OY {P:Program}{k:TypeId}{n:Nat}(hk:yx P k n){xs:Array Value}(hi:dD xs.toList=true)(hn:xs.toList.length=n)(b:Bool)(w:World):(Instr.checkKey b 10000 k (.agg xs)).run P w=.ok () w:=by
 obtain⟨⟨fs,h1,h2,h3⟩,_⟩:=hk
 have yy:bB (fun _=>none) xs.toList xs.toList:=Uq _ hi
 have hint:∀(i:Nat) (v:Value),xs.toList[i]?=some v→∃kd m,v=.int kd m:=fun i v hv=>by
  have:∀(l:List Value) (i:Nat) (v:Value),dD l=true→l[i]?=some v→∃kd m,v=.int kd m:=by
   intro l
   induction l with
   |nil=>intro i v _ h;simp at h
   |cons a r ih=>
    intro i v hi h
    cases a with
    |int k m=>
     cases i with
     |zero=>simp at h;exact⟨k,m,h.symm⟩
     |succ i=>exact ih i v hi (by simpa using h)
    |_=>cases hi
  exact this _ i v hi hv
 have all:∀d,(Instr.checkKey b (d+1+1) k (.agg xs)).run P w=.ok () w:=fun d=>by
  have hl:0+fs.toList.length=xs.toList.length:=by rw[hn,h3,Nat.zero_add]
  rw[Instr.checkKey]
  simp only[Sem.run_bind,run_underlying h1,Result.andThen_ok]
  rw[← Array.forIn_toList]
  clear h1 h3
  generalize fs.toList=L at h2 hl
  generalize (0:Nat)=i at h2 hl
  induction L generalizing i with
  |nil=>simp
  |cons f L ih=>
   obtain⟨⟨k0,wm⟩,ha,⟨m,hm⟩,ho,OX,hr⟩:=Ur h2
   have OZ:f.name ≠ "_" := by simpa using OX
   have cE:i<xs.toList.length:=by simp at hl ⊢;omega
   obtain⟨v,hv⟩:∃v,xs.toList[i]?=some v:=⟨_,List.getElem?_eq_getElem cE⟩
   obtain⟨v',p1,p2⟩:=It (P:=P) (w:=w) yy hm (show apart P f.type xs.toList f.offset m=some v by simp only[apart,ha,ho,hv])
   obtain⟨kd,x,rfl⟩:=hint i v hv
   cases p2
   have p3:(Instr.checkKey b (d+1) f.type (.int kd x)).run P w=.ok () w:=by
    simp only[Instr.checkKey,Sem.run_bind,run_underlying wm,Result.andThen_ok,Sem.run_pure]
   simp only[List.forIn_cons,Sem.run_bind,OZ,ne_eq,not_false_eq_true,if_true,Result.andThen_ok,p1,p3,Sem.run_pure]
   exact ih (i+1) hr (by simp at hl ⊢;omega)
 exact all 9998
theorem zuq {U:Mu}{es:List (Value×Value)}{entries:Array MapEntry}{clock:Nat}{K v v':Value}{put:Value×Value→Value×Value}(hM:jf U es entries clock){j:Nat}{e1:MapEntry}(g2:entries[j]?=some e1)(g3:e1.key=K)(hv:ao U v v')
  (q1:∀p∈es,p.1=K→put p=(K,v)) (q2:∀p∈es,p.1≠K→put p=p):jf U (es.map put) (entries.modify j fun e=>{ e with key:=K,val:=v' }) clock:=by
 obtain⟨l,p1,p0,p2,p3,p4,p5⟩:=hM
 have eV:j<l.length:=by
  rw[p2]
  rcases Nat.lt_or_ge j entries.size with h|h
  ·exact h
  rw[Array.getElem?_eq_none h] at g2;simp at g2
 have EV:∀p∈l,(put p).1=p.1:=fun p hp=>by
  by_cases hk:p.1=K
  ·rw[q1 p (p1.mem_iff.1 hp) hk,hk]
  rw[q2 p (p1.mem_iff.1 hp) hk]
 refine⟨l.map put,p1.map _,?_,by simp[p2],?_,?_,?_⟩
 ·rw[List.map_map,show l.map ((fun x=>x.1)∘put)=l.map (fun x=>x.1) from List.map_congr_left EV];exact p0
 ·intro i p e' hp dV
  rw[List.getElem?_map] at hp
  cases mQ:l[i]? with
  |none=>rw[mQ] at hp;simp at hp
  |some p'=>
   rw[mQ] at hp;simp only[Option.map_some,aB] at hp;subst hp
   have pa:p'∈es:=p1.mem_iff.1 (List.mem_of_getElem? mQ)
   rw[Array.getElem?_modify] at dV
   by_cases gP:j=i
   ·subst gP
    simp only[if_true,g2,Option.map_some,aB] at dV;subst dV
    have hr:=p3 j p' e1 mQ g2
    rw[q1 p' pa (by rw[← hr.1,g3])]
    exact⟨rfl,hv⟩
   simp only[gP,if_false] at dV
   have hr:=p3 i p' e' mQ dV
   have db:p'.1≠K:=fun hk=>by
    have cE:i<l.length:=by
     rcases Nat.lt_or_ge i l.length with h|h
     ·exact h
     rw[List.getElem?_eq_none h] at mQ;simp at mQ
    have e2:l[j].1=K:=by
     have:=p3 j l[j] e1 (by simp[eV]) g2
     rw[← this.1,g3]
    have e3:l[i].1=K:=by
     rw[List.getElem?_eq_getElem cE] at mQ;injection mQ with mQ;rw[mQ,hk]
    exact gP (Mf p0 (i:=j) (j:=i) (by simpa using eV) (by simpa using cE) (by simp[e2,e3]))
   rw[q2 p' pa db];exact hr
 ·have:((entries.modify j fun e=>{ e with key:=K,val:=v' }).toList.map (·.born))=entries.toList.map (·.born):=by
   apply List.ext_getElem?
   intro i
   simp only[List.getElem?_map,Array.getElem?_toList,Array.getElem?_modify]
   by_cases gP:j=i
   ·simp[gP]
    cases entries[i]?<;>rfl
   simp[gP]
  rw[this];exact p4
 intro e' dV
 obtain⟨i,hi⟩:=List.getElem?_of_mem dV
 rw[Array.getElem?_toList,Array.getElem?_modify] at hi
 by_cases gP:j=i
 ·subst gP
  simp only[if_true,g2,Option.map_some,aB] at hi;subst hi
  exact p5 e1 (by simpa using List.mem_of_getElem? (l:=entries.toList) (by simpa using g2))
 simp only[gP,if_false] at hi
 exact p5 e' (by simpa using List.mem_of_getElem? (l:=entries.toList) (by simpa using hi))
theorem zzq {U:Mu}{es:List (Value×Value)}{entries:Array MapEntry}{clock:Nat}{K v v':Value}(hM:jf U es entries clock)(g4:∀e∈entries.toList,e.key≠K)(hv:ao U v v') :
  jf U (es++[(K,v)]) (entries.push { key:=K,val:=v',born:=clock }) (clock+1):=by
 obtain⟨l,p1,p0,p2,p3,p4,p5⟩:=hM
 have OU:∀p∈l,p.1≠K:=fun p hp=>by
  obtain⟨i,hi⟩:=List.getElem?_of_mem hp
  have cE:i<entries.size:=by
   rw[← p2]
   rcases Nat.lt_or_ge i l.length with h|h
   ·exact h
   rw[List.getElem?_eq_none h] at hi;simp at hi
  have hr:=p3 i p entries[i] hi (by simp[cE])
  rw[← hr.1]
  exact g4 _ (by simp)
 refine⟨l++[(K,v)],p1.append_right _,?_,by simp[p2],?_,?_,?_⟩
 ·rw[List.map_append,List.nodup_append]
  refine⟨p0,by simp,?_⟩
  intro a ha b hb
  simp at hb;subst hb
  obtain⟨p,hp,rfl⟩:=List.mem_map.1 ha
  exact OU p hp
 ·intro i p e' hp dV
  rw[Array.getElem?_push] at dV
  by_cases hi:i=entries.size
  ·simp only[hi,if_true,aB] at dV;subst dV
   rw[List.getElem?_append_right (by omega),hi,p2] at hp
   simp at hp;subst hp
   exact⟨rfl,hv⟩
  simp only[hi,if_false] at dV
  have cE:i<entries.size:=by
   rcases Nat.lt_or_ge i entries.size with h|h
   ·exact h
   rw[Array.getElem?_eq_none h] at dV;simp at dV
  rw[List.getElem?_append_left (by omega)] at hp
  exact p3 i p e' hp dV
 ·simp only[Array.toList_push,List.map_append,List.map_cons,List.map_nil]
  rw[List.pairwise_append]
  refine⟨p4,by simp,?_⟩
  intro a ha b hb
  simp at hb;subst hb
  obtain⟨e',dV,rfl⟩:=List.mem_map.1 ha
  exact p5 e' dV
 intro e' dV
 simp only[Array.toList_push,List.mem_append,List.mem_singleton] at dV
 rcases dV with dV|dV
 ·have:=p5 e' dV;omega
 subst dV;simp
theorem zqa {K:Value}{pf:Value×Value→Bool}{l:List (Value×Value)}(q1:∀p∈l,p.1=K→pf p=false)(q2:∀p∈l,p.1≠K→pf p=true)(h0:(l.map (·.1)).Nodup){j:Nat}(hj:j<l.length)(he:l[j].1=K):l.filter pf=l.eraseIdx j:=by
 induction l generalizing j with
 |nil=>simp at hj
 |cons p r ih=>
  simp only[List.map_cons,List.nodup_cons] at h0
  cases j with
  |zero=>
   have bk:∀q∈r,pf q=true:=fun q hq=>q2 q (List.mem_cons_of_mem _ hq) fun hh=>h0.1 (List.mem_map.2 ⟨q,hq,by rw[hh];exact he.symm⟩)
   have h1:pf p=false:=q1 p (by simp) he
   simp only[List.filter_cons,h1,Bool.false_eq_true,if_false,List.eraseIdx_cons_zero]
   exact List.filter_eq_self.2 bk
  |succ j=>
   simp only[List.length_cons,Nat.add_lt_add_iff_right] at hj
   simp only[List.getElem_cons_succ] at he
   have db:p.1≠K:=fun hh=>h0.1 (List.mem_map.2 ⟨r[j],List.getElem_mem hj,by rw[he,hh]⟩)
   have h1:pf p=true:=q2 p (by simp) db
   simp only[List.filter_cons,h1,if_true,List.eraseIdx_cons_succ]
   rw[ih (fun q hq=>q1 q (List.mem_cons_of_mem _ hq)) (fun q hq=>q2 q (List.mem_cons_of_mem _ hq)) h0.2 hj he]
theorem zyy {U:Mu}{es:List (Value×Value)}{entries:Array MapEntry}{clock:Nat}{K:Value}{pf:Value×Value→Bool}(hM:jf U es entries clock){j:Nat}{e1:MapEntry}(g2:entries[j]?=some e1)(g3:e1.key=K)
  (q1:∀p∈es,p.1=K→pf p=false) (q2:∀p∈es,p.1≠K→pf p=true):jf U (es.filter pf) (entries.eraseIdxIfInBounds j) clock:=by
 obtain⟨l,p1,p0,p2,p3,p4,p5⟩:=hM
 have vB:j<entries.size:=by
  rcases Nat.lt_or_ge j entries.size with h|h
  ·exact h
  rw[Array.getElem?_eq_none h] at g2;simp at g2
 have eV:j<l.length:=by omega
 have EY:l[j].1=K:=by
  have:=p3 j l[j] e1 (by simp[eV]) g2
  rw[← this.1,g3]
 have tR:=zqa (fun p hp=>q1 p (p1.mem_iff.1 hp)) (fun p hp=>q2 p (p1.mem_iff.1 hp)) p0 eV EY
 have mR:(entries.eraseIdxIfInBounds j).toList=entries.toList.eraseIdx j:=by
  simp[Array.eraseIdxIfInBounds,vB]
 refine⟨l.filter pf,p1.filter _,?_,?_,?_,?_,?_⟩
 ·exact p0.sublist ((List.filter_sublist).map _)
 ·rw[tR,List.length_eraseIdx,if_pos eV,p2]
  have:(entries.eraseIdxIfInBounds j).toList.length=entries.size - 1:=by rw[mR,List.length_eraseIdx,if_pos (by simpa using vB)];simp
  rw[Array.length_toList] at this
  omega
 ·intro i p e' hp dV
  rw[tR,List.getElem?_eraseIdx] at hp
  rw[← Array.getElem?_toList,mR,List.getElem?_eraseIdx] at dV
  split at hp
  ·rename_i a8;rw[if_pos a8] at dV;exact p3 i p e' hp (by simpa using dV)
  rename_i a8;rw[if_neg a8] at dV;exact p3 (i+1) p e' hp (by simpa using dV)
 ·rw[mR];exact p4.sublist ((List.eraseIdx_sublist _ _).map _)
 intro e' dV;rw[mR] at dV;exact p5 e' ((List.eraseIdx_sublist _ _).subset dV)
def wq (l:List Value):List (Value×Value)→Option (Option Value)
 |[]=>some none
 |(.agg ds,v)::r=>match lp l ds.toList,wq l r with
  |some s,some q=>some (bif s then some v else q)
  |_,_=>none
 |_=>none
theorem Mg {xs:Array Value}:∀ {es:List (Value×Value)} {q:Option Value},wq xs.toList es=some q→
  (∀p∈es,∃ds s,p.1=.agg ds∧lp xs.toList ds.toList=some s)∧(∀v,q=some v→(Value.agg xs,v)∈es)∧(q=none→∀p∈es,p.1≠.agg xs)
 |[],q,h=>by simp only[wq,aB] at h;subst h;exact⟨by simp,by simp,by simp⟩
 |(k,v)::r,q,h=>by
  unfold wq at h
  split at h
  ·rename_i heq;cases heq
  ·rename_i ds v' r' heq
   simp only[List.cons.injEq,bO] at heq
   obtain⟨⟨rfl,rfl⟩,rfl⟩:=heq
   split at h
   ·rename_i s q' hs cG
    obtain⟨i1,i2,i3⟩:=Mg cG
    have uH:=(IG hs).1
    simp only[aB] at h;subst h
    refine⟨fun p hp=>?_,fun u hu=>?_,fun hn p hp=>?_⟩
    ·rcases List.mem_cons.1 hp with rfl|hp
     ·exact⟨ds,s,rfl,hs⟩
     exact i1 p hp
    ·cases s with
     |true=>simp at hu;subst hu;rw[Array.ext' (uH.1 rfl)];simp
     |false=>simp only[bx] at hu;exact List.mem_cons_of_mem _ (i2 u hu)
    cases s with
    |true=>simp at hn
    |false=>
     simp only[bx] at hn
     rcases List.mem_cons.1 hp with rfl|hp
     ·intro he
      injection he with he
      have:=uH.2 (by rw[he])
      cases this
     exact i3 hn p hp
   cases h
  cases h
theorem Uu {P:Program}{k:TypeId}{n:Nat}(hk:yx P k n){xs:Array Value}(hn:xs.toList.length=n)(w:World):∀(L:List MapEntry) (i:Nat),(∀e∈L,∃ds s,e.key=.agg ds∧lp xs.toList ds.toList=some s)→
  (∃j e,L[j]?=some e∧e.key=.agg xs∧(Instr.findAsking k (.agg xs) L i).run P w=.ok (some (i+j,e.val)) w)∨((∀e∈L,e.key≠.agg xs)∧(Instr.findAsking k (.agg xs) L i).run P w=.ok none w)
 |[],i,_=>.inr ⟨by simp,by simp[Instr.findAsking]⟩
 |e::L,i,h=>by
  obtain⟨ds,s,h1,h2⟩:=h e (by simp)
  have he:=zy3 hk h2 hn w
  have uH:=(IG h2).1
  cases s with
  |true=>
   have hd:ds=xs:=(Array.ext' (uH.1 rfl)).symm
   exact .inl ⟨0,e,rfl,by rw[h1,hd],by simp[Instr.findAsking,h1,he]⟩
  |false=>
   have hd:e.key≠.agg xs:=fun hh=>by
    rw[h1] at hh
    injection hh with hh
    have:=uH.2 (by rw[hh])
    cases this
   rcases Uu hk hn w L (i+1) (fun y hy=>h y (List.mem_cons_of_mem _ hy)) with⟨j,e',g1,g2,g3⟩|⟨g1,g2⟩
   ·exact .inl ⟨j+1,e',by simpa using g1,g2,by simp[Instr.findAsking,h1,he,g3,Nat.add_assoc,Nat.add_comm 1 j]⟩
   refine .inr ⟨fun y hy=>?_,by simp[Instr.findAsking,h1,he,g2]⟩
   rcases List.mem_cons.1 hy with rfl|hy
   ·exact hd
   exact g1 y hy
theorem IH {P:Program}{w:World}{U:Mu}{es:List (Value×Value)}{entries:Array MapEntry}{clock:Nat}(hM:jf U es entries clock){kT:TypeId}{n:Nat}{xs:Array Value}{q:Option Value}(hk:yx P kT n)(hn:xs.toList.length=n)(hq:wq xs.toList es=some q) :
  (∃v j e,q=some v∧entries[j]?=some e∧e.key=.agg xs∧ao U v e.val∧(Instr.findKey kT (.agg xs) entries.toList).run P w=.ok (some (j,e.val)) w)∨
  (q=none∧(∀e∈entries.toList,e.key≠.agg xs)∧(Instr.findKey kT (.agg xs) entries.toList).run P w=.ok none w):=by
 obtain⟨l,h1,h0,h2,h3,h4,h5⟩:=hM
 obtain⟨i1,i2,i3⟩:=Mg hq
 have yz:(match P.underlying kT with|some (.array _ _)|some (.struct _)=>true|_=>false)=true:=by
  obtain⟨⟨fs,g1,_,_⟩,_⟩:=hk
  rw[g1]
 have bk:∀e∈entries.toList,∃p∈es,Ez U p e:=fun e he=>by
  obtain⟨j,hj⟩:=List.getElem?_of_mem he
  have mN:entries[j]?=some e:=by simpa using hj
  have eV:j<l.length:=by
   rw[h2]
   rcases Nat.lt_or_ge j entries.size with h|h
   ·exact h
   rw[Array.getElem?_eq_none h] at mN;simp at mN
  exact⟨l[j],h1.mem_iff.1 (List.getElem_mem eV),h3 j l[j] e (by simp[eV]) mN⟩
 have o9:∀e∈entries.toList,∃ds s,e.key=.agg ds∧lp xs.toList ds.toList=some s:=fun e he=>by
  obtain⟨p,hp,hr⟩:=bk e he
  obtain⟨ds,s,ha,hb⟩:=i1 p hp
  exact⟨ds,s,by rw[hr.1,ha],hb⟩
 rw[run_findKey_eq w yz]
 rcases Uu hk hn w entries.toList 0 o9 with⟨j,e,g1,g2,g3⟩|⟨g1,g2⟩
 ·have BG:entries[j]?=some e:=by simpa using g1
  have eV:j<l.length:=by
   rw[h2]
   rcases Nat.lt_or_ge j entries.size with h|h
   ·exact h
   rw[Array.getElem?_eq_none h] at BG;simp at BG
  have hr:=h3 j l[j] e (by simp[eV]) BG
  have pa:l[j]∈es:=h1.mem_iff.1 (List.getElem_mem eV)
  cases q with
  |none=>exact absurd (hr.1▸g2) (i3 rfl _ pa)
  |some v=>
   have hv:=i2 v rfl
   have yo:(Value.agg xs,v)∈l:=h1.mem_iff.2 hv
   have:l[j]=(Value.agg xs,v):=by
    obtain⟨j2,ET,rB⟩:=List.getElem_of_mem yo
    have p8:(l.map (·.1))[j]'(by simpa using eV)=(l.map (·.1))[j2]'(by simpa using ET):=by
     simp only[List.getElem_map,rB]
     rw[← hr.1,g2]
    have BH:j=j2:=Mf h0 _ _ p8
    subst BH
    exact rB
   refine .inl ⟨v,j,e,rfl,BG,g2,?_,by simpa using g3⟩
   have:=hr.2;rwa [‹l[j]=_›] at this
 refine .inr ⟨?_,g1,g2⟩
 cases q with
 |none=>rfl
 |some v=>
  have hv:=i2 v rfl
  have yo:(Value.agg xs,v)∈l:=h1.mem_iff.2 hv
  obtain⟨j2,ET,rB⟩:=List.getElem_of_mem yo
  have vB:j2<entries.size:=by omega
  have:=h3 j2 l[j2] entries[j2] (by simp[ET]) (by simp[vB])
  rw[rB] at this
  exact absurd this.1 (g1 _ (by simp))
def BK (P:Program)(h:ai)(t:TypeId)(m:Value)(xs:Array Value)(ok:Bool):Option Value:=
 match AH P t with
 |some (_,e,n)=>
  bif !(dD xs.toList&&Nat.beq xs.toList.length n) then none else
  match fH P e with
  |some z=>
   let r:Option (Option Value):=match m with
    |.map none=>some none
    |.map (some o)=>match h.get o with
     |some (.map es)=>wq xs.toList es
     |_=>none
    |_=>none
   match r with
   |some (some v)=>some (bif ok then .tuple #[v,.bool true] else v)
   |some none=>some (bif ok then .tuple #[z,.bool false] else z)
   |none=>none
  |none=>none
 |none=>none
theorem O0 {U:Mu}{xs:Array Value}{k':Value}{n:Nat}(hk:ao U (.agg xs) k')(hb:(!(dD xs.toList&&Nat.beq xs.toList.length n))=false):k'=.agg xs∧dD xs.toList=true∧xs.toList.length=n:=by
 obtain⟨bu,rfl,hx⟩:=hk.GX
 have hb:(dD xs.toList&&Nat.beq xs.toList.length n)=true:=by simpa using hb
 rw[bW] at hb
 exact⟨by rw[Array.ext' (Up hx hb.1)],hb.1,v7 hb.2⟩
theorem zux {P:Program}{lo:Nat}{U:Mu}{h:ai}{w:World}(r:Rel U lo h w){t:TypeId}{m m' k' v:Value}{xs:Array Value}{ok:Bool}(hm:ao U m m')(hk:ao U (.agg xs) k')(ha:BK P h t m xs ok=some v) :
  fF P lo (Instr.lookup t m' k' ok) U h w v h:=by
 unfold BK at ha
 split at ha
 ·rename_i kT e n mw
  obtain⟨hu,mz⟩:=OW mw
  cases hb:(!(dD xs.toList&&Nat.beq xs.toList.length n)) with
  |true=>rw[hb] at ha;cases ha
  |false=>
  rw[hb,bx] at ha
  obtain⟨rfl,hi,hn⟩:=O0 hk hb
  have jA:=OY mz hi hn
  have yz:(match P.underlying kT with|some (.array _ _)|some (.struct _)=>true|_=>false)=true:=by
   obtain⟨⟨fs,g1,_,_⟩,_⟩:=mz
   rw[g1]
  split at ha
  ·rename_i z hz
   obtain⟨nk,uG⟩:=Un hz w
   have BJ:ao U z z:=.Bv uG
   simp only at ha
   split at ha
   ·rename_i v0 hr
    simp only[aB] at ha;subst ha
    split at hr
    ·simp at hr
    ·rename_i o
     split at hr
     ·rename_i es ho
      cases hm with
      |map _ b C ov=>
       obtain⟨_,entries,clock,h1,hM⟩:=qT r ho ov
       rcases IH (P:=P) (w:=w) hM mz hn hr with⟨v1,j,e1,g1,g2,g3,g4,g5⟩|⟨g1,_⟩
       ·simp only[aB] at g1;subst g1
        cases ok with
        |true=>exact .same r (by simp[Instr.lookup,run_underlying hu,getObj,Sem.run,h1,jA,g5]) (.pair g4 (.bool true))
        |false=>exact .same r (by simp[Instr.lookup,run_underlying hu,getObj,Sem.run,h1,jA,g5]) g4
       cases g1
     simp at hr
    simp at hr
   ·rename_i hr
    simp only[aB] at ha;subst ha
    split at hr
    ·cases hm
     have hf:(Instr.findKey kT (.agg xs) []).run P w=.ok none w:=by rw[run_findKey_eq w yz];simp[Instr.findAsking]
     cases ok with
     |true=>exact .same r (by simp[Instr.lookup,run_underlying hu,jA,hf,nk]) (.pair BJ (.bool false))
     |false=>exact .same r (by simp[Instr.lookup,run_underlying hu,jA,hf,nk]) BJ
    ·rename_i o
     split at hr
     ·rename_i es ho
      cases hm with
      |map _ b C ov=>
       obtain⟨_,entries,clock,h1,hM⟩:=qT r ho ov
       rcases IH (P:=P) (w:=w) hM mz hn hr with⟨v1,j,e1,g1,_⟩|⟨_,_,g5⟩
       ·cases g1
       cases ok with
       |true=>exact .same r (by simp[Instr.lookup,run_underlying hu,getObj,Sem.run,h1,jA,g5,nk]) (.pair BJ (.bool false))
       |false=>exact .same r (by simp[Instr.lookup,run_underlying hu,getObj,Sem.run,h1,jA,g5,nk]) BJ
     simp at hr
    simp at hr
   simp at ha
  simp at ha
 simp at ha
def Dn (l:List Value)(k:Value):Bool:=match k with
 |.agg ds=>match lp l ds.toList with|some s=>s|none=>false
 |_=>false
def BL (xs:Array Value)(v:Value)(p:Value×Value):Value×Value:=bif Dn xs.toList p.1 then (.agg xs,v) else p
def yA (xs:Array Value)(p:Value×Value):Bool:=!Dn xs.toList p.1
theorem Mh {xs:Array Value}{es:List (Value×Value)}{q:Option Value}(h:wq xs.toList es=some q):∀p∈es,(Dn xs.toList p.1=true↔p.1=.agg xs):=fun p hp=>by
 obtain⟨ds,s,h1,h2⟩:=(Mg h).1 p hp
 have uH:=(IG h2).1
 rw[h1]
 simp only[Dn,h2]
 rw[uH]
 constructor
 ·intro hh;rw[Array.ext' hh]
 intro hh;injection hh with hh;rw[hh]
theorem z3n {xs:Array Value}{v:Value}{es:List (Value×Value)}{q:Option Value}(h:wq xs.toList es=some q):(∀p∈es,p.1=.agg xs→BL xs v p=(.agg xs,v))∧∀p∈es,p.1≠.agg xs→BL xs v p=p:=by
 refine⟨fun p hp hk=>?_,fun p hp hk=>?_⟩
 ·unfold BL;rw[(Mh h p hp).2 hk];rfl
 unfold BL
 rw[show Dn xs.toList p.1=false from Bool.eq_false_iff.2 fun hh=>hk ((Mh h p hp).1 hh)];rfl
def Mi (P:Program)(lo:Nat)(h:ai)(t:TypeId)(m:Value)(xs:Array Value)(v:Value):Option ai:=
 match AH P t,m with
 |some (_,_,n),.map (some o)=>
  bif !(dD xs.toList&&Nat.beq xs.toList.length n) then none else
  match h.get o with
  |some (.map es)=>
   bif Nat.ble lo o then
    match wq xs.toList es with
    |some (some _)=>some (h.put o (some (.map (es.map (BL xs v)))))
    |some none=>some (h.put o (some (.map (es++[(.agg xs,v)]))))
    |none=>none
   else none
  |_=>none
 |_,_=>none
theorem Uv (d:Nat):∀ {l:List Value},dD l=true→(l.zip l).all (fun p=>Instr.sameBits d p.1 p.2)=true
 |[],_=>rfl
 |.int k n::r,h=>by simp only[List.zip_cons_cons,List.all_cons,Uo,Bool.true_and];exact Uv d h
 |.bool _::_,hi=>by cases hi
 |.float _ _::_,hi=>by cases hi
 |.complex _ _ _::_,hi=>by cases hi
 |.string _::_,hi=>by cases hi
 |.pointer _::_,hi=>by cases hi
 |.slice _ _ _::_,hi=>by cases hi
 |.map _::_,hi=>by cases hi
 |.agg _::_,hi=>by cases hi
 |.tuple _::_,hi=>by cases hi
 |.iface _ _::_,hi=>by cases hi
 |.func _ _ _::_,hi=>by cases hi
 |.nilFunc::_,hi=>by cases hi
 |.nilIface::_,hi=>by cases hi
 |.chan _::_,hi=>by cases hi
theorem zx9 {P:Program}{w:World}{xs:Array Value}(h:dD xs.toList=true):(Instr.keyThatStays (.agg xs) (.agg xs)).run P w=.ok (.agg xs) w:=by
 have hs:∀d,Instr.sameBits (d+1) (.agg xs) (.agg xs)=true:=fun d=>by
  simp only[Instr.sameBits,beq_self_eq_true,Bool.true_and]
  exact Uv d h
 simp[Instr.keyThatStays,hs 9999]
theorem zoo {P:Program}{lo:Nat}{U:Mu}{h:ai}{w:World}(r:Rel U lo h w){t:TypeId}{m m' k' v v':Value}{xs:Array Value}{h':ai}(hm:ao U m m')(hk:ao U (.agg xs) k')(hv:ao U v v')
  (ha:Mi P lo h t m xs v=some h'):∃w',(Instr.mapUpdate t m' k' v').run P w=.ok () w'∧Rel U lo h' w'∧Frame lo U h w U h' w':=by
 unfold Mi at ha
 split at ha
 ·rename_i kT e n o mw
  obtain⟨hu,mz⟩:=OW mw
  cases hb:(!(dD xs.toList&&Nat.beq xs.toList.length n)) with
  |true=>rw[hb] at ha;cases ha
  |false=>
  rw[hb,bx] at ha
  obtain⟨rfl,hi,hn⟩:=O0 hk hb
  have jA:=OY mz hi hn
  split at ha
  ·rename_i es ho
   cases cY:Nat.ble lo o with
   |false=>rw[cY] at ha;simp at ha
   |true=>
   rw[cY] at ha;simp only[aQ] at ha
   have pe:lo≤o:=by simpa using cY
   cases hm with
   |map _ b C ov=>
    obtain⟨_,entries,clock,h1,hM⟩:=qT r ho ov
    have qW:(getObj b).run P w=.ok (.map entries clock) w:=by simp[getObj,Sem.run,h1]
    split at ha
    ·rename_i v0 hq
     simp only[aB] at ha;subst ha
     rcases IH (P:=P) (w:=w) hM mz hn hq with⟨v1,j,e1,g1,g2,g3,g4,g5⟩|⟨g1,_⟩
     ·obtain⟨q1,q2⟩:=z3n (v:=v) hq
      have se:=zuq hM g2 g3 hv q1 q2
      obtain⟨h5,h6⟩:=Dl r ho pe ov h1 se
      refine⟨_,?_,h5,h6⟩
      have EW:(Instr.keyThatStays (((entries[j]?).map (·.key)).getD (.agg xs)) (.agg xs)).run P w=.ok (.agg xs) w:=by
       simp only[g2,Option.map_some,Option.getD_some,g3];exact zx9 hi
      simp only[Instr.mapUpdate,Sem.run_bind,run_underlying hu,Result.andThen_ok,qW,jA,g5,EW,Dk h1]
     cases g1
    ·rename_i hq
     simp only[aB] at ha;subst ha
     rcases IH (P:=P) (w:=w) hM mz hn hq with⟨v1,j,e1,g1,_⟩|⟨_,g4,g5⟩
     ·cases g1
     have se:=zzq hM g4 hv
     obtain⟨h5,h6⟩:=Dl r ho pe ov h1 se
     refine⟨_,?_,h5,h6⟩
     simp only[Instr.mapUpdate,Sem.run_bind,run_underlying hu,Result.andThen_ok,qW,jA,g5,Dk h1]
    simp at ha
  simp at ha
 simp at ha
def Mj (P:Program)(lo:Nat)(h:ai)(t:TypeId)(m:Value)(xs:Array Value):Option ai:=
 match AH P t,m with
 |some (_,_,n),.map (some o)=>
  bif !(dD xs.toList&&Nat.beq xs.toList.length n) then none else
  match h.get o with
  |some (.map es)=>
   bif Nat.ble lo o then
    match wq xs.toList es with
    |some _=>some (h.put o (some (.map (es.filter (yA xs)))))
    |none=>none
   else none
  |_=>none
 |_,_=>none
theorem zuw {P:Program}{lo:Nat}{U:Mu}{h:ai}{w:World}(r:Rel U lo h w){t IF ty:TypeId}{m m' k':Value}{xs:Array Value}{h':ai}(hm:ao U m m')(hk:ao U (.agg xs) k')
  (ha:Mj P lo h t m xs=some h'):fF P lo (Builtin.delete_ #[t,IF] ty #[m',k']) U h w Go.undef h':=by
 unfold Mj at ha
 split at ha
 ·rename_i kT e n o mw
  obtain⟨hu,mz⟩:=OW mw
  cases hb:(!(dD xs.toList&&Nat.beq xs.toList.length n)) with
  |true=>rw[hb] at ha;cases ha
  |false=>
  rw[hb,bx] at ha
  obtain⟨rfl,hi,hn⟩:=O0 hk hb
  have jA:=OY mz hi hn
  split at ha
  ·rename_i es ho
   cases cY:Nat.ble lo o with
   |false=>rw[cY] at ha;simp at ha
   |true=>
   rw[cY] at ha;simp only[aQ] at ha
   have pe:lo≤o:=by simpa using cY
   cases hm with
   |map _ b C ov=>
    obtain⟨_,entries,clock,h1,hM⟩:=qT r ho ov
    split at ha
    ·rename_i q0 hq
     simp only[aB] at ha;subst ha
     have qW:(getObj b).run P w=.ok (.map entries clock) w:=by simp[getObj,Sem.run,h1]
     have q1:∀p∈es,p.1=.agg xs→yA xs p=false:=fun p hp hk=>by unfold yA;rw[(Mh hq p hp).2 hk];rfl
     have q2:∀p∈es,p.1≠.agg xs→yA xs p=true:=fun p hp hk=>by
      unfold yA
      rw[show Dn xs.toList p.1=false from Bool.eq_false_iff.2 fun hh=>hk ((Mh hq p hp).1 hh)];rfl
     obtain⟨i1,i2,i3⟩:=Mg hq
     rcases IH (P:=P) (w:=w) hM mz hn hq with⟨v1,j,e1,g1,g2,g3,g4,g5⟩|⟨g1,g4,g5⟩
     ·have se:=zyy hM g2 g3 q1 q2
      obtain⟨h5,h6⟩:=Dl r ho pe ov h1 se
      refine .mk (v':=Go.undef) ?_ .undef h5 h6
      simp[Builtin.delete_,qW,jA,g5,Dk h1,Go.undef,run_underlying hu]
     have se:jf U (es.filter (yA xs)) entries clock:=by
      rw[List.filter_eq_self.2 fun p hp=>q2 p hp (i3 g1 p hp)];exact hM
     obtain⟨h5,h6⟩:=Dl r ho pe ov h1 se
     refine .mk (v':=Go.undef) ?_ .undef h5 h6
     simp[Builtin.delete_,qW,jA,g5,Dk h1,Go.undef,run_underlying hu]
    simp at ha
  simp at ha
 simp at ha
def xD (P:Program)(h:ai)(t:TypeId)(m k:Value)(ok:Bool):Option Value:=match k with
 |.agg xs=>BK P h t m xs ok
 |k=>xC P h t m k ok
def Dq (P:Program)(lo:Nat)(h:ai)(t:TypeId)(m k v:Value):Option ai:=match k with
 |.agg xs=>Mi P lo h t m xs v
 |k=>EU P lo h t m k v
def sS (P:Program)(lo:Nat)(h:ai)(t:TypeId)(m k:Value):Option ai:=match k with
 |.agg xs=>Mj P lo h t m xs
 |k=>EX P lo h t m k
theorem z7d {P:Program}{lo:Nat}{U:Mu}{h:ai}{w:World}(r:Rel U lo h w){t:TypeId}{m m' k k' v:Value}{ok:Bool}(hm:ao U m m')(hk:ao U k k')(ha:xD P h t m k ok=some v):fF P lo (Instr.lookup t m' k' ok) U h w v h:=by
 unfold xD at ha
 split at ha
 ·exact zux r hm hk ha
 exact zy4 r hm hk ha
theorem Uw {P:Program}{lo:Nat}{U:Mu}{h:ai}{w:World}(r:Rel U lo h w){t:TypeId}{m m' k k' v v':Value}{h':ai}(hm:ao U m m')(hk:ao U k k')(hv:ao U v v')
  (ha:Dq P lo h t m k v=some h'):∃w',(Instr.mapUpdate t m' k' v').run P w=.ok () w'∧Rel U lo h' w'∧Frame lo U h w U h' w':=by
 unfold Dq at ha
 split at ha
 ·exact zoo r hm hk hv ha
 exact zqu r hm hk hv ha
theorem xcn {P:Program}{lo:Nat}{U:Mu}{h:ai}{w:World}(r:Rel U lo h w){t IF ty:TypeId}{m m' k k':Value}{h':ai}(hm:ao U m m')(hk:ao U k k')
  (ha:sS P lo h t m k=some h'):fF P lo (Builtin.delete_ #[t,IF] ty #[m',k']) U h w Go.undef h':=by
 unfold sS at ha
 split at ha
 ·exact zuw r hm hk ha
 exact zy9 r hm hk ha
def rC (ts:aL):List Operand→Option (List Value)
 |[]=>some []
 |x::r=>match dF ts x,rC ts r with
  |some v,some l=>some (v::l)
  |_,_=>none
theorem Hd {U:Mu}{ts:aL}{a:Act}(h:eA U ts a.tmps):∀ {xs:List Operand} {l:List Value},rC ts xs=some l→bB U l (xs.map a.eval)
 |[],l,hl=>by simp only[rC,aB] at hl;subst hl;exact bB.nil U
 |x::r,l,hl=>by
  simp only[rC] at hl
  split at hl
  ·rename_i v l' h1 h2
   simp only[aB] at hl;subst hl
   exact .cons (iw h h1) (Hd h h2)
  simp at hl
def xE (ts:aL):List (Nat×Operand)→Option (List (Nat×Value))
 |[]=>some []
 |(i,x)::r=>match dF ts x,xE ts r with
  |some v,some l=>some ((i,v)::l)
  |_,_=>none
theorem Mk {U:Mu}{ts:aL}{a:Act}(h:eA U ts a.tmps):∀ {xs:List (Nat×Operand)} {l:List (Nat×Value)},xE ts xs=some l→ym U l (xs.map fun (i,x)=>(i,a.eval x))
 |[],l,hl=>by simp only[xE,aB] at hl;subst hl;exact⟨rfl,bB.nil U⟩
 |(i,x)::r,l,hl=>by
  simp only[xE] at hl
  split at hl
  ·rename_i v l' h1 h2
   simp only[aB] at hl;subst hl
   have ih:=Mk h h2
   exact⟨by simp only[List.map_cons];rw[ih.1],.cons (iw h h1) ih.2⟩
  simp at hl
def xF (ts:aL):Option Operand→Option (Option Value)
 |none=>some none
 |some x=>(dF ts x).map some
theorem O1 {U:Mu}{ts:aL}{a:Act}(h:eA U ts a.tmps){x:Option Operand}{v:Option Value}(hv:xF ts x=some v):EJ U v (x.map a.eval):=by
 cases x with
 |none=>simp only[xF,aB] at hv;subst hv;trivial
 |some x=>
  simp only[xF] at hv
  cases hx:dF ts x with
  |none=>rw[hx] at hv;simp at hv
  |some u=>rw[hx] at hv;simp only[Option.map_some,aB] at hv;subst hv;exact iw h hx
def sf (P:Program)(lo:Nat)(h:ai)(b:Builtin)(argTypes:List TypeId)(args:List Value):Option (Value×ai):=
 match b,argTypes,args with
 |.len,[t],[x]=>(p7 P h t x).map (·,h)
 |.cap,[t],[x]=>(BF P t x).map (·,h)
 |.append,[s,x],[a,b]=>sM P lo h s x a b
 |.copy,[d,_],[a,b]=>Hc P lo h d a b
 |.clear,[t],[x]=>(AG P lo h t x).map fun h'=>(Go.undef,h')
 |.delete,[t,_],[m,k]=>(sS P lo h t m k).map fun h'=>(Go.undef,h')
 |.max,_,x::r=>(gX true x r).map (·,h)
 |.min,_,x::r=>(gX false x r).map (·,h)
 |_,_,_=>none
theorem zvn {P:Program}{lo:Nat}{U:Mu}{h:ai}{w:World}(r:Rel U lo h w){b:Builtin}{aT:Array TypeId}{ty:TypeId}{cs:Array Bool}{args:List Value}{aH:Array Value}{v:Value}{h':ai}
  (ha:bB U args aH.toList) (hb:sf P lo h b aT.toList args=some (v,h')):∃s:Sem Value,(Go.builtin b aT ty cs aH)=(do pure (.value (← s)))∧fF P lo s U h w v h':=by
 have pg:∀ {l:List TypeId},aT.toList=l→aT=l.toArray:=fun hl=>by rw[← hl]
 have fy:∀ {l:List Value},aH.toList=l→aH=l.toArray:=fun hl=>by rw[← hl]
 unfold sf at hb
 split at hb
 ·rename_i t x hl
  obtain⟨x',r1,h1,hx,h2⟩:=ha.eJ
  have:=h2.lV;subst this
  rw[pg hl,fy h1]
  cases hq:p7 P h t x with
  |none=>rw[hq] at hb;simp at hb
  |some u=>
   rw[hq] at hb;simp only[Option.map_some,aB,bO] at hb;obtain⟨rfl,rfl⟩:=hb
   exact⟨_,rfl,z2j r hx hq⟩
 ·rename_i t x hl
  obtain⟨x',r1,h1,hx,h2⟩:=ha.eJ
  have:=h2.lV;subst this
  rw[pg hl,fy h1]
  cases hq:BF P t x with
  |none=>rw[hq] at hb;simp at hb
  |some u=>
   rw[hq] at hb;simp only[Option.map_some,aB,bO] at hb;obtain⟨rfl,rfl⟩:=hb
   obtain⟨v',g1,g2⟩:=xbd (w:=w) (ty:=ty) hx hq
   exact⟨_,rfl,.same r g1 g2⟩
 ·rename_i s x a b hl
  obtain⟨a',r1,h1,hx,h2⟩:=ha.eJ
  obtain⟨b',r2,rfl,hy,h3⟩:=h2.eJ
  have:=h3.lV;subst this
  rw[pg hl,fy h1]
  exact⟨_,rfl,zyx r hx hy hb⟩
 ·rename_i d u a b hl
  obtain⟨a',r1,h1,hx,h2⟩:=ha.eJ
  obtain⟨b',r2,rfl,hy,h3⟩:=h2.eJ
  have:=h3.lV;subst this
  rw[pg hl,fy h1]
  exact⟨_,rfl,z5n r hx hy hb⟩
 ·rename_i t x hl
  obtain⟨x',r1,h1,hx,h2⟩:=ha.eJ
  have:=h2.lV;subst this
  rw[pg hl,fy h1]
  cases hq:AG P lo h t x with
  |none=>rw[hq] at hb;simp at hb
  |some u=>
   rw[hq] at hb;simp only[Option.map_some,aB,bO] at hb;obtain⟨rfl,rfl⟩:=hb
   exact⟨_,rfl,z1w r hx hq⟩
 ·rename_i t u m k hl
  obtain⟨a',r1,h1,hx,h2⟩:=ha.eJ
  obtain⟨b',r2,rfl,hy,h3⟩:=h2.eJ
  have:=h3.lV;subst this
  rw[pg hl,fy h1]
  cases hq:sS P lo h t m k with
  |none=>rw[hq] at hb;simp at hb
  |some u=>
   rw[hq] at hb;simp only[Option.map_some,aB,bO] at hb;obtain⟨rfl,rfl⟩:=hb
   exact⟨_,rfl,xcn r hx hy hq⟩
 ·rename_i x rs
  obtain⟨x',r1,h1,hx,h2⟩:=ha.eJ
  cases hq:gX true x rs with
  |none=>rw[hq] at hb;simp at hb
  |some u=>
   rw[hq] at hb;simp only[Option.map_some,aB,bO] at hb;obtain⟨rfl,rfl⟩:=hb
   obtain⟨v',g1,g2⟩:=Ul (P:=P) (w:=w) hx h2 hq
   exact⟨Builtin.max_ aT ty aH,rfl,.same r (by simp only[Builtin.max_,h1];exact g1) g2⟩
 ·rename_i x rs
  obtain⟨x',r1,h1,hx,h2⟩:=ha.eJ
  cases hq:gX false x rs with
  |none=>rw[hq] at hb;simp at hb
  |some u=>
   rw[hq] at hb;simp only[Option.map_some,aB,bO] at hb;obtain⟨rfl,rfl⟩:=hb
   obtain⟨v',g1,g2⟩:=Um (P:=P) (w:=w) hx h2 hq
   exact⟨Builtin.min_ aT ty aH,rfl,.same r (by simp only[Builtin.min_,h1];exact g1) g2⟩
 simp at hb
def cV (P:Program)(lo:Nat)(ts:aL)(h:ai):Op→Option (Value×ai)
 |.move x=>(dF ts x).map (·,h)
 |.assign x=>(dF ts x).map (·,h)
 |.pick c a b=>match dF ts c with
  |some (.bool true)=>(dF ts a).map (·,h)
  |some (.bool false)=>(dF ts b).map (·,h)
  |_=>none
 |.alloc t=>G0 P h t
 |.box _ x=>(dF ts x).map (v8 h)
 |.build t parts=>match xE ts parts.toList with
  |some l=>(G4 P t l).map (·,h)
  |none=>none
 |.buildSlice t n parts=>match xE ts parts.toList with
  |some l=>G6 P h t n l
  |none=>none
 |.load t a=>match dF ts a with
  |some p=>(wa P h t p).map (·,h)
  |none=>none
 |.store t a x=>match dF ts a,dF ts x with
  |some p,some v=>(G1 P lo h t p v).map fun h'=>(Go.undef,h')
  |_,_=>none
 |.nilCheck x=>match dF ts x with
  |some v=>(G8 v).map (·,h)
  |none=>none
 |.binOp op t x y _=>match dF ts x,dF ts y with
  |some a,some b=>(iL P op t a b).map (·,h)
  |_,_=>none
 |.unOp op _ x=>match dF ts x with
  |some a=>(jO op a).map (·,h)
  |none=>none
 |.convert s d x=>match dF ts x with
  |some a=>(jP P s d a).map (·,h)
  |none=>none
 |.makeFunc (.func f) first captured=>match rC ts first.toList,rC ts captured.toList with
  |some xs,some ys=>some (.func (.func f) xs.toArray ys.toArray,h)
  |_,_=>none
 |.makeMap _ none=>some (.map (some h.next),h.alloc (.map []))
 |.makeSlice t l c=>match dF ts l,dF ts c with
  |some a,some b=>G7 P h t a b
  |_,_=>none
 |.slice t x lo hi mx=>match dF ts x,xF ts lo,xF ts hi,xF ts mx with
  |some v,some l,some u,some m=>(nS P t v l u m).map (·,h)
  |_,_,_,_=>none
 |.fieldAddr s x f=>match dF ts x with
  |some p=>(G2 P s p f).map (·,h)
  |none=>none
 |.field s x f=>match dF ts x with
  |some p=>(Iu P s p f).map (·,h)
  |none=>none
 |.indexAddr t x i=>match dF ts x,dF ts i with
  |some a,some b=>(Bx P t a b).map (·,h)
  |_,_=>none
 |.index t x i=>match dF ts x,dF ts i with
  |some a,some b=>(EE P t a b).map (·,h)
  |_,_=>none
 |.lookup t m k ok=>match dF ts m,dF ts k with
  |some a,some b=>(xD P h t a b ok).map (·,h)
  |_,_=>none
 |.mapUpdate t m k x=>match dF ts m,dF ts k,dF ts x with
  |some a,some b,some c=>(Dq P lo h t a b c).map fun h'=>(Go.undef,h')
  |_,_,_=>none
 |.insert t m k x=>match dF ts m,dF ts k,dF ts x with
  |some a,some b,some c=>(Dq P lo h t a b c).map fun h'=>(Go.undef,h')
  |_,_,_=>none
 |.extract x i=>match dF ts x with
  |some a=>(Iv a i).map (·,h)
  |none=>none
 |.call ⟨.builtin b,args,argTypes⟩=>match rC ts args.toList with
  |some l=>sf P lo h b argTypes.toList l
  |none=>none
 |_=>none
def He (P:Program)(lo:Nat)(s:Sem Next)(U:Mu)(h:ai)(w:World)(v:Value)(h':ai):Prop:=
 ∃nx v' w' aV,s.run P w=.ok nx w'∧(nx=.value v'∨(nx=.skip∧v'=Go.undef))∧ao aV v v'∧Rel aV lo h' w'∧Frame lo U h w aV h' w'
theorem fF.runs {P:Program}{lo:Nat}{s:Sem Value}{U:Mu}{h h':ai}{w:World}{v:Value}(ho:fF P lo s U h w v h'):He P lo (do pure (.value (← s))) U h w v h':=by
 obtain⟨v',w',aV,h1,h2,h3,h4⟩:=ho
 exact⟨.value v',v',w',aV,by simp[h1],.inl rfl,h2,h3,h4⟩
theorem He.yB {P:Program}{lo:Nat}{s:Sem Value}{U:Mu}{h:ai}{w:World}{v:Value}(r:Rel U lo h w)(hs:∃v',s.run P w=.ok v' w∧ao U v v'):He P lo (do pure (.value (← s))) U h w v h:=
 let ⟨_,h1,h2⟩:=hs
 (fF.same r h1 h2).runs
theorem He.O2 {P:Program}{lo:Nat}{s:Sem Unit}{U:Mu}{h h':ai}{w:World}(hs:∃w',s.run P w=.ok () w'∧Rel U lo h' w'∧Frame lo U h w U h' w'):He P lo (do s;pure .skip) U h w Go.undef h':=by
 obtain⟨w',h1,h2,h3⟩:=hs
 exact⟨.skip,Go.undef,w',U,by simp[h1],.inr ⟨rfl,rfl⟩,.undef,h2,h3⟩
theorem er {α β:Type}{f:α→β}{o:Option α}{b:β}(h:o.map f=some b):∃a,o=some a∧f a=b:=by
 cases o with
 |none=>simp at h
 |some a=>exact⟨a,rfl,by simpa using h⟩
theorem xjp {P:Program}{lo:Nat}{U:Mu}{h:ai}{w:World}{ts:aL}{a:Act}{o:Oper}{v:Value}{h':ai}(r:Rel U lo h w)(ht:eA U ts a.tmps)(ha:cV P lo ts h o.op=some (v,h')) :
  He P lo (execOp a.eval o) U h w v h':=by
 unfold cV at ha
 split at ha
 all_goals (rename_i O3;try unfold execOp;try rw[O3])
 ·obtain⟨u,h1,h2⟩:=er ha
  simp only[bO] at h2;obtain⟨rfl,rfl⟩:=h2
  exact⟨_,_,w,U,rfl,.inl rfl,iw ht h1,r,Frame.refl _ _ _ _⟩
 ·obtain⟨u,h1,h2⟩:=er ha
  simp only[bO] at h2;obtain⟨rfl,rfl⟩:=h2
  exact⟨_,_,w,U,rfl,.inl rfl,iw ht h1,r,Frame.refl _ _ _ _⟩
 ·rename_i c x y
  split at ha
  ·rename_i hc
   obtain⟨u,h1,h2⟩:=er ha
   simp only[bO] at h2;obtain⟨rfl,rfl⟩:=h2
   have sU:=iw ht hc
   generalize iY:a.eval c=ce at sU
   cases sU
   exact⟨_,_,w,U,by simp[iY,asBool],.inl rfl,iw ht h1,r,Frame.refl _ _ _ _⟩
  ·rename_i hc
   obtain⟨u,h1,h2⟩:=er ha
   simp only[bO] at h2;obtain⟨rfl,rfl⟩:=h2
   have sU:=iw ht hc
   generalize iY:a.eval c=ce at sU
   cases sU
   exact⟨_,_,w,U,by simp[iY,asBool],.inl rfl,iw ht h1,r,Frame.refl _ _ _ _⟩
  simp at ha
 ·exact(z0o r ha).runs
 ·rename_i el x
  obtain⟨u,h1,h2⟩:=er ha
  have:=(z9s (P:=P) r el (iw ht h1)).runs
  rw[h2] at this
  exact this
 ·split at ha
  ·rename_i l hl
   obtain⟨u,h1,h2⟩:=er ha
   simp only[bO] at h2;obtain⟨rfl,rfl⟩:=h2
   exact .yB r (z2g (by simpa using Mk ht hl) h1)
  simp at ha
 ·split at ha
  ·rename_i l hl
   exact(zo1 r (by simpa using Mk ht hl) ha).runs
  simp at ha
 ·split at ha
  ·rename_i p hp
   obtain⟨u,h1,h2⟩:=er ha
   simp only[bO] at h2;obtain⟨rfl,rfl⟩:=h2
   exact(OF r (iw ht hp) h1).runs
  simp at ha
 ·split at ha
  ·rename_i p x hp hx
   obtain⟨u,h1,h2⟩:=er ha
   simp only[bO] at h2;obtain⟨rfl,rfl⟩:=h2
   exact .O2 (z4n r (iw ht hp) (iw ht hx) h1)
  simp at ha
 ·rename_i x
  split at ha
  ·rename_i u hu
   obtain⟨u2,h1,h2⟩:=er ha
   simp only[bO] at h2;obtain⟨rfl,rfl⟩:=h2
   have hr:=iw ht hu
   generalize ic:a.eval x=xe at hr
   have qU:=hr
   unfold G8 at h1
   split at h1
   ·simp only[aB] at h1;subst h1
    cases hr with
    |ptr=>exact⟨_,_,w,U,by simp[ic],.inl rfl,qU,r,Frame.refl _ _ _ _⟩
   ·simp only[aB] at h1;subst h1
    cases hr with
    |func=>exact⟨_,_,w,U,by simp[ic],.inl rfl,qU,r,Frame.refl _ _ _ _⟩
   simp at h1
  simp at ha
 ·split at ha
  ·rename_i p q hp hq
   obtain⟨u,h1,h2⟩:=er ha
   simp only[bO] at h2;obtain⟨rfl,rfl⟩:=h2
   exact .yB r (z2f (iw ht hp) (iw ht hq) h1)
  simp at ha
 ·split at ha
  ·rename_i p hp
   obtain⟨u,h1,h2⟩:=er ha
   simp only[bO] at h2;obtain⟨rfl,rfl⟩:=h2
   exact .yB r (z6m (iw ht hp) h1)
  simp at ha
 ·split at ha
  ·rename_i p hp
   obtain⟨u,h1,h2⟩:=er ha
   simp only[bO] at h2;obtain⟨rfl,rfl⟩:=h2
   exact .yB r (zvs (iw ht hp) h1)
  simp at ha
 ·rename_i f first captured
  split at ha
  ·rename_i xs ys hx hy
   simp only[aB,bO] at ha;obtain⟨rfl,rfl⟩:=ha
   have e1:=(uw (cs:=xs.toArray) (au:=first.map a.eval)).1 (by simpa using Hd ht hx)
   have e2:=(uw (cs:=ys.toArray) (au:=captured.map a.eval)).1 (by simpa using Hd ht hy)
   exact .yB r ⟨.func (.func f) (first.map a.eval) (captured.map a.eval),by simp[Instr.makeFunc],.func f _ _ _ _ e1.1 e2.1 e1.2 e2.2⟩
  simp at ha
 ·rename_i t
  simp only[aB,bO] at ha;obtain⟨rfl,rfl⟩:=ha
  obtain⟨aV,h1,h2,h3⟩:=zq8 r
  exact(fF.mk (P:=P) (s:=Instr.makeMap t none) (v':=.map (some w.heap.size)) (by simp[Instr.makeMap]) (.map _ _ _ h1) h2 h3).runs
 ·split at ha
  ·rename_i p q hp hq
   exact(zrq r (iw ht hp) (iw ht hq) ha).runs
  simp at ha
 ·split at ha
  ·rename_i p q1 q2 q3 hp O4 EZ Dr
   obtain⟨u,h1,h2⟩:=er ha
   simp only[bO] at h2;obtain⟨rfl,rfl⟩:=h2
   exact .yB r (z0g (iw ht hp) (O1 ht O4) (O1 ht EZ) (O1 ht Dr) h1)
  simp at ha
 ·split at ha
  ·rename_i p hp
   obtain⟨u,h1,h2⟩:=er ha
   simp only[bO] at h2;obtain⟨rfl,rfl⟩:=h2
   exact .yB r (zrg (iw ht hp) h1)
  simp at ha
 ·split at ha
  ·rename_i p hp
   obtain⟨u,h1,h2⟩:=er ha
   simp only[bO] at h2;obtain⟨rfl,rfl⟩:=h2
   exact .yB r (zzv (iw ht hp) h1)
  simp at ha
 ·split at ha
  ·rename_i p q hp hq
   obtain⟨u,h1,h2⟩:=er ha
   simp only[bO] at h2;obtain⟨rfl,rfl⟩:=h2
   exact .yB r (zrm (iw ht hp) (iw ht hq) h1)
  simp at ha
 ·split at ha
  ·rename_i p q hp hq
   obtain⟨u,h1,h2⟩:=er ha
   simp only[bO] at h2;obtain⟨rfl,rfl⟩:=h2
   exact .yB r (zzl (iw ht hp) (iw ht hq) h1)
  simp at ha
 ·split at ha
  ·rename_i p q hp hq
   obtain⟨u,h1,h2⟩:=er ha
   simp only[bO] at h2;obtain⟨rfl,rfl⟩:=h2
   exact(z7d r (iw ht hp) (iw ht hq) h1).runs
  simp at ha
 ·split at ha
  ·rename_i p q x hp hq hx
   obtain⟨u,h1,h2⟩:=er ha
   simp only[bO] at h2;obtain⟨rfl,rfl⟩:=h2
   exact .O2 (Uw r (iw ht hp) (iw ht hq) (iw ht hx) h1)
  simp at ha
 ·split at ha
  ·rename_i p q x hp hq hx
   obtain⟨u,h1,h2⟩:=er ha
   simp only[bO] at h2;obtain⟨rfl,rfl⟩:=h2
   exact .O2 (Uw r (iw ht hp) (iw ht hq) (iw ht hx) h1)
  simp at ha
 ·split at ha
  ·rename_i p hp
   obtain⟨u,h1,h2⟩:=er ha
   simp only[bO] at h2;obtain⟨rfl,rfl⟩:=h2
   exact .yB r (ztt (iw ht hp) h1)
  simp at ha
 ·rename_i b args argTypes
  split at ha
  ·rename_i l hl
   have wj:=Hd ht hl
   obtain⟨s,h1,h2⟩:=zvn (ty:=o.type) (cs:=args.map fun|.const _=>true|_=>false) (aH:=args.map a.eval) r (by simpa using wj) ha
   have:((do let d ← resolve a.eval { callee:=.builtin b,args:=args,argTypes:=argTypes } o.type;invoke d.target d.args):Sem Next)=(do pure (.value (← s))):=by
    rw[← h1];rfl
   simp only[this]
   exact h2.runs
  simp at ha
 simp at ha
end Go.Am
end
