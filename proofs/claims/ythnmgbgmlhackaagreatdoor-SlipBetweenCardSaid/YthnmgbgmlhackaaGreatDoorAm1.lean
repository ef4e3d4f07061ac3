/-
 What is used in the proof of a statement (part Am1); no condition.
-/
import Derived.CallsIn
import Derived.RangeFuncIn
import Derived.OrdersIn
import Derived.Laws.World
import Derived.Laws.Cells
import Derived.Laws.IdiomCopy
import Derived.Laws.StructEq
import Derived.Laws.NewBlocks
import Derived.Laws.Append
import Derived.WideKeyRuns
set_option linter.all false
set_option maxHeartbeats 40000000
set_option maxRecDepth 100000
section
namespace Go.Am
theorem ax.{u} {α : Type u} (a b : α) : (some a = some b) = (a = b) := Option.some.injEq a b
theorem bG.{u, v} {α : Type u} {β : Type v} (a : α) (b : β) (c : α) (d : β) : ((a, b) = (c, d)) = (a = c ∧ b = d) := Prod.mk.injEq a b c d
theorem aY {n m : Nat}(h : Nat.ble n m = true) : n ≤ m := Nat.le_of_ble_eq_true h
theorem aO.{u} {α : Sort u} {a b : α} : cond true a b = a := rfl
theorem bz.{u} {α : Sort u} {a b : α} : cond false a b = b := rfl
theorem bS (a b : Bool) : ((a && b) = true) = (a = true ∧ b = true) := Bool.and_eq_true a b
theorem uF {n m : Nat}(h : Nat.beq n m = true) : n = m := Nat.eq_of_beq_eq_true h
class bF where
  K:Nat
  obj:Nat→Option Obj
  dr:Prop
@[reducible] def bF.no:bF:=⟨0,fun _=>none,True⟩
instance (priority:=1) R1:bF:=bF.no
variable [bF]
inductive Tr (α:Type) where
  |nil
  |node (l:Tr α) (v:Option α) (r:Tr α)
def Tr.get {α:Type}:Tr α→Nat→Option α
 |.nil,_=>none
 |.node l v r,i=>bif Nat.beq i 0 then v else bif Nat.beq (i % 2) 1 then l.get (i / 2) else r.get (i / 2 - 1)
def Tr.set {α:Type}(v:Option α):Nat→Tr α→Nat→Tr α
 |0,t,_=>t
 |n+1,.nil,i=>bif Nat.beq i 0 then .node .nil v .nil else bif Nat.beq (i % 2) 1 then .node (Tr.set v n .nil (i / 2)) none .nil else .node .nil none (Tr.set v n .nil (i / 2 - 1))
 |n+1,.node l u r,i=>bif Nat.beq i 0 then .node l v r else bif Nat.beq (i % 2) 1 then .node (Tr.set v n l (i / 2)) u r else .node l u (Tr.set v n r (i / 2 - 1))
theorem Tr.ML {α:Type}(v:Option α):∀(n:Nat) (t:Tr α) (i j:Nat),i<n→(Tr.set v n t i).get j=if j=i then v else t.get j:=by
 intro n
 induction n with
 |zero=>intro t i j h;omega
 |succ n ih=>
  intro t i j h
  have e0:∀k:Nat,Nat.beq k 0=decide (k=0):=fun k=>by rw[Bool.eq_iff_iff];simp
  have e1:∀k:Nat,Nat.beq k 1=decide (k=1):=fun k=>by rw[Bool.eq_iff_iff];simp
  cases t with
  |nil=>
   simp only[Tr.set,e0,e1]
   by_cases h0:i=0
   ·subst h0
    simp only[decide_true,aO,Tr.get,e0,e1]
    by_cases hj:j=0<;>simp[hj]
   by_cases h1:i % 2=1
   ·simp only[h0,h1,decide_true,decide_false,aO,bz,Tr.get,e0,e1]
    by_cases hj:j=0
    ·have:¬j=i:=by omega
     simp[hj,Ne.symm h0]
    by_cases eo:j % 2=1
    ·simp only[hj,eo,decide_true,decide_false,aO,bz]
     rw[ih _ _ _ (by omega)]
     by_cases iZ:j=i
     ·subst iZ;simp
     have:¬j / 2=i / 2:=by omega
     simp[iZ,this,Tr.get]
    have:¬j=i:=by intro hh;subst hh;exact eo h1
    simp[hj,eo,this]
   simp only[h0,h1,decide_false,bz,Tr.get,e0,e1]
   by_cases hj:j=0
   ·have:¬j=i:=by omega
    simp[hj,Ne.symm h0]
   by_cases eo:j % 2=1
   ·have:¬j=i:=by intro hh;subst hh;exact h1 eo
    simp[hj,eo,this]
   simp only[hj,eo,decide_false,bz]
   rw[ih _ _ _ (by omega)]
   by_cases iZ:j=i
   ·subst iZ;simp
   have:¬j / 2 - 1=i / 2 - 1:=by omega
   simp[iZ,this,Tr.get]
  |node l u r=>
   simp only[Tr.set,e0,e1]
   by_cases h0:i=0
   ·subst h0
    simp only[decide_true,aO,Tr.get,e0,e1]
    by_cases hj:j=0<;>simp[hj]
   by_cases h1:i % 2=1
   ·simp only[h0,h1,decide_true,decide_false,aO,bz,Tr.get,e0,e1]
    by_cases hj:j=0
    ·simp[hj,Ne.symm h0]
    by_cases eo:j % 2=1
    ·simp only[hj,eo,decide_true,decide_false,aO,bz]
     rw[ih _ _ _ (by omega)]
     by_cases iZ:j=i
     ·subst iZ;simp
     have:¬j / 2=i / 2:=by omega
     simp[iZ,this]
    have:¬j=i:=by intro hh;subst hh;exact eo h1
    simp[hj,eo,this]
   simp only[h0,h1,decide_false,bz,Tr.get,e0,e1]
   by_cases hj:j=0
   ·simp[hj,Ne.symm h0]
   by_cases eo:j % 2=1
   ·have:¬j=i:=by intro hh;subst hh;exact h1 eo
    simp[hj,eo,this]
   simp only[hj,eo,decide_false,bz]
   rw[ih _ _ _ (by omega)]
   by_cases iZ:j=i
   ·subst iZ;simp
   have:¬j / 2 - 1=i / 2 - 1:=by omega
   simp[iZ,this]
structure MM where
  params:Array Tmp
  assign:Code
  body:Code
  ts:List Value
  tag:Nat
inductive bc where
  |cells (s:Nat) (cs:List Value)
  |map (es:List (Value×Value))
  |emap (es:List (Value×Value)) (k:Value) (born:Nat)
  |loop (L:MM) (jump:Option Code)
structure ah where
  next:Nat
  tr:Tr bc
def ah.get (h:ah)(o:Nat):Option bc:=bif Nat.blt o h.next then h.tr.get o else none
def ah.put (h:ah)(o:Nat)(x:Option bc):ah:=⟨h.next,h.tr.set x (o+1) o⟩
def ah.alloc (h:ah)(x:bc):ah:=⟨h.next+1,h.tr.set (some x) (h.next+1) h.next⟩
def ah.empty:ah:=⟨0,.nil⟩
theorem ah.get_eq (h:ah)(o:Nat):h.get o=if o<h.next then h.tr.get o else none:=by
 unfold ah.get
 by_cases ho:o<h.next
 ·have:Nat.blt o h.next=true:=by rw[Nat.blt_eq];exact ho
  simp[this,ho]
 have:Nat.blt o h.next=false:=by rw[← Bool.not_eq_true,Nat.blt_eq];exact ho
 simp[this,ho]
theorem ah.gx {h:ah}{o:Nat}{x:bc}(hx:h.get o=some x):o<h.next:=by
 rw[ah.get_eq] at hx
 by_cases ho:o<h.next
 ·exact ho
 simp[ho] at hx
theorem ah.dJ (h:ah)(o p:Nat)(x:Option bc)(ho:o<h.next):(h.put o x).get p=if p=o then x else h.get p:=by
 simp only[ah.get_eq,ah.put]
 rw[Tr.ML _ _ _ _ _ (by omega)]
 by_cases hp:p=o
 ·subst hp;simp[ho]
 simp[hp]
theorem ah.jf (h:ah)(p:Nat)(x:bc):(h.alloc x).get p=if p=h.next then some x else h.get p:=by
 simp only[ah.get_eq,ah.alloc]
 rw[Tr.ML _ _ _ _ _ (by omega)]
 by_cases hp:p=h.next
 ·subst hp;simp
 by_cases hl:p<h.next
 ·have:p<h.next+1:=by omega
  simp[hp,hl,this]
 have:¬p<h.next+1:=by omega
 simp[hp,hl,this]
@[simp] theorem ah.Kd (h:ah)(o:Nat)(x:Option bc):(h.put o x).next=h.next:=rfl
@[simp] theorem ah.xb2 (h:ah)(x:bc):(h.alloc x).next=h.next+1:=rfl
theorem ah.R3 (o:Nat):ah.empty.get o=none:=by simp[ah.get_eq,ah.empty]
abbrev Mu:=Nat→Option (Nat×Nat×Nat)
def az:Nat:=4611686018427387904
def Mu.le (U ν:Mu):Prop:=∀o x,U o=some x→ν o=some x
theorem Mu.le_refl (U:Mu):U.le U:=fun _ _ h=>h
theorem Mu.le_trans {U ν ρ:Mu}(h:U.le ν)(h':ν.le ρ):U.le ρ:=fun o x hx=>h' o x (h o x hx)
def ie (C k:Nat):Nat:=if k<az then k else C - (k - az)
def dW:Nat:=9223372036854775808
inductive ak (U:Mu):Value→Value→Prop where
  |bool (b:Bool):ak U (.bool b) (.bool b)
  |int (k:IntKind) (n:Int):ak U (.int k n) (.int k n)
  |string (s:ByteArray):ak U (.string s) (.string s)
  |nilFunc:ak U .nilFunc .nilFunc
  |nilIface:ak U .nilIface .nilIface
  |mH:ak U (.pointer none) (.pointer none)
  |ptr (o off b a C:Nat) (h:U o=some (b,a,C)):ak U (.pointer (some ⟨o,off,none⟩)) (.pointer (some ⟨b,a+off,none⟩))
  |dY:ak U (.slice none 0 0) (.slice none 0 0)
  |slice (o off l k b a C:Nat) (h:U o=some (b,a,C)) (hl:l≤ie C k) (hk:k<dW):ak U (.slice (some ⟨o,off,none⟩) l k) (.slice (some ⟨b,a+off,none⟩) l (ie C k))
  |bX (p p':Addr) (c:Nat):ak U (.slice (some p) 0 dW) (.slice (some p') 0 c)
  |cp (p p':Addr):ak U (.slice (some p) 0 0) (.slice (some p') 0 0)
  |mI:ak U (.map none) (.map none)
  |map (o b C:Nat) (h:U o=some (b,0,C)):ak U (.map (some o)) (.map (some b))
  |func (f:FuncId) (xs ys bw dK:Array Value) (hx:xs.size=bw.size) (hy:ys.size=dK.size)
      (rx:∀(i:Nat) (h:i<xs.size) (h':i<bw.size),ak U xs[i] bw[i]) (ry:∀(i:Nat) (h:i<ys.size) (h':i<dK.size),ak U ys[i] dK[i]) :
      ak U (.func (.func f) xs ys) (.func (.func f) bw dK)
  |kS (l b C:Nat) (h:U l=some (b,0,C)):ak U (.func (.yield l) #[] #[]) (.func (.yield b) #[] #[])
  |iface (t:TypeId) (v v':Value) (h:ak U v v'):ak U (.iface t v) (.iface t v')
  |agg (cs ar:Array Value) (hs:cs.size=ar.size) (r:∀(i:Nat) (h:i<cs.size) (h':i<ar.size),ak U cs[i] ar[i]):ak U (.agg cs) (.agg ar)
  |tuple (cs ar:Array Value) (hs:cs.size=ar.size) (r:∀(i:Nat) (h:i<cs.size) (h':i<ar.size),ak U cs[i] ar[i]):ak U (.tuple cs) (.tuple ar)
theorem ak.mono {U ν:Mu}(hle:U.le ν){v v':Value}(h:ak U v v'):ak ν v v':=by
 induction h with
 |bool b=>exact .bool b
 |int k n=>exact .int k n
 |string s=>exact .string s
 |nilFunc=>exact .nilFunc
 |nilIface=>exact .nilIface
 |mH=>exact .mH
 |ptr o off b a C h=>exact .ptr o off b a C (hle _ _ h)
 |dY=>exact .dY
 |slice o off l k b a C h hl hk=>exact .slice o off l k b a C (hle _ _ h) hl hk
 |bX p p' c=>exact .bX p p' c
 |cp p p'=>exact .cp p p'
 |mI=>exact .mI
 |map o b C h=>exact .map o b C (hle _ _ h)
 |func f xs ys bw dK hx hy _ _ rx ry=>exact .func f xs ys bw dK hx hy rx ry
 |kS l b C h=>exact .kS l b C (hle _ _ h)
 |iface t v v' _ ih=>exact .iface t v v' ih
 |agg cs ar hs _ r=>exact .agg cs ar hs r
 |tuple cs ar hs _ r=>exact .tuple cs ar hs r
def bA (U:Mu)(l l':List Value):Prop:=l.length=l'.length∧∀(i:Nat) (v:Value),l[i]?=some v→∃v',l'[i]?=some v'∧ak U v v'
theorem bA.mono {U ν:Mu}(hle:U.le ν){l l':List Value}(h:bA U l l'):bA ν l l':=
 ⟨h.1,fun i v hv=>let ⟨v',h1,h2⟩:=h.2 i v hv;⟨v',h1,h2.mono hle⟩⟩
theorem bA.nil (U:Mu):bA U [] []:=⟨rfl,fun i v h=>by simp at h⟩
theorem bA.cons {U:Mu}{v v':Value}{l l':List Value}(hv:ak U v v')(h:bA U l l'):bA U (v::l) (v'::l'):=by
 refine⟨by simp[h.1],fun i u hu=>?_⟩
 cases i with
 |zero=>simp at hu;subst hu;exact⟨v',by simp,hv⟩
 |succ i=>simp at hu;obtain⟨u',h1,h2⟩:=h.2 i u hu;exact⟨u',by simpa using h1,h2⟩
theorem bA.jM {U:Mu}{l:List Value}(h:bA U [] l):l=[]:=by
 have:=h.1;simp at this;exact List.eq_nil_of_length_eq_zero this.symm
theorem bA.dE {U:Mu}{v:Value}{l r:List Value}(h:bA U (v::l) r):∃v' l',r=v'::l'∧ak U v v'∧bA U l l':=by
 cases r with
 |nil=>have:=h.1;simp at this
 |cons v' l'=>
  obtain⟨u,h1,h2⟩:=h.2 0 v (by simp)
  simp at h1;subst h1
  exact⟨v',l',rfl,h2,by have:=h.1;simpa using this,fun i x hx=>by have:=h.2 (i+1) x (by simpa using hx);simpa using this⟩
theorem bA.append {U:Mu}{l l' r r':List Value}(h:bA U l l')(h2:bA U r r'):bA U (l++r) (l'++r'):=by
 refine⟨by simp[h.1,h2.1],fun i v hv=>?_⟩
 by_cases hi:i<l.length
 ·rw[List.getElem?_append_left hi] at hv
  rw[List.getElem?_append_left (by have:=h.1;omega)]
  exact h.2 i v hv
 rw[List.getElem?_append_right (by omega)] at hv
 rw[List.getElem?_append_right (by have:=h.1;omega)]
 have:=h2.2 _ v hv
 rwa [h.1] at this
theorem bA.take {U:Mu}{l l':List Value}(n:Nat)(h:bA U l l'):bA U (l.take n) (l'.take n):=by
 refine⟨by simp[h.1],fun i v hv=>?_⟩
 rw[List.getElem?_take] at hv ⊢
 split at hv
 ·rename_i aP;simp only[aP,if_true];exact h.2 i v hv
 simp at hv
theorem bA.drop {U:Mu}{l l':List Value}(n:Nat)(h:bA U l l'):bA U (l.drop n) (l'.drop n):=by
 refine⟨by simp[h.1],fun i v hv=>?_⟩
 rw[List.getElem?_drop] at hv ⊢
 exact h.2 _ v hv
theorem bA.set {U:Mu}{l l':List Value}{v v':Value}(n:Nat)(h:bA U l l')(hv:ak U v v'):bA U (l.set n v) (l'.set n v'):=by
 refine⟨by simp[h.1],fun i u hu=>?_⟩
 rw[List.getElem?_set] at hu ⊢
 by_cases hi:n=i
 ·subst hi
  simp only[if_true] at hu ⊢
  by_cases hn:n<l.length
  ·simp[hn] at hu;subst hu
   have:n<l'.length:=by have:=h.1;omega
   exact⟨v',by simp[this],hv⟩
  simp[hn] at hu
 simp only[hi,if_false] at hu ⊢
 exact h.2 i u hu
theorem sV {U:Mu}{cs ar:Array Value}:bA U cs.toList ar.toList↔(cs.size=ar.size∧∀(i:Nat) (h:i<cs.size) (h':i<ar.size),ak U cs[i] ar[i]):=by
 constructor
 ·intro ⟨h1,h2⟩
  refine⟨by simpa using h1,fun i hi dD=>?_⟩
  obtain⟨v',hv,hr⟩:=h2 i cs[i] (by simp[hi])
  simp[dD] at hv
  rw[hv];exact hr
 intro ⟨h1,h2⟩
 refine⟨by simpa using h1,fun i v hv=>?_⟩
 have hi:i<cs.size:=by
  rcases Nat.lt_or_ge i cs.size with h|h
  ·exact h
  rw[List.getElem?_eq_none (by simpa using h)] at hv;simp at hv
 simp[hi] at hv
 subst hv
 exact⟨ar[i],by simp[h1▸hi],h2 i hi (h1▸hi)⟩
theorem ak.lO {U:Mu}{cs ar:List Value}(h:bA U cs ar):ak U (.agg cs.toArray) (.agg ar.toArray):=by
 have:=(sV (U:=U) (cs:=cs.toArray) (ar:=ar.toArray)).1 (by simpa using h)
 exact .agg _ _ this.1 this.2
theorem ak.sW {U:Mu}{cs ar:List Value}(h:bA U cs ar):ak U (.tuple cs.toArray) (.tuple ar.toArray):=by
 have:=(sV (U:=U) (cs:=cs.toArray) (ar:=ar.toArray)).1 (by simpa using h)
 exact .tuple _ _ this.1 this.2
theorem ak.undef {U:Mu}:ak U Go.undef Go.undef:=.tuple #[] #[] rfl (fun i h=>by simp at h)
theorem ak.Fi {U:Mu}{cs:Array Value}{v':Value}(h:ak U (.agg cs) v'):∃ar,v'=.agg ar∧bA U cs.toList ar.toList:=by
 cases h with
 |agg _ ar hs r=>exact⟨ar,rfl,sV.2 ⟨hs,r⟩⟩
theorem ak.R4 {U:Mu}{cs:Array Value}{v':Value}(h:ak U (.tuple cs) v'):∃ar,v'=.tuple ar∧bA U cs.toList ar.toList:=by
 cases h with
 |tuple _ ar hs r=>exact⟨ar,rfl,sV.2 ⟨hs,r⟩⟩
theorem ak.Zt {U:Mu}{v v':Value}(h:ak U v v'):v'.oneCell'=v.oneCell':=by cases h<;>rfl
theorem ak.cells {U:Mu}{v v':Value}(h:ak U v v'):bA U v.cells.toList v'.cells.toList:=by
 cases h with
 |agg cs ar hs r=>exact sV.2 ⟨hs,r⟩
 |tuple cs ar hs r=>simpa[Value.cells] using bA.cons (ak.tuple cs ar hs r) (bA.nil U)
 |bool b=>simpa[Value.cells] using bA.cons (ak.bool b) (bA.nil U)
 |int k n=>simpa[Value.cells] using bA.cons (ak.int k n) (bA.nil U)
 |string s=>simpa[Value.cells] using bA.cons (ak.string s) (bA.nil U)
 |nilFunc=>simpa[Value.cells] using bA.cons (ak.nilFunc) (bA.nil U)
 |nilIface=>simpa[Value.cells] using bA.cons (ak.nilIface) (bA.nil U)
 |mH=>simpa[Value.cells] using bA.cons (ak.mH) (bA.nil U)
 |ptr o off b a C h=>simpa[Value.cells] using bA.cons (ak.ptr o off b a C h) (bA.nil U)
 |dY=>simpa[Value.cells] using bA.cons (ak.dY) (bA.nil U)
 |slice o off l k b a C h hl hk=>simpa[Value.cells] using bA.cons (ak.slice o off l k b a C h hl hk) (bA.nil U)
 |bX p p' c=>simpa[Value.cells] using bA.cons (ak.bX p p' c) (bA.nil U)
 |cp p p'=>simpa[Value.cells] using bA.cons (ak.cp p p') (bA.nil U)
 |mI=>simpa[Value.cells] using bA.cons (ak.mI) (bA.nil U)
 |map o b C h=>simpa[Value.cells] using bA.cons (ak.map o b C h) (bA.nil U)
 |func f xs ys bw dK hx hy rx ry=>simpa[Value.cells] using bA.cons (ak.func f xs ys bw dK hx hy rx ry) (bA.nil U)
 |kS l b C h=>simpa[Value.cells] using bA.cons (ak.kS l b C h) (bA.nil U)
 |iface t v v' h=>simpa[Value.cells] using bA.cons (ak.iface t v v' h) (bA.nil U)
def C4 (U:Mu)(p:Value×Value)(e:MapEntry):Prop:=e.key=p.1∧ak U p.2 e.val
def gU (U:Mu)(es:List (Value×Value))(entries:Array MapEntry)(clock:Nat):Prop:=
 ∃l:List (Value×Value),l.Perm es∧(l.map (·.1)).Nodup∧l.length=entries.size∧(∀(i:Nat) p e,l[i]?=some p→entries[i]?=some e→C4 U p e)∧
  (entries.toList.map (·.born)).Pairwise (·<·)∧(∀e∈entries.toList,e.born<clock)
def gd (U:Mu)(w:World)(b a C:Nat):bc→Prop
 | .cells s cs => b < w.heap.size ∧ (∀ (i : Nat) v, cs[i]? = some v → ∃ v', w.cell? ⟨b, a + i, none⟩ = some v' ∧ ak U v v') ∧
  (0<s→cs.length≤C*s∧∀i,i<C*s→∃v',w.cell? ⟨b,a+i,none⟩=some v')
 |.map es=>a=0∧∃entries clock,w.heap[b]?=some (.map entries clock)∧gU U es entries clock
 |.emap es k born=>a=0∧∃entries clock,w.heap[b]?=some (.map entries clock)∧gU U es entries clock∧∃e∈entries.toList,e.key=k∧e.born=born
 |.loop L jump=>a=0∧∃r:Loop,w.heap[b]?=some (.loop r)∧r.state=(if jump.isNone then .ready else .done)∧r.pending=jump∧r.params=L.params∧r.assign=L.assign∧r.body=L.body∧bA U L.ts r.tmps.toList
def Aj (U:Mu)(lo:Nat)(h:ah)(b:Nat):Prop:=∃o x a C,lo≤o∧h.get o=some x∧U o=some (b,a,C)
structure Gl (U:Mu) (lo:Nat) (h:ah) (w:World):Prop where
  gl:∀b,b<bF.K→w.heap[b]?=bF.obj b
  ks:bF.K≤w.heap.size
  hi:∀o x b a C,lo≤o→h.get o=some x→U o=some (b,a,C)→bF.K≤b
theorem Gl.step {U aS:Mu}{lo fE:Nat}{h h':ah}{w w':World}(g:Gl U lo h w)(hs:w.heap.size≤w'.heap.size)(hk:∀b,b<w.heap.size→¬Aj U lo h b→w'.heap[b]?=w.heap[b]?)(ho:∀o x b a C,fE≤o→h'.get o=some x→aS o=some (b,a,C)→b<w.heap.size→Aj U lo h b):Gl aS fE h' w' where
  gl b hb:=by
    rw[hk b (Nat.lt_of_lt_of_le hb g.ks) fun⟨o,x,a,C,h1,h2,h3⟩=>by have:=g.hi o x b a C h1 h2 h3;omega]
    exact g.gl b hb
  ks:=Nat.le_trans g.ks hs
  hi o x b a C h1 h2 h3:=by
    by_cases hb:b<w.heap.size
    · obtain⟨o',x',a',C',k1,k2,k3⟩:=ho o x b a C h1 h2 h3 hb
      exact g.hi o' x' b a' C' k1 k2 k3
    have:=g.ks;omega
theorem Gl.same {U:Mu}{lo fE:Nat}{h h':ah}{w w':World}(g:Gl U lo h w)(hw:w'.heap=w.heap)(hs:∀o x,fE≤o→h'.get o=some x→lo≤o∧∃y,h.get o=some y):Gl U fE h' w':=
 g.step (by rw[hw];exact Nat.le_refl _) (fun b _ _=>by rw[hw]) fun o x b a C h1 h2 h3 _=>let ⟨k1,y,k2⟩:=hs o x h1 h2;⟨o,y,a,C,k1,k2,h3⟩
structure Rel (U:Mu) (lo:Nat) (h:ah) (w:World):Prop where
  bq:∀o x,h.get o=some x→∃b a C,U o=some (b,a,C)∧gd U w b a C x
  inj:∀o o' x x' b a C a' C',lo≤o→h.get o=some x→h.get o'=some x'→U o=some (b,a,C)→U o'=some (b,a',C')→o=o'
  pF:∀o x,U o=some x→o<h.next
  eY:∀o x b a C,lo≤o→h.get o=some x→U o=some (b,a,C)→∀off,w.frozen? ⟨b,off,none⟩=false
  bO:lo≤h.next
  kq:Gl U lo h w
structure Calm (w w':World):Prop where
  os:w'.os=w.os
  out:w'.output=w.output
  tape:w'.tape=w.tape
  drawn:bF.dr→w.drawn≤w'.drawn
theorem Calm.refl (w:World):Calm w w:=⟨rfl,rfl,rfl,fun _=>Nat.le_refl _⟩
theorem Calm.trans {a b c:World}(h:Calm a b)(g:Calm b c):Calm a c:=⟨g.1.trans h.1,g.2.trans h.2,g.3.trans h.3,fun hd=>Nat.le_trans (h.4 hd) (g.4 hd)⟩
structure Frame (lo:Nat) (U:Mu) (h:ah) (w:World) (aS:Mu) (h':ah) (w':World):Prop where
  le:U.le aS
  size:w.heap.size≤w'.heap.size
  next:h.next≤h'.next
  kept:∀b,b<w.heap.size→¬Aj U lo h b→w'.heap[b]?=w.heap[b]?
  own:∀b,b<w.heap.size→Aj aS lo h' b→Aj U lo h b
  low:∀o,o<lo→h'.get o=h.get o
  gV:∀o,o<h.next→aS o=U o
  born:∀o,o<h.next→h.get o=none→h'.get o=none
  calm:Calm w w'
theorem Frame.refl (lo:Nat)(U:Mu)(h:ah)(w:World):Frame lo U h w U h w:=⟨Mu.le_refl U,Nat.le_refl _,Nat.le_refl _,fun _ _ _=>rfl,fun _ _ h=>h,fun _ _=>rfl,fun _ _=>rfl,fun _ _ h=>h,.refl w⟩
theorem Frame.trans {lo:Nat}{U oO B1:Mu}{h h1 h2:ah}{w w1 w2:World}(f:Frame lo U h w oO h1 w1)(g:Frame lo oO h1 w1 B1 h2 w2):Frame lo U h w B1 h2 w2 where
  le:=Mu.le_trans f.le g.le
  size:=Nat.le_trans f.size g.size
  next:=Nat.le_trans f.next g.next
  kept b hb hn:=by rw[g.kept b (Nat.lt_of_lt_of_le hb f.size) (fun ho=>hn (f.own b hb ho)),f.kept b hb hn]
  own b hb ho:=f.own b hb (g.own b (Nat.lt_of_lt_of_le hb f.size) ho)
  low o ho:=by rw[g.low o ho,f.low o ho]
  gV o ho:=by rw[g.gV o (Nat.lt_of_lt_of_le ho f.next),f.gV o ho]
  born o ho hn:=g.born o (Nat.lt_of_lt_of_le ho f.next) (f.born o ho hn)
  calm:=f.calm.trans g.calm
theorem Gl.frame {U aS:Mu}{lo:Nat}{h h':ah}{w w':World}(g:Gl U lo h w)(f:Frame lo U h w aS h' w'):Gl aS lo h' w':=
 g.step f.size f.kept fun o x b a C hl hx hm hb=>f.own b hb ⟨o,x,a,C,hl,hx,hm⟩
theorem Rel.MN {U aS:Mu}{lo:Nat}{h h':ah}{w w':World}(r:Rel U lo h w)
 (bq:∀o x,h'.get o=some x→∃b a C,aS o=some (b,a,C)∧gd aS w' b a C x)
 (inj:∀o o' x x' b a C a' C',lo≤o→h'.get o=some x→h'.get o'=some x'→aS o=some (b,a,C)→aS o'=some (b,a',C')→o=o')
 (pF:∀o x,aS o=some x→o<h'.next)
 (eY:∀o x b a C,lo≤o→h'.get o=some x→aS o=some (b,a,C)→∀off,w'.frozen? ⟨b,off,none⟩=false)
 (bO:lo≤h'.next) (f:Frame lo U h w aS h' w'):Rel aS lo h' w'∧Frame lo U h w aS h' w':=⟨⟨bq,inj,pF,eY,bO,r.kq.frame f⟩,f⟩
theorem C5 {w w':World}{b off:Nat}(h:w'.heap[b]?=w.heap[b]?):w'.cell? ⟨b,off,none⟩=w.cell? ⟨b,off,none⟩:=by
 simp[World.cell?,h]
theorem Ak {w w':World}{b off:Nat}(h:w'.heap[b]?=w.heap[b]?):w'.frozen? ⟨b,off,none⟩=w.frozen? ⟨b,off,none⟩:=by
 simp[World.frozen?,h]
theorem gU.mono {U ν:Mu}(hle:U.le ν){es:List (Value×Value)}{entries:Array MapEntry}{clock:Nat}(h:gU U es entries clock):gU ν es entries clock:=by
 obtain⟨l,h1,h0,h2,h3,h4,h5⟩:=h
 exact⟨l,h1,h0,h2,fun i p e hp he=>⟨(h3 i p e hp he).1,(h3 i p e hp he).2.mono hle⟩,h4,h5⟩
theorem gd.mono {U ν:Mu}(hle:U.le ν){w:World}{b a C:Nat}{x:bc}(h:gd U w b a C x):gd ν w b a C x:=by
 cases x with
 |cells s cs=>exact⟨h.1,fun i v hv=>let ⟨v',h1,h2⟩:=h.2.1 i v hv;⟨v',h1,h2.mono hle⟩,h.2.2⟩
 |map es=>obtain⟨h1,entries,clock,h2,h3⟩:=h;exact⟨h1,entries,clock,h2,h3.mono hle⟩
 |emap es k born=>obtain⟨h1,entries,clock,h2,h3,h4⟩:=h;exact⟨h1,entries,clock,h2,h3.mono hle,h4⟩
 |loop L jump=>obtain⟨h1,r,h2,h3,h4,h5,h6,h7,h8⟩:=h;exact⟨h1,r,h2,h3,h4,h5,h6,h7,h8.mono hle⟩
theorem gd.tZ {U:Mu}{w:World}{b a C:Nat}{x:bc}(h:gd U w b a C x):b<w.heap.size:=by
 cases x with
 |cells s cs=>exact h.1
 |map es=>
  obtain⟨_,entries,clock,h2,_⟩:=h
  rcases Nat.lt_or_ge b w.heap.size with h'|h'
  ·exact h'
  simp[Array.getElem?_eq_none h'] at h2
 |emap es k born=>
  obtain⟨_,entries,clock,h2,_⟩:=h
  rcases Nat.lt_or_ge b w.heap.size with h'|h'
  ·exact h'
  simp[Array.getElem?_eq_none h'] at h2
 |loop L jump=>
  obtain⟨_,r,h2,_⟩:=h
  rcases Nat.lt_or_ge b w.heap.size with h'|h'
  ·exact h'
  simp[Array.getElem?_eq_none h'] at h2
theorem gd.kept {U:Mu}{w w':World}{b a C:Nat}{x:bc}(h:gd U w b a C x)(hb:w'.heap[b]?=w.heap[b]?):gd U w' b a C x:=by
 have aP:b<w'.heap.size:=by
  have h0:=h.tZ
  rcases Nat.lt_or_ge b w'.heap.size with h'|h'
  ·exact h'
  rw[Array.getElem?_eq_none h',Array.getElem?_eq_getElem h0] at hb;simp at hb
 cases x with
 |cells s cs=>
  refine⟨aP,fun i v hv=>?_,fun hs=>⟨(h.2.2 hs).1,fun i hi=>?_⟩⟩
  ·obtain⟨v',h1,h2⟩:=h.2.1 i v hv
   exact⟨v',by rw[C5 hb];exact h1,h2⟩
  obtain⟨v',h1⟩:=(h.2.2 hs).2 i hi
  exact⟨v',by rw[C5 hb];exact h1⟩
 |map es=>obtain⟨h1,entries,clock,h2,h3⟩:=h;exact⟨h1,entries,clock,by rw[hb];exact h2,h3⟩
 |emap es k born=>obtain⟨h1,entries,clock,h2,h3⟩:=h;exact⟨h1,entries,clock,by rw[hb];exact h2,h3⟩
 |loop L jump=>obtain⟨h1,r,h2,h3⟩:=h;exact⟨h1,r,by rw[hb];exact h2,h3⟩
theorem Rel.sub {U:Mu}{lo fE:Nat}{h h':ah}{w:World}(r:Rel U lo h w)(hn:h.next≤h'.next)(hs:∀o x,h'.get o=some x→h.get o=some x)(cg:lo≤fE)(hl:fE≤h'.next):Rel U fE h' w where
  bO:=hl
  kq:=r.kq.same rfl fun o x h1 h2=>⟨Nat.le_trans cg h1,x,hs o x h2⟩
  bq o x hx:=r.bq o x (hs o x hx)
  inj o o' x x' b a C a' C' hl hx vH:=r.inj o o' x x' b a C a' C' (Nat.le_trans cg hl) (hs o x hx) (hs o' x' vH)
  pF o x hx:=Nat.lt_of_lt_of_le (r.pF o x hx) hn
  eY o x b a C hl hx:=r.eY o x b a C (Nat.le_trans cg hl) (hs o x hx)
theorem Rel.drew {U:Mu}{lo:Nat}{h:ah}{w:World}(r:Rel U lo h w):Rel U lo h w.drew where
  bq o x hx:=let ⟨b,a,C,h1,h2⟩:=r.bq o x hx;⟨b,a,C,h1,h2.kept rfl⟩
  inj:=r.inj
  pF:=r.pF
  eY:=r.eY
  bO:=r.bO
  kq:=r.kq.same rfl fun o x h1 h2=>⟨h1,x,h2⟩
theorem Frame.drew (lo:Nat)(U:Mu)(h:ah)(w:World):Frame lo U h w U h w.drew:=⟨Mu.le_refl U,Nat.le_refl _,Nat.le_refl _,fun _ _ _=>rfl,fun _ _ h=>h,fun _ _=>rfl,fun _ _=>rfl,fun _ _ h=>h,⟨rfl,rfl,rfl,fun _=>by first|exact Nat.le_refl _|exact Nat.le_add_right _ _|exact Nat.le_succ _⟩⟩
end Go.Am
end
section
namespace Go.Am
variable [bF]
def Mu.put (U:Mu)(o:Nat)(x:Nat×Nat×Nat):Mu:=fun p=>if p=o then some x else U p
theorem Mu.cB (U:Mu)(o:Nat)(x:Nat×Nat×Nat):U.put o x o=some x:=by simp[Mu.put]
theorem Mu.jN {U:Mu}{o p:Nat}(x:Nat×Nat×Nat)(h:p≠o):U.put o x p=U p:=by simp[Mu.put,h]
theorem Rel.R5 {U:Mu}{lo:Nat}{h:ah}{w:World}(r:Rel U lo h w){o:Nat}(ho:h.next≤o):U o=none:=by
 cases hx:U o with
 |none=>rfl
 |some x=>have:=r.pF o x hx;omega
theorem Rel.C6 {U:Mu}{lo:Nat}{h:ah}{w:World}(r:Rel U lo h w)(x:Nat×Nat×Nat):U.le (U.put h.next x):=by
 intro o y hy
 have:o≠h.next:=by
  intro ho;subst ho
  rw[r.R5 (Nat.le_refl _)] at hy;simp at hy
 rw[Mu.jN _ this];exact hy
theorem heap_alloc (w:World)(o:Obj):(w.alloc o).heap=w.heap.push o:=rfl
theorem heap_alloc_old (w:World)(o:Obj){b:Nat}(hb:b<w.heap.size):(w.alloc o).heap[b]?=w.heap[b]?:=by
 have:b≠w.heap.size:=by omega
 rw[heap_alloc,Array.getElem?_push];simp[this]
theorem MO {U:Mu}{lo:Nat}{h:ah}{w:World}(r:Rel U lo h w)(ob:Obj)(C:Nat)(x:bc)
  (hx:gd (U.put h.next (w.heap.size,0,C)) (w.alloc ob) w.heap.size 0 C x) (hf:∀off,(w.alloc ob).frozen? ⟨w.heap.size,off,none⟩=false) :
  Rel (U.put h.next (w.heap.size,0,C)) lo (h.alloc x) (w.alloc ob)∧Frame lo U h w (U.put h.next (w.heap.size,0,C)) (h.alloc x) (w.alloc ob):=by
 have hle:=r.C6 (w.heap.size,0,C)
 have hold:∀o y,h.get o=some y→o≠h.next:=fun o y hy=>by have:=ah.gx hy;omega
 have hblk:∀o y b a C',h.get o=some y→U o=some (b,a,C')→b<w.heap.size:=fun o y b a C' hy hm=>by
  obtain⟨b',a',qV,h1,h2⟩:=r.bq o y hy
  rw[hm] at h1;injection h1 with h1;injection h1 with h1 _;subst h1
  exact h2.tZ
 constructor
 ·constructor
  ·intro o y hy
   rw[ah.jf] at hy
   by_cases ho:o=h.next
   ·subst ho
    simp at hy;subst hy
    exact⟨_,_,_,Mu.cB _ _ _,hx⟩
   simp[ho] at hy
   obtain⟨b,a,C',h1,h2⟩:=r.bq o y hy
   exact⟨b,a,C',by rw[Mu.jN _ ho];exact h1,(h2.mono hle).kept (heap_alloc_old _ _ h2.tZ)⟩
  ·intro o o' y y' b a C' a' qV hl hy qW hm eI
   rw[ah.jf] at hy qW
   by_cases ho:o=h.next
   ·by_cases lz:o'=h.next
    ·rw[ho,lz]
    simp[lz] at qW
    rw[Mu.jN _ lz] at eI
    have:=hblk o' y' _ _ _ qW eI
    subst ho;rw[Mu.cB] at hm;injection hm with hm;injection hm with hm _;omega
   simp[ho] at hy
   rw[Mu.jN _ ho] at hm
   have h1:=hblk o y _ _ _ hy hm
   by_cases lz:o'=h.next
   ·subst lz;rw[Mu.cB] at eI;injection eI with eI;injection eI with eI _;omega
   simp[lz] at qW
   rw[Mu.jN _ lz] at eI
   exact r.inj o o' y y' b a C' a' qV hl hy qW hm eI
  ·intro o y hy
   by_cases ho:o=h.next
   ·subst ho;simp
   rw[Mu.jN _ ho] at hy
   have:=r.pF o y hy
   simp;omega
  ·intro o y b a C' hl hy hm off
   rw[ah.jf] at hy
   by_cases ho:o=h.next
   ·subst ho
    rw[Mu.cB] at hm;injection hm with hm;injection hm with hm _;subst hm
    exact hf off
   simp[ho] at hy
   rw[Mu.jN _ ho] at hm
   rw[Ak (heap_alloc_old _ _ (hblk o y _ _ _ hy hm))]
   exact r.eY o y b a C' hl hy hm off
  ·have:=r.bO;simp;omega
  refine r.kq.step (by simp) (fun b hb _=>heap_alloc_old _ _ hb) fun o y b a C' hl hy hm hb=>?_
  rw[ah.jf] at hy
  by_cases ho:o=h.next
  ·subst ho;rw[Mu.cB] at hm;injection hm with hm;injection hm with hm _;omega
  simp[ho] at hy
  rw[Mu.jN _ ho] at hm
  exact⟨o,y,a,C',hl,hy,hm⟩
 refine⟨hle,by simp,by simp,fun b hb _=>heap_alloc_old _ _ hb,fun b hb=>?_,fun o ho=>?_,fun o ho=>Mu.jN _ (by omega),fun o ho hn=>by rw[ah.jf,if_neg (by omega)];exact hn,⟨rfl,rfl,rfl,fun _=>by first|exact Nat.le_refl _|exact Nat.le_add_right _ _|exact Nat.le_succ _⟩⟩
 ·rintro⟨o,y,a,C',hl,hy,hm⟩
  rw[ah.jf] at hy
  by_cases ho:o=h.next
  ·subst ho;rw[Mu.cB] at hm;injection hm with hm;injection hm with hm _;omega
  simp[ho] at hy
  rw[Mu.jN _ ho] at hm
  exact⟨o,y,a,C',hl,hy,hm⟩
 rw[ah.jf]
 have:=r.bO
 have:o≠h.next:=by omega
 simp[this]
theorem R6 {U:Mu}{lo:Nat}{h:ah}{w:World}(r:Rel U lo h w)(arr:Array Value)(ty:TypeId)(s C:Nat)(cs:List Value)
  (hc:∀(i:Nat) v,cs[i]?=some v→∃v',arr[i]?=some v'∧ak U v v') (hs:0<s→cs.length≤C*s∧C*s≤arr.size) :
  ∃aS,aS h.next=some (w.heap.size,0,C)∧Rel aS lo (h.alloc (.cells s cs)) (w.alloc (.cells arr ty))∧Frame lo U h w aS (h.alloc (.cells s cs)) (w.alloc (.cells arr ty)):=by
 refine⟨U.put h.next (w.heap.size,0,C),Mu.cB _ _ _,MO r _ C _ ?_ (fun off=>by simp)⟩
 refine⟨by simp,fun i v hv=>?_,fun h0=>⟨(hs h0).1,fun i hi=>?_⟩⟩
 ·obtain⟨v',h1,h2⟩:=hc i v hv
  exact⟨v',by simpa using h1,h2.mono (r.C6 _)⟩
 have dD:i<arr.size:=Nat.lt_of_lt_of_le hi (hs h0).2
 exact⟨arr[i],by simp[dD]⟩
theorem Zu {U:Mu}{lo:Nat}{h:ah}{w:World}(r:Rel U lo h w) :
  ∃aS,aS h.next=some (w.heap.size,0,0)∧Rel aS lo (h.alloc (.map [])) (w.alloc (.map #[] 0))∧Frame lo U h w aS (h.alloc (.map [])) (w.alloc (.map #[] 0)):=by
 refine⟨U.put h.next (w.heap.size,0,0),Mu.cB _ _ _,MO r _ 0 _ ?_ (fun off=>?_)⟩
 ·refine⟨rfl,#[],0,by rw[heap_alloc];simp,⟨[],.nil,by simp,rfl,fun i p e h=>by simp at h,by simp,fun e h=>by simp at h⟩⟩
 simp only[World.frozen?,heap_alloc];simp
theorem MP {U:Mu}{lo:Nat}{h:ah}{w w':World}(r:Rel U lo h w){o:Nat}{x:bc}(hx:h.get o=some x)(hl:lo≤o){b a C:Nat}(hm:U o=some (b,a,C))(y:bc)
  (eJ:w'.heap.size=w.heap.size) (hk:∀b',b'≠b→w'.heap[b']?=w.heap[b']?) (hy:gd U w' b a C y) (uG:∀off,w'.frozen? ⟨b,off,none⟩=false) (wP:Calm w w') :
  Rel U lo (h.put o (some y)) w'∧Frame lo U h w U (h.put o (some y)) w':=by
 have aP:=ah.gx hx
 have eK:∀p z b' a' C',h.get p=some z→U p=some (b',a',C')→p≠o→b'≠b:=fun p z b' a' C' hz eI hp hb=>by
  subst hb;exact hp (r.inj o p x z b' a C a' C' hl hx hz hm eI).symm
 constructor
 ·constructor
  ·intro p z hz
   rw[ah.dJ _ _ _ _ aP] at hz
   by_cases hp:p=o
   ·subst hp;simp at hz;subst hz;exact⟨b,a,C,hm,hy⟩
   simp[hp] at hz
   obtain⟨b',a',C',h1,h2⟩:=r.bq p z hz
   exact⟨b',a',C',h1,h2.kept (hk b' (eK p z b' a' C' hz h1 hp))⟩
  ·intro p p' z z' b' a' C' zi qV wQ hz kG cj ig
   rw[ah.dJ _ _ _ _ aP] at hz kG
   by_cases hp:p=o
   ·by_cases ua:p'=o
    ·rw[hp,ua]
    simp[ua] at kG;subst hp
    exact r.inj p p' x z' b' a' C' zi qV wQ hx kG cj ig
   simp[hp] at hz
   by_cases ua:p'=o
   ·subst ua;exact r.inj p p' z x b' a' C' zi qV wQ hz hx cj ig
   simp[ua] at kG
   exact r.inj p p' z z' b' a' C' zi qV wQ hz kG cj ig
  ·exact fun p z hz=>r.pF p z hz
  ·intro p z b' a' C' qw hz eI off
   rw[ah.dJ _ _ _ _ aP] at hz
   by_cases hp:p=o
   ·subst hp;rw[hm] at eI;injection eI with eI;injection eI with eI _;subst eI;exact uG off
   simp[hp] at hz
   rw[Ak (hk b' (eK p z b' a' C' hz eI hp))]
   exact r.eY p z b' a' C' qw hz eI off
  ·exact r.bO
  refine r.kq.step (by omega) (fun b' _ hn=>hk b' (fun hb=>hn (hb▸⟨o,x,a,C,hl,hx,hm⟩))) fun p z b' a' C' qw hz eI _=>?_
  rw[ah.dJ _ _ _ _ aP] at hz
  by_cases hp:p=o
  ·subst hp;exact⟨p,x,a',C',qw,hx,eI⟩
  simp[hp] at hz;exact⟨p,z,a',C',qw,hz,eI⟩
 refine⟨Mu.le_refl U,by omega,by simp,fun b' _ hn=>hk b' (fun hb=>hn (hb▸⟨o,x,a,C,hl,hx,hm⟩)),fun b' _=>?_,fun p hp=>?_,fun _ _=>rfl,fun p hp hn=>by rw[ah.dJ _ _ _ _ aP,if_neg (by intro h;subst h;rw[hx] at hn;cases hn)];exact hn,wP⟩
 ·rintro⟨p,z,a',C',qw,hz,eI⟩
  rw[ah.dJ _ _ _ _ aP] at hz
  by_cases hp:p=o
  ·subst hp;exact⟨p,x,a',C',qw,hx,eI⟩
  simp[hp] at hz;exact⟨p,z,a',C',qw,hz,eI⟩
 rw[ah.dJ _ _ _ _ aP]
 have:p≠o:=by omega
 simp[this]
theorem heap_setCell_other (w:World)(a:Addr)(v:Value){b:Nat}(hb:b≠a.block):(w.setCell a v).heap[b]?=w.heap[b]?:=by
 have:a.block≠b:=fun h=>hb h.symm
 simp[World.setCell,Array.getElem?_modify,this]
theorem MQ (b:Nat):∀(vs:List Value) (o:Nat) (w:World) {b':Nat},b'≠b→(w.setCells b o vs).heap[b']?=w.heap[b']?
 |[],_,_,_,_=>rfl
 |v::r,o,w,b',hb=>by
  show ((w.setCell ⟨b,o,none⟩ v).setCells b (o+1) r).heap[b']?=_
  rw[MQ b r (o+1) _ hb,heap_setCell_other _ _ _ hb]
theorem GP (b:Nat):∀(vs:List Value) (o:Nat) (w:World),(w.setCells b o vs).heap.size=w.heap.size
 |[],_,_=>rfl
 |v::r,o,w=>by
  show ((w.setCell ⟨b,o,none⟩ v).setCells b (o+1) r).heap.size=_
  rw[GP b r (o+1) _];simp
def fT (cs:List Value)(off:Nat)(vs:List Value):List Value:=cs.take off++vs++cs.drop (off+vs.length)
theorem MR (cs:List Value)(off:Nat)(vs:List Value)(h:off+vs.length≤cs.length):(fT cs off vs).length=cs.length:=by
 simp[fT];omega
theorem Ke (cs:List Value)(off:Nat)(vs:List Value)(h:off+vs.length≤cs.length)(i:Nat) :
  (fT cs off vs)[i]?=if off≤i∧i<off+vs.length then vs[i - off]? else cs[i]?:=by
 unfold fT
 by_cases h1:i<off
 ·have:¬(off≤i∧i<off+vs.length):=by omega
  simp only[this,if_false]
  rw[List.append_assoc,List.getElem?_append_left (by simp;omega),List.getElem?_take];simp[h1]
 by_cases h2:i<off+vs.length
 ·have:off≤i∧i<off+vs.length:=by omega
  simp only[this,and_self,if_true]
  rw[List.append_assoc,List.getElem?_append_right (by simp;omega),List.getElem?_append_left (by simp;omega)]
  congr 1
  simp;omega
 have:¬(off≤i∧i<off+vs.length):=by omega
 simp only[this,if_false]
 rw[List.getElem?_append_right (by simp;omega),List.getElem?_drop]
 congr 1
 simp;omega
theorem MS (b:Nat):∀(vs:List Value) (o:Nat) (w:World),Calm w (w.setCells b o vs)
 |[],_,w=>.refl w
 |v::r,o,w=>Calm.trans (by unfold World.setCell;split<;>exact⟨rfl,rfl,rfl,fun _=>Nat.le_refl _⟩:Calm w (w.setCell ⟨b,o,none⟩ v)) (MS b r (o+1) _)
theorem Fj {U:Mu}{lo:Nat}{h:ah}{w:World}(r:Rel U lo h w){o s:Nat}{cs:List Value}(hx:h.get o=some (.cells s cs))(hl:lo≤o){b a C:Nat}(hm:U o=some (b,a,C))
  (off:Nat) (vs lP:List Value) (hv:bA U vs lP) (hlen:off+vs.length≤cs.length) :
  Rel U lo (h.put o (some (.cells s (fT cs off vs)))) (w.setCells b (a+off) lP)∧Frame lo U h w U (h.put o (some (.cells s (fT cs off vs)))) (w.setCells b (a+off) lP):=by
 obtain⟨b',a',C',h1,h2⟩:=r.bq o _ hx
 rw[hm] at h1;injection h1 with h1;injection h1 with h1 pG;injection pG with pG C7;subst h1 pG C7
 obtain⟨hb,qX,uc⟩:=h2
 have kU:∀j,j<lP.length→(w.cell? ⟨b,a+off+j,none⟩).isSome=true:=fun j hj=>by
  have mn:off+j<cs.length:=by have:=hv.1;omega
  obtain⟨v',h3,_⟩:=qX (off+j) cs[off+j] (by simp[mn])
  rw[show a+off+j=a+(off+j) by omega,h3];rfl
 refine MP r hx hl hm _ (GP _ _ _ _) (fun b' qY=>MQ _ _ _ _ qY) ?_ (fun nQ=>by rw[World.frozen?_setCells];exact r.eY o _ b a C hl hx hm nQ) (MS _ _ _ _)
 refine⟨by rw[GP];exact hb,fun i v hi=>?_,fun h0=>?_⟩
 ·rw[Ke _ _ _ hlen] at hi
  by_cases dx:off≤i∧i<off+vs.length
  ·simp only[dx,and_self,if_true] at hi
   obtain⟨v',h3,h4⟩:=hv.2 _ v hi
   have hj:i - off<lP.length:=by have:=hv.1;omega
   refine⟨v',?_,h4⟩
   have:=World.cell?_setCells_in b lP (a+off) w kU (i - off) hj
   rw[show a+off+(i - off)=a+i by omega] at this
   rw[this]
   rw[List.getElem?_eq_getElem hj] at h3
   exact h3
  simp only[dx,if_false] at hi
  obtain⟨v',h3,h4⟩:=qX i v hi
  refine⟨v',?_,h4⟩
  rw[World.cell?_setCells_out b lP (a+off) w _ (fun _ _=>by have:=hv.1;simp;omega)]
  exact h3
 rw[MR _ _ _ hlen]
 refine⟨(uc h0).1,fun i hi=>?_⟩
 obtain⟨v',h3⟩:=(uc h0).2 i hi
 by_cases dx:off≤i∧i<off+lP.length
 ·have hj:i - off<lP.length:=by omega
  have:=World.cell?_setCells_in b lP (a+off) w kU (i - off) hj
  rw[show a+off+(i - off)=a+i by omega] at this
  exact⟨_,this⟩
 refine⟨v',?_⟩
 rw[World.cell?_setCells_out b lP (a+off) w _ (fun _ _=>by simp;omega)]
 exact h3
abbrev aL:=List Value
def vI:Value→Bool
 |.bool _|.int _ _|.string _|.nilFunc|.nilIface|.pointer none|.map none=>true
 |.slice none 0 0=>true
 |_=>false
def lQ:Value→Bool
 |.agg cs=>cs.toList.all vI
 |.tuple cs=>cs.toList.all vI
 |v=>vI v
theorem ak.R7 {U:Mu}{v:Value}(h:vI v=true):ak U v v:=by
 unfold vI at h
 split at h<;>first|exact .bool _|exact .int _ _|exact .string _|exact .nilFunc|exact .nilIface|exact .mH|exact .mI|exact .dY|cases h
theorem bA.R8 {U:Mu}{l:List Value}(h:l.all vI=true):bA U l l:=
 ⟨rfl,fun i v hv=>⟨v,hv,.R7 (by rw[List.all_eq_true] at h;exact h v (List.mem_of_getElem? hv))⟩⟩
theorem ak.Al {U:Mu}{v:Value}(h:lQ v=true):ak U v v:=by
 unfold lQ at h
 split at h
 ·have:=ak.lO (bA.R8 (U:=U) h);simpa using this
 ·have:=ak.sW (bA.R8 (U:=U) h);simpa using this
 exact .R7 h
def cX (ts:aL):Operand→Option Value
 |.tmp t=>some (ts.getD t Go.undef)
 |.const v=>bif lQ v then some v else none
 |.func f=>some (.func (.func f) #[] #[])
 |.global _=>none
def dA (U:Mu)(ts:aL)(tmps:Array Value):Prop:=bA U ts tmps.toList
theorem dA.mono {U ν:Mu}(hle:U.le ν){ts:aL}{tmps:Array Value}(h:dA U ts tmps):dA ν ts tmps:=bA.mono hle h
theorem dA.getD {U:Mu}{ts:aL}{tmps:Array Value}(h:dA U ts tmps)(t:Nat):ak U (ts.getD t Go.undef) (tmps.getD t Go.undef):=by
 by_cases ht:t<ts.length
 ·obtain⟨v',h1,h2⟩:=h.2 t ts[t] (by simp[ht])
  have:t<tmps.size:=by have:=h.1;simp at this;omega
  simp[this] at h1
  simp[List.getD,ht,Array.getD,this,h1,h2]
 have:¬t<tmps.size:=by have:=h.1;simp at this;omega
 simp[List.getD,ht,Array.getD,this]
 exact .undef
theorem gf {U:Mu}{ts:aL}{a:Act}(h:dA U ts a.tmps){x:Operand}{v:Value}(hv:cX ts x=some v):ak U v (a.eval x):=by
 cases x with
 |tmp t=>simp only[cX,ax] at hv;subst hv;exact h.getD t
 |const u=>
  simp only[cX] at hv
  cases hs:lQ u with
  |true=>simp[hs] at hv;subst hv;exact .Al hs
  |false=>simp[hs] at hv
 |func f=>simp only[cX,ax] at hv;subst hv;exact .func f #[] #[] #[] #[] rfl rfl (fun i h=>by simp at h) (fun i h=>by simp at h)
 |global g=>simp[cX] at hv
def da (P:Program)(t:TypeId):Option Nat:=(P.info? t).map (·.size)
def qZ (P:Program)(t:TypeId):Option (List Value):=
 match (P.info? t).bind (·.zero) with
 |some v=>bif lQ v then some v.cells.toList else none
 |none=>none
def bD (P:Program)(t:TypeId):Option Bool:=
 match P.underlying t with
 |some (.struct _)|some (.array _ _)=>some true
 |some _=>some false
 |none=>none
theorem nR {P:Program}{t:TypeId}{n:Nat}(h:da P t=some n)(w:World):(sizeOf t).run P w=.ok n w:=by
 unfold da at h
 cases hi:P.info? t with
 |none=>simp[hi] at h
 |some i=>simp[hi] at h;subst h;simp[sizeOf,typeInfo,hi]
theorem An {P:Program}{t:TypeId}{z:List Value}(h:qZ P t=some z)(w:World):∃v,(zeroValue t).run P w=.ok v w∧v.cells.toList=z∧lQ v=true:=by
 unfold qZ at h
 cases hi:P.info? t with
 |none=>simp[hi] at h
 |some i=>
  simp only[hi,Option.bind_some] at h
  cases hz:i.zero with
  |none=>simp[hz] at h
  |some v=>
   simp only[hz] at h
   cases hs:lQ v with
   |false=>simp[hs] at h
   |true=>simp[hs] at h;exact⟨v,by simp[zeroValue,typeInfo,hi,hz],h,hs⟩
theorem Fk {P:Program}{t:TypeId}{b:Bool}(h:bD P t=some b)(w:World):(isAgg t).run P w=.ok b w:=by
 unfold bD at h
 split at h
 ·rename_i hu;simp at h;subst h;simp[isAgg,run_underlying hu]
 ·rename_i hu;simp at h;subst h;simp[isAgg,run_underlying hu]
 ·rename_i d h1 h2 hu
  simp at h;subst h
  cases d<;>simp_all[isAgg,run_underlying hu]
 simp at h
theorem C8 {U:Mu}{v:Value}(h:lQ v=true):bA U v.cells.toList v.cells.toList:=(ak.Al h).cells
def eB (P:Program)(lo:Nat)(s:Sem Value)(U:Mu)(h:ah)(w:World)(v:Value)(h':ah):Prop:=
 ∃v' w' aS,s.run P w=.ok v' w'∧ak aS v v'∧Rel aS lo h' w'∧Frame lo U h w aS h' w'
theorem eB.same {P:Program}{lo:Nat}{s:Sem Value}{U:Mu}{h:ah}{w:World}{v v':Value}(r:Rel U lo h w)(hr:s.run P w=.ok v' w)(hv:ak U v v'):eB P lo s U h w v h:=
 ⟨v',w,U,hr,hv,r,Frame.refl _ _ _ _⟩
theorem MT {P:Program}{lo:Nat}{U:Mu}{h:ah}{w:World}(r:Rel U lo h w)(t:TypeId)(arr:Array Value)(cs:List Value)(hc:bA U cs arr.toList) :
  ∃aS,(newRow t arr).run P w=.ok ⟨w.heap.size,0,none⟩ (w.alloc (.cells arr t))∧aS h.next=some (w.heap.size,0,0)∧Rel aS lo (h.alloc (.cells 0 cs)) (w.alloc (.cells arr t))∧
   Frame lo U h w aS (h.alloc (.cells 0 cs)) (w.alloc (.cells arr t)):=by
 obtain⟨aS,h1,h2,h3⟩:=R6 r arr t 0 0 cs (fun i v hv=>by obtain⟨v',h1,h2⟩:=hc.2 i v hv;exact⟨v',by simpa using h1,h2⟩) (fun h=>by omega)
 exact⟨aS,rfl,h1,h2,h3⟩
theorem R9 {P:Program}{lo:Nat}{U:Mu}{h:ah}{w:World}(r:Rel U lo h w)(t:TypeId)(v v':Value)(hv:ak U v v') :
  eB P lo (do pure (.pointer (some (← newVar t v')))) U h w (.pointer (some ⟨h.next,0,none⟩)) (h.alloc (.cells 0 v.cells.toList)):=by
 obtain⟨aS,h1,h2,h3,h4⟩:=MT (P:=P) r t v'.cells v.cells.toList hv.cells
 exact⟨_,_,aS,by simp[newVar,h1],.ptr _ 0 _ 0 0 h2,h3,h4⟩
def Fl (P:Program)(h:ah)(t:TypeId):Option (Value×ah):=
 match qZ P t with
 |some z=>some (.pointer (some ⟨h.next,0,none⟩),h.alloc (.cells 0 z))
 |none=>none
theorem Zv {P:Program}{lo:Nat}{U:Mu}{h:ah}{w:World}(r:Rel U lo h w){t:TypeId}{v:Value}{h':ah}(ha:Fl P h t=some (v,h')) :
  eB P lo (Instr.alloc t true (.tuple #[])) U h w v h':=by
 unfold Fl at ha
 cases hz:qZ P t with
 |none=>simp[hz] at ha
 |some z=>
  simp only[hz,ax,bG] at ha
  obtain⟨rfl,rfl⟩:=ha
  obtain⟨zv,h1,h2,h3⟩:=An hz w
  obtain⟨v',w',aS,h4,h5⟩:=R9 (P:=P) r t zv zv (.Al h3)
  rw[h2] at h5
  exact⟨v',w',aS,by simpa[Instr.alloc,h1] using h4,h5⟩
def uH (h:ah)(v:Value):Value×ah:=(.pointer (some ⟨h.next,0,none⟩),h.alloc (.cells 0 v.cells.toList))
theorem Zw {P:Program}{lo:Nat}{U:Mu}{h:ah}{w:World}(r:Rel U lo h w)(t:TypeId){v v':Value}(hv:ak U v v') :
 eB P lo (Instr.box t v') U h w (uH h v).1 (uH h v).2:=R9 r t v v' hv
def uI (P:Program)(h:ah)(t:TypeId)(p:Value):Option Value:=
 match p with
 |.pointer (some ⟨o,off,none⟩)=>
  match h.get o with
  |some (.cells _ cs)=>
   match bD P t with
   |some true=>
    match da P t with
    |some n=>bif Nat.ble (off+n) cs.length then some (.agg ((cs.drop off).take n).toArray) else none
    |none=>none
   |some false=>cs[off]?
   |none=>none
  |_=>none
 |_=>none
theorem oP {U:Mu}{lo:Nat}{h:ah}{w:World}(r:Rel U lo h w){o b a C:Nat}{x:bc}(hx:h.get o=some x)(hm:U o=some (b,a,C)):gd U w b a C x:=by
 obtain⟨b',a',C',h1,h2⟩:=r.bq o x hx
 rw[hm] at h1;injection h1 with h1;injection h1 with h1 pG;injection pG with pG C7;subst h1 pG C7
 exact h2
theorem uJ (b a n:Nat):(⟨b,a,none⟩:Addr).add n=⟨b,a+n,none⟩:=by unfold Addr.add;split<;>simp_all
theorem Kf {U:Mu}{w:World}{b a C s:Nat}{cs:List Value}(ho:gd U w b a C (.cells s cs))(off n:Nat)(hn:off+n≤cs.length) :
  ∃ar:List Value,bA U ((cs.drop off).take n) ar∧ar.length=n∧∀j v,ar[j]?=some v→w.cell? ((⟨b,a+off,none⟩:Addr).add j)=some v:=by
 obtain⟨_,qX,_⟩:=ho
 have hex:∀i,i<cs.length→∃v',w.cell? ⟨b,a+i,none⟩=some v'∧∀v,cs[i]?=some v→ak U v v':=fun i hi=>by
  obtain⟨v',h1,h2⟩:=qX i cs[i] (by simp[hi])
  exact⟨v',h1,fun v hv=>by simp[hi] at hv;subst hv;exact h2⟩
 refine⟨(List.range n).map fun j=>(w.cell? ⟨b,a+off+j,none⟩).getD Go.undef,⟨by simp;omega,fun i v hv=>?_⟩,by simp,fun j v hj=>?_⟩
 ·have hi:i<n:=by
   rcases Nat.lt_or_ge i n with h|h
   ·exact h
   rw[List.getElem?_eq_none (by simp;omega)] at hv;simp at hv
  obtain⟨v',h1,h2⟩:=hex (off+i) (by omega)
  refine⟨v',by simp[hi,show a+off+i=a+(off+i) by omega,h1],h2 v ?_⟩
  rw[List.getElem?_take,if_pos hi,List.getElem?_drop] at hv
  exact hv
 have hi:j<n:=by
  rcases Nat.lt_or_ge j n with h|h
  ·exact h
  rw[List.getElem?_eq_none (by simp;omega)] at hj;simp at hj
 obtain⟨v',h1,h2⟩:=hex (off+j) (by omega)
 simp[hi] at hj
 rw[uJ,← hj,show a+off+j=a+(off+j) by omega,h1]
 rfl
theorem MU {P:Program}{lo:Nat}{U:Mu}{h:ah}{w:World}(r:Rel U lo h w){t:TypeId}{p p' v:Value}(hp:ak U p p')(ha:uI P h t p=some v) :
  eB P lo (Instr.loadAt t p') U h w v h:=by
 unfold uI at ha
 split at ha
 ·rename_i o off
  cases hp with
  |ptr _ _ b a C hm=>
   split at ha
   ·rename_i s cs hx
    have ho:=oP r hx hm
    split at ha
    ·rename_i hg
     split at ha
     ·rename_i n hn
      cases hle:Nat.ble (off+n) cs.length with
      |false=>simp[hle] at ha
      |true=>
       simp only[hle,aO,ax] at ha;subst ha
       obtain⟨ar,h1,h2,h3⟩:=Kf ho off n (by simpa using hle)
       refine .same r (v':=.agg ar.toArray) ?_ (.lO h1)
       have hl:=run_loadCells_list (P:=P) w _ ar h3
       rw[h2] at hl
       simp[Instr.loadAt,Instr.sureAddr,loadVar,Fk hg,nR hn,hl]
     simp at ha
    ·rename_i hg
     obtain⟨v',h1,h2⟩:=ho.2.1 off v ha
     exact .same r (v':=v') (by simp[Instr.loadAt,Instr.sureAddr,loadVar,Fk hg,h1]) h2
    simp at ha
   simp at ha
 simp at ha
def B2 (P:Program)(lo:Nat)(h:ah)(t:TypeId)(p v:Value):Option ah:=
 match p with
 |.pointer (some ⟨o,off,none⟩)=>
  match h.get o,da P t with
  |some (.cells s cs),some n=>
   bif Nat.ble lo o&&Nat.beq v.cells.toList.length n&&v.cells.toList.all (·.oneCell')&&Nat.ble (off+n) cs.length then
    some (h.put o (some (.cells s (fT cs off v.cells.toList)))) else none
  |_,_=>none
 |_=>none
theorem Sa {U:Mu}{l l':List Value}(h:bA U l l')(ha:l.all (·.oneCell')=true):∀v∈l',v.oneCell'=true:=by
 intro v hv
 obtain⟨i,hi⟩:=List.getElem?_of_mem hv
 have aP:i<l.length:=by
  have:=h.1
  rcases Nat.lt_or_ge i l.length with h'|h'
  ·exact h'
  rw[List.getElem?_eq_none (by omega)] at hi;simp at hi
 obtain⟨v',h1,h2⟩:=h.2 i l[i] (by simp[aP])
 rw[hi] at h1;injection h1 with h1;subst h1
 rw[h2.Zt]
 rw[List.all_eq_true] at ha
 exact ha _ (List.getElem_mem aP)
theorem Kg {P:Program}{lo:Nat}{U:Mu}{h:ah}{w:World}(r:Rel U lo h w){o s:Nat}{cs:List Value}(hx:h.get o=some (.cells s cs))(hl:lo≤o){b a C:Nat}(hm:U o=some (b,a,C))
  (off:Nat) (vs lP:List Value) (hv:bA U vs lP) (Ao:vs.all (·.oneCell')=true) (hlen:off+vs.length≤cs.length) :
  (storeCells ⟨b,a+off,none⟩ lP).run P w=.ok () (w.setCells b (a+off) lP):=by
 have ho:=oP r hx hm
 have:=run_storeCells_cells (P:=P) b (a+off) lP 0 w (fun j hj=>by
   have mn:off+j<cs.length:=by have:=hv.1;omega
   obtain⟨v',h3,_⟩:=ho.2.1 (off+j) cs[off+j] (by simp[mn])
   rw[show a+off+0+j=a+(off+j) by omega,h3];rfl)
  (fun j hj=>r.eY o _ b a C hl hx hm _) (Sa hv Ao)
 simpa using this
theorem Zx {P:Program}{lo:Nat}{U:Mu}{h:ah}{w:World}(r:Rel U lo h w){t:TypeId}{p p' v v':Value}{h':ah}(hp:ak U p p')(hv:ak U v v')(ha:B2 P lo h t p v=some h') :
  ∃w',(Instr.storeAt t p' v').run P w=.ok () w'∧Rel U lo h' w'∧Frame lo U h w U h' w':=by
 unfold B2 at ha
 split at ha
 ·rename_i o off
  cases hp with
  |ptr _ _ b a C hm=>
   split at ha
   ·rename_i s cs n hx hn
    cases hc:(Nat.ble lo o&&Nat.beq v.cells.toList.length n&&v.cells.toList.all (·.oneCell')&&Nat.ble (off+n) cs.length) with
    |false=>rw[hc] at ha;simp at ha
    |true=>
     rw[hc] at ha
     simp only[aO,ax] at ha;subst ha
     simp only[bS] at hc
     obtain⟨⟨⟨h1,h2⟩,h3⟩,h4⟩:=hc
     have h1:lo≤o:=by simpa using h1
     have h2:v.cells.toList.length=n:=by simpa using h2
     have h4:off+n≤cs.length:=by simpa using h4
     obtain⟨h5,h6⟩:=Fj r hx h1 hm off v.cells.toList v'.cells.toList hv.cells (by omega)
     refine⟨_,?_,h5,h6⟩
     have cN:=Kg (P:=P) r hx h1 hm off _ _ hv.cells h3 (by omega)
     have eJ:v'.cells.size=n:=by have:=hv.cells.1;simp at this h2;omega
     simp[Instr.storeAt,Instr.sureAddr,storeVar,nR hn,eJ,cN]
   simp at ha
 simp at ha
def dL (P:Program)(s:TypeId)(f:Nat):Option (TypeId×Nat×Nat):=
 match P.underlying s with
 |some (.struct fields)=>
  match fields.toList[f]? with
  |some fd=>match da P fd.type with
   |some n=>some (fd.type,fd.offset,n)
   |none=>none
  |none=>none
 |_=>none
theorem Sb {P:Program}{s:TypeId}{f:Nat}{ty:TypeId}{off n:Nat}(h:dL P s f=some (ty,off,n)) :
  ∃fields fd,P.underlying s=some (.struct fields)∧fields[f]?=some fd∧fd.type=ty∧fd.offset=off∧da P fd.type=some n:=by
 unfold dL at h
 split at h
 ·rename_i fields hu
  split at h
  ·rename_i fd hf
   split at h
   ·rename_i m hm
    simp only[ax,bG] at h
    obtain⟨h1,h2,h3⟩:=h
    exact⟨fields,fd,hu,by simpa using hf,h1,h2,by rw[hm,h3]⟩
   simp at h
  simp at h
 simp at h
def Fm (P:Program)(s:TypeId)(p:Value)(f:Nat):Option Value:=
 match p,dL P s f with
 |.pointer (some ⟨o,off,none⟩),some (_,fo,n)=>bif Nat.beq n 0 then none else some (.pointer (some ⟨o,off+fo,none⟩))
 |_,_=>none
theorem Zy {P:Program}{U:Mu}{w:World}{s:TypeId}{f:Nat}{p p' v:Value}(hp:ak U p p')(ha:Fm P s p f=some v) :
  ∃v',(Instr.fieldAt s p' f).run P w=.ok v' w∧ak U v v':=by
 unfold Fm at ha
 split at ha
 ·rename_i o off ty fo n hf
  obtain⟨fields,fd,h1,h2,h3,h4,h5⟩:=Sb hf
  cases hn:Nat.beq n 0 with
  |true=>simp[hn] at ha
  |false=>
   simp only[hn,bz,ax] at ha;subst ha
   cases hp with
   |ptr _ _ b a C hm=>
    have mo:n≠0:=by intro h;subst h;simp at hn
    refine⟨_,?_,.ptr o (off+fo) b a C hm⟩
    simp[Instr.fieldAt,run_underlying h1,h2,Instr.sureAddr,fieldPlace,nR h5,mo,uJ,h4,Nat.add_assoc]
 simp at ha
def gO (P:Program)(t:TypeId):Option (TypeId×Nat):=
 match P.underlying t with
 |some (.slice e)=>match da P e with
  |some n=>some (e,n)
  |none=>none
 |_=>none
theorem vJ {P:Program}{t e:TypeId}{n:Nat}(h:gO P t=some (e,n)):P.underlying t=some (.slice e)∧da P e=some n:=by
 unfold gO at h
 split at h
 ·rename_i e' hu
  split at h
  ·rename_i m hm
   simp only[ax,bG] at h
   obtain⟨rfl,rfl⟩:=h
   exact⟨hu,hm⟩
  simp at h
 simp at h
def jg (P:Program)(t:TypeId):Option (Nat×TypeId×Nat):=
 match P.underlying t with
 |some (.array len e)=>match da P e with
  |some n=>some (len,e,n)
  |none=>none
 |_=>none
theorem Sc {P:Program}{t e:TypeId}{len n:Nat}(h:jg P t=some (len,e,n)):P.underlying t=some (.array len e)∧da P e=some n:=by
 unfold jg at h
 split at h
 ·rename_i l' e' hu
  split at h
  ·rename_i m hm
   simp only[ax,bG] at h
   obtain⟨rfl,rfl,rfl⟩:=h
   exact⟨hu,hm⟩
  simp at h
 simp at h
def within (i:Int)(n:Nat):Option Nat:=
 match i with
 |.ofNat k=>bif Nat.blt k n then some k else none
 |.negSucc _=>none
theorem MV {i:Int}{n k:Nat}(h:within i n=some k):i=(k:Int)∧k<n:=by
 unfold within at h
 split at h
 ·rename_i j
  cases hj:Nat.blt j n with
  |false=>simp[hj] at h
  |true=>simp[hj] at h;subst h;rw[Nat.blt_eq] at hj;exact⟨rfl,hj⟩
 simp at h
def Ap (P:Program)(t:TypeId)(x i:Value):Option Value:=
 match x,i with
 |.slice (some ⟨o,off,none⟩) len _,.int _ n=>
  match gO P t,within n len with
  |some (_,sz),some k=>some (.pointer (some ⟨o,off+k*sz,none⟩))
  |_,_=>none
 |.pointer (some ⟨o,off,none⟩),.int _ n=>
  match jg P t with
  |some (len,_,sz)=>
   match within n len with
   |some k=>some (.pointer (some ⟨o,off+k*sz,none⟩))
   |none=>none
  |none=>none
 |_,_=>none
theorem Zz {P:Program}{U:Mu}{w:World}{t:TypeId}{x x' i i' v:Value}(hx:ak U x x')(hi:ak U i i')(ha:Ap P t x i=some v) :
  ∃v',(Instr.indexAt t x' i').run P w=.ok v' w∧ak U v v':=by
 unfold Ap at ha
 split at ha
 ·rename_i o off len k kd n
  cases hi with
  |int=>
  split at ha
  ·rename_i e sz kk h1 h2
   obtain⟨h3,h4⟩:=vJ h1
   obtain⟨rfl,h6⟩:=MV h2
   simp only[ax] at ha;subst ha
   cases hx with
   |slice _ _ _ _ b a C hm hl hk=>
    refine⟨_,?_,.ptr o (off+kk*sz) b a C hm⟩
    simp[Instr.indexAt,asIntOf,run_underlying h3,nR h4,uJ,h6,Nat.add_assoc]
   |bX=>omega
   |cp=>omega
  simp at ha
 ·rename_i o off kd n
  cases hi with
  |int=>
  split at ha
  ·rename_i len e sz h1
   obtain⟨h3,h4⟩:=Sc h1
   split at ha
   ·rename_i kk h2
    obtain⟨rfl,h6⟩:=MV h2
    simp only[ax] at ha;subst ha
    cases hx with
    |ptr _ _ b a C hm=>
     refine⟨_,?_,.ptr o (off+kk*sz) b a C hm⟩
     simp[Instr.indexAt,asIntOf,run_underlying h3,Instr.sureAddr,nR h4,uJ,h6,Nat.add_assoc]
   simp at ha
  simp at ha
 simp at ha
def apart (P:Program)(t:TypeId)(cs:List Value)(off n:Nat):Option Value:=
 match bD P t with
 |some true=>bif Nat.ble (off+n) cs.length then some (.agg ((cs.drop off).take n).toArray) else none
 |some false=>cs[off]?
 |none=>none
theorem GQ {P:Program}{U:Mu}{w:World}{t:TypeId}{cs ar:Array Value}{off n:Nat}{v:Value}(hc:bA U cs.toList ar.toList)(hn:da P t=some n)(ha:apart P t cs.toList off n=some v) :
  ∃v',(part t ar off).run P w=.ok v' w∧ak U v v':=by
 unfold apart at ha
 split at ha
 ·rename_i hg
  cases hle:Nat.ble (off+n) cs.toList.length with
  |false=>rw[hle] at ha;simp at ha
  |true=>
   rw[hle] at ha
   simp only[aO,ax] at ha;subst ha
   refine⟨_,?_,.lO ((hc.drop off).take n)⟩
   have he:ar.extract off (off+n)=((ar.toList.drop off).take n).toArray:=by
    apply Array.ext'
    simp[List.extract_eq_take_drop]
   simp[part,Fk hg,nR hn,he]
 ·rename_i hg
  obtain⟨v',h1,h2⟩:=hc.2 off v ha
  have pG:ar[off]?=some v':=by simpa using h1
  exact⟨v',by simp[part,Fk hg,pG],h2⟩
 simp at ha
def GR (P:Program)(t:TypeId)(x:Value)(f:Nat):Option Value:=
 match x,dL P t f with
 |.agg cs,some (ty,off,n)=>apart P ty cs.toList off n
 |_,_=>none
theorem ZA {P:Program}{U:Mu}{w:World}{t:TypeId}{f:Nat}{x x' v:Value}(hx:ak U x x')(ha:GR P t x f=some v) :
  ∃v',(Instr.field t x' f).run P w=.ok v' w∧ak U v v':=by
 unfold GR at ha
 split at ha
 ·rename_i cs ty off n hf
  obtain⟨fields,fd,h1,h2,h3,h4,h5⟩:=Sb hf
  obtain⟨ar,rfl,hc⟩:=hx.Fi
  obtain⟨v',h6,h7⟩:=GQ (w:=w) hc (h3▸h5) ha
  exact⟨v',by simp[Instr.field,run_underlying h1,h2,asAgg,h3,h4,h6],h7⟩
 simp at ha
def C9 (P:Program)(t:TypeId)(x i:Value):Option Value:=
 match x,i with
 |.agg cs,.int _ n=>
  match jg P t with
  |some (len,e,sz)=>
   match within n len with
   |some k=>apart P e cs.toList (k*sz) sz
   |none=>none
  |none=>none
 |.string s,.int _ n=>
  match P.underlying t,n with
  |some .string,.ofNat k=>match s.data.toList[k]? with
   |some b=>some (.int .u8 b.toNat)
   |none=>none
  |_,_=>none
 |_,_=>none
theorem ZB {P:Program}{U:Mu}{w:World}{t:TypeId}{x x' i i' v:Value}(hx:ak U x x')(hi:ak U i i')(ha:C9 P t x i=some v) :
  ∃v',(Instr.index t x' i').run P w=.ok v' w∧ak U v v':=by
 unfold C9 at ha
 split at ha
 ·rename_i cs kd n
  cases hi with
  |int=>
  split at ha
  ·rename_i len e sz h1
   obtain⟨h3,h4⟩:=Sc h1
   split at ha
   ·rename_i kk h2
    obtain⟨rfl,h6⟩:=MV h2
    obtain⟨ar,rfl,hc⟩:=hx.Fi
    obtain⟨v',h7,h8⟩:=GQ (w:=w) hc h4 ha
    exact⟨v',by simp[Instr.index,asIntOf,run_underlying h3,nR h4,h6,h7],h8⟩
   simp at ha
  simp at ha
 ·rename_i s kd n
  cases hi with
  |int=>
  cases hx with
  |string=>
  split at ha
  ·rename_i k hu
   split at ha
   ·rename_i b hb
    simp only[ax] at ha;subst ha
    have h1:s[k]?=some b:=by
     have aP:k<s.data.toList.length:=by
      rcases Nat.lt_or_ge k s.data.toList.length with h|h
      ·exact h
      rw[List.getElem?_eq_none h] at hb;cases hb
     have uK:k<s.size:=by rw[ByteArray.size,← Array.length_toList];exact aP
     rw[getElem?_pos s k uK]
     rw[List.getElem?_eq_getElem aP] at hb
     injection hb with hb
     rw[← hb]
     rfl
    refine⟨.int .u8 b.toNat,?_,.int .u8 b.toNat⟩
    have h0:(0:Int)≤Int.ofNat k:=Int.natCast_nonneg k
    have h2:(Int.ofNat k).toNat=k:=rfl
    simp only[Instr.index,asIntOf,Sem.run_bind,Sem.run_pure,Result.andThen_ok,run_underlying hu,h0,if_true,h2,h1]
   simp at ha
  simp at ha
 simp at ha
def GS (x:Value)(i:Nat):Option Value:=
 match x with
 |.tuple vs=>vs.toList[i]?
 |_=>none
theorem ZC {P:Program}{U:Mu}{w:World}{i:Nat}{x x' v:Value}(hx:ak U x x')(ha:GS x i=some v) :
  ∃v',(Instr.extract x' i).run P w=.ok v' w∧ak U v v':=by
 unfold GS at ha
 split at ha
 ·obtain⟨ar,rfl,hc⟩:=hx.R4
  obtain⟨v',h1,h2⟩:=hc.2 i v ha
  have pG:ar[i]?=some v':=by simpa using h1
  exact⟨v',by simp[Instr.extract,pG],h2⟩
 simp at ha
def vK (place:Nat→Option (Nat×Nat)):List Value→List (Nat×Value)→Option (List Value)
 |cells,[]=>some cells
 |cells,(i,v)::rest=>
  match place i with
  |none=>none
  |some (off,size)=>
   bif Nat.beq v.cells.toList.length size&&Nat.ble (off+v.cells.toList.length) cells.length then vK place (fT cells off v.cells.toList) rest else none
theorem ZD (vs:List Value):∀(k off:Nat) (arr:Array Value),off+k+vs.length≤arr.size→
  ((vs.zipIdx k).foldl (fun cs (x:Value×Nat)=>cs.setIfInBounds (off+x.2) x.1) arr).toList=fT arr.toList (off+k) vs:=by
 induction vs with
 |nil=>intro k off arr h;simp[fT]
 |cons v r ih=>
  intro k off arr h
  simp only[List.length_cons] at h
  simp only[List.zipIdx_cons,List.foldl_cons]
  rw[ih (k+1) off _ (by simp;omega)]
  apply List.ext_getElem?
  intro j
  rw[Ke _ _ _ (by simp;omega),Ke _ _ _ (by simp;omega)]
  simp only[Array.toList_setIfInBounds,List.length_cons]
  by_cases h1:j=off+k
  ·subst h1
   have e1:¬(off+(k+1)≤off+k∧off+k<off+(k+1)+r.length):=by omega
   have e2:off+k≤off+k∧off+k<off+k+(r.length+1):=by omega
   simp only[e1,e2,and_self,if_true,if_false]
   rw[List.getElem?_set_self (by simp;omega)]
   simp
  rw[List.getElem?_set_ne (by omega)]
  by_cases h2:off+(k+1)≤j∧j<off+(k+1)+r.length
  ·have e2:off+k≤j∧j<off+k+(r.length+1):=by omega
   simp only[h2,e2,and_self,if_true]
   rw[show j - (off+k)=(j - (off+(k+1)))+1 by omega,List.getElem?_cons_succ]
  have e2:¬(off+k≤j∧j<off+k+(r.length+1)):=by omega
  simp only[h2,e2,if_false]
def wR (U:Mu)(l l':List (Nat×Value)):Prop:=l.map (·.1)=l'.map (·.1)∧bA U (l.map (·.2)) (l'.map (·.2))
theorem ZE {U:Mu}{cs ar vs lP:List Value}{off:Nat}(hc:bA U cs ar)(hv:bA U vs lP):bA U (fT cs off vs) (fT ar off lP):=by
 unfold fT
 rw[← hv.1]
 exact((hc.take off).append hv).append (hc.drop _)
theorem Kh {U:Mu}(place:Nat→Option (Nat×Nat)):∀(l l':List (Nat×Value)) (cs:List Value) (arr:Array Value) (out:List Value),
  wR U l l'→bA U cs arr.toList→vK place cs l=some out→∃fF,Instr.fill place arr l'=some fF∧bA U out fF.toList:=by
 intro l
 induction l with
 |nil=>
  intro l' cs arr out hl hc ha
  have:l'=[]:=by have:=hl.1;simp at this;exact this
  subst this
  simp only[vK,ax] at ha;subst ha
  exact⟨arr,rfl,hc⟩
 |cons p rest ih=>
  intro l' cs arr out hl hc ha
  obtain⟨i,v⟩:=p
  cases l' with
  |nil=>have:=hl.1;simp at this
  |cons p' GU=>
   obtain⟨i',v'⟩:=p'
   have h1:=hl.1
   simp only[List.map_cons,List.cons.injEq] at h1
   obtain⟨rfl,h1⟩:=h1
   obtain⟨u,l2,hu,hv,h2⟩:=bA.dE (by simpa using hl.2)
   simp only[List.cons.injEq] at hu
   obtain⟨rfl,rfl⟩:=hu
   simp only[vK] at ha
   cases hp:place i with
   |none=>simp[hp] at ha
   |some q=>
    obtain⟨off,size⟩:=q
    simp only[hp] at ha
    cases wS:(Nat.beq v.cells.toList.length size&&Nat.ble (off+v.cells.toList.length) cs.length) with
    |false=>rw[wS] at ha;simp at ha
    |true=>
     rw[wS] at ha
     simp only[aO] at ha
     simp only[bS] at wS
     have e1:v.cells.toList.length=size:=by simpa using wS.1
     have e2:off+v.cells.toList.length≤cs.length:=by simpa using wS.2
     have wT:v'.cells.toList.length=v.cells.toList.length:=hv.cells.1.symm
     have eU:arr.toList.length=cs.length:=hc.1.symm
     have hz:(v'.cells.zipIdx.foldl (fun cs (x:Value×Nat)=>cs.setIfInBounds (off+x.2) x.1) arr).toList=fT arr.toList off v'.cells.toList:=by
      have:=ZD v'.cells.toList 0 off arr (by simp at wT eU e2 ⊢;omega)
      rw[← Array.foldl_toList,Array.toList_zipIdx]
      simpa using this
     have hs:v'.cells.size=size:=by simp at wT e1 ⊢;omega
     have gy:¬(off+v'.cells.size > arr.size):=by simp at eU e2 wT;omega
     obtain⟨fF,h3,h4⟩:=ih GU _ (v'.cells.zipIdx.foldl (fun cs (x:Value×Nat)=>cs.setIfInBounds (off+x.2) x.1) arr) out ⟨h1,h2⟩ (by rw[hz];exact ZE hc hv.cells) ha
     refine⟨fF,?_,h4⟩
     simp only[Instr.fill,hp]
     rw[if_neg (by simp[hs];omega)]
     exact h3
def Fo (P:Program):List Field→Option (List (Nat×Nat))
 |[]=>some []
 |f::fs=>match da P f.type,Fo P fs with
  |some n,some r=>some ((f.offset,n)::r)
  |_,_=>none
theorem run_places {P:Program}{w:World}:∀ {fs:List Field} {l:List (Nat×Nat)},Fo P fs=some l→
  (fs.mapM (fun f=>(sizeOf f.type >>= fun s=>pure (f.offset,s):Sem (Nat×Nat)))).run P w=.ok l w
 |[],l,h=>by simp only[Fo,ax] at h;subst h;simp only[List.mapM_nil,Sem.run_pure]
 |f::fs,l,h=>by
  simp only[Fo] at h
  split at h
  ·rename_i n r h1 h2
   simp only[ax] at h;subst h
   simp only[List.mapM_cons,Sem.run_bind,nR h1,Result.andThen_ok,Sem.run_pure,run_places h2]
  simp at h
def Fp (P:Program)(t:TypeId)(parts:List (Nat×Value)):Option Value:=
 match qZ P t,P.underlying t with
 |some z,some (.struct fields)=>
  match Fo P fields.toList with
  |some l=>(vK (l[·]?) z parts).map fun cs=>.agg cs.toArray
  |none=>none
 |some z,some (.array _ e)=>
  match da P e with
  |some n=>(vK (fun i=>some (i*n,n)) z parts).map fun cs=>.agg cs.toArray
  |none=>none
 |_,_=>none
theorem ZF {P:Program}{U:Mu}{w:World}{t:TypeId}{parts:List (Nat×Value)}{cq:Array (Nat×Value)}{v:Value}(hp:wR U parts cq.toList)(ha:Fp P t parts=some v) :
  ∃v',(Instr.build t cq).run P w=.ok v' w∧ak U v v':=by
 unfold Fp at ha
 split at ha
 ·rename_i z fields hz hu
  obtain⟨zv,h1,h2,h3⟩:=An hz w
  split at ha
  ·rename_i l hl
   cases hf:vK (l[·]?) z parts with
   |none=>rw[hf] at ha;simp at ha
   |some cs=>
    rw[hf] at ha;simp at ha;subst ha
    obtain⟨out,h4,h5⟩:=Kh (U:=U) (l[·]?) parts cq.toList z zv.cells cs hp (h2▸C8 h3) hf
    have jh:=run_places (w:=w) hl
    have sX:(fields.mapM (fun f=>(sizeOf f.type >>= fun s=>pure (f.offset,s):Sem (Nat×Nat)))).run P w=.ok l.toArray w:=by
     rw[Array.mapM_eq_mapM_toList,Sem.run_map,jh,Result.andThen_ok]
    refine⟨.agg out,?_,.agg _ _ ?_ ?_⟩
    ·have ZG:Instr.fill (fun i=>l.toArray[i]?) zv.cells cq.toList=some out:=by simpa using h4
     simp only[Instr.build,Sem.run_bind,h1,Result.andThen_ok,run_underlying hu,sX,ZG,Sem.run_pure]
    ·exact((sV (cs:=cs.toArray)).1 (by simpa using h5)).1
    exact((sV (cs:=cs.toArray)).1 (by simpa using h5)).2
  simp at ha
 ·rename_i z len e hz hu
  obtain⟨zv,h1,h2,h3⟩:=An hz w
  split at ha
  ·rename_i n hn
   cases hf:vK (fun i=>some (i*n,n)) z parts with
   |none=>rw[hf] at ha;simp at ha
   |some cs=>
    rw[hf] at ha;simp at ha;subst ha
    obtain⟨out,h4,h5⟩:=Kh (U:=U) (fun i=>some (i*n,n)) parts cq.toList z zv.cells cs hp (h2▸C8 h3) hf
    refine⟨.agg out,?_,.agg _ _ ?_ ?_⟩
    ·simp[Instr.build,h1,run_underlying hu,nR hn,h4]
    ·exact((sV (cs:=cs.toArray)).1 (by simpa using h5)).1
    exact((sV (cs:=cs.toArray)).1 (by simpa using h5)).2
  simp at ha
 simp at ha
def db (z:List Value):Nat→List Value
 |0=>[]
 |n+1=>z++db z n
theorem Ki (z:List Value):∀n,(db z n).length=n*z.length
 |0=>by simp[db]
 |n+1=>by simp[db,Ki z n,Nat.succ_mul];omega
theorem Sd (z:List Value):∀(n i:Nat),i<n*z.length→(db z n)[i]?=z[i % z.length]?
 |0,i,h=>by simp at h
 |n+1,i,h=>by
  have hz:0<z.length:=by
   rcases Nat.eq_zero_or_pos z.length with h0|h0
   ·rw[h0] at h;simp at h
   exact h0
  by_cases hi:i<z.length
  ·rw[db,List.getElem?_append_left hi,Nat.mod_eq_of_lt hi]
  rw[db,List.getElem?_append_right (by omega),Sd z n (i - z.length) (by rw[Nat.succ_mul] at h;omega)]
  rw[Nat.mod_eq_sub_mod (by omega:i≥z.length)]
theorem range_zero (z:Array Value)(n:Nat):((Array.range (n*z.size)).map fun i=>z[i % z.size]!).toList=db z.toList n:=by
 apply List.ext_getElem?
 intro i
 by_cases hi:i<n*z.size
 ·rw[Sd _ _ _ (by simpa using hi)]
  have hz:0<z.size:=by
   rcases Nat.eq_zero_or_pos z.size with h0|h0
   ·rw[h0] at hi;simp at hi
   exact h0
  have hm:i % z.size<z.size:=Nat.mod_lt _ hz
  simp[hi,hm]
 rw[List.getElem?_eq_none (by simp;omega),List.getElem?_eq_none (by rw[Ki];simp;omega)]
theorem Fq {U:Mu}{z z':List Value}(h:bA U z z'):∀n,bA U (db z n) (db z' n)
 |0=>bA.nil U
 |n+1=>h.append (Fq h n)
def Fs (P:Program)(h:ah)(t:TypeId)(len:Nat)(parts:List (Nat×Value)):Option (Value×ah):=
 match gO P t with
 |some (e,n)=>
  match qZ P e with
  |some z=>
   bif Nat.beq z.length n&&Nat.ble (len*n) 16777216&&Nat.blt 0 n then
    match vK (fun i=>some (i*n,n)) (db z len) parts with
    |some cs=>some (.slice (some ⟨h.next,0,none⟩) len len,h.alloc (.cells 0 cs))
    |none=>none
   else none
  |none=>none
 |none=>none
theorem pH {C k:Nat}(h:k<az):ie C k=k:=by simp[ie,h]
theorem ZH {P:Program}{lo:Nat}{U:Mu}{h:ah}{w:World}(r:Rel U lo h w){t:TypeId}{len:Nat}{parts:List (Nat×Value)}{cq:Array (Nat×Value)}{v:Value}{h':ah}
  (hp:wR U parts cq.toList) (ha:Fs P h t len parts=some (v,h')):eB P lo (Instr.buildSlice t len cq) U h w v h':=by
 unfold Fs at ha
 split at ha
 ·rename_i e n he
  obtain⟨hu,hn⟩:=vJ he
  split at ha
  ·rename_i z hz
   obtain⟨zv,h1,h2,h3⟩:=An hz w
   cases hc:(Nat.beq z.length n&&Nat.ble (len*n) 16777216&&Nat.blt 0 n) with
   |false=>rw[hc] at ha;simp at ha
   |true=>
    rw[hc] at ha
    simp only[aO] at ha
    simp only[bS] at hc
    obtain⟨⟨iC,gW⟩,ji⟩:=hc
    have iC:z.length=n:=by simpa using iC
    have gW:len*n≤16777216:=by simpa using gW
    have ji:0<n:=by rw[Nat.blt_eq] at ji;exact ji
    split at ha
    ·rename_i cs hf
     simp only[ax,bG] at ha
     obtain⟨rfl,rfl⟩:=ha
     have B3:zv.cells.size=n:=by rw[← iC,← h2];simp
     have hlen:len≤16777216:=Nat.le_trans (Nat.le_mul_of_pos_right len ji) gW
     have sY:bA U (db z len) ((Array.range (len*n)).map (zv.cells[· % zv.cells.size]!)).toList:=by
      have:=range_zero zv.cells len
      rw[B3] at this ⊢
      rw[this,h2]
      exact Fq (h2▸C8 h3) len
     obtain⟨out,h4,h5⟩:=Kh (U:=U) (fun i=>some (i*n,n)) parts cq.toList (db z len) _ cs hp sY hf
     obtain⟨aS,h6,h7,h8,h9⟩:=MT (P:=P) r e out cs h5
     have gB:len=ie 0 len:=by rw[pH];unfold az;omega
     refine⟨.slice (some ⟨w.heap.size,0,none⟩) len len,_,aS,?_,?_,h8,h9⟩
     ·have gC:¬(len*n > 2 ^ 24):=by omega
      by_cases h0:len*n=0
      ·have lR:len=0:=by
        rcases Nat.mul_eq_zero.1 h0 with h|h
        ·exact h
        omega
       subst lR
       have oQ:Array.range 0=#[]:=rfl
       rw[Nat.zero_mul,oQ] at h4
       simp only[List.map_toArray,List.map_nil] at h4
       simp[Instr.buildSlice,run_underlying hu,nR hn,oQ,h4,h6]
      simp[Instr.buildSlice,run_underlying hu,nR hn,gC,h0,h1,h4,h6]
     have:=ak.slice h.next 0 len len w.heap.size 0 0 h7 (Nat.le_of_eq gB) (by unfold dW;omega)
     rwa [← gB] at this
    simp at ha
  simp at ha
 simp at ha
def Ft (P:Program)(h:ah)(t:TypeId)(l c:Value):Option (Value×ah):=
 match l,c,gO P t with
 |.int .i64 (.ofNat l),.int .i64 (.ofNat c),some (e,n)=>
  match qZ P e,(P.info? e).map (·.bytes) with
  |some z,some bytes=>
   bif Nat.beq z.length n&&Nat.ble l c&&Nat.ble (bytes*c) 281474976710656&&Nat.blt 0 n&&Nat.ble c 281474976710656 then
    some (.slice (some ⟨h.next,0,none⟩) l c,h.alloc (.cells 0 (db z c)))
   else none
  |_,_=>none
 |_,_,_=>none
theorem Kj {n:Nat}(h:n≤281474976710656):IntKind.i64.wrap (n:Int)=n:=by
 simp[IntKind.wrap,IntKind.signed,IntKind.bits]
 omega
theorem ZI {P:Program}{lo:Nat}{U:Mu}{h:ah}{w:World}(r:Rel U lo h w){t:TypeId}{l l' c c':Value}{v:Value}{h':ah}
  (hl:ak U l l') (jE:ak U c c') (ha:Ft P h t l c=some (v,h')):eB P lo (Instr.makeSlice t l' c') U h w v h':=by
 unfold Ft at ha
 split at ha
 ·rename_i l c e n he
  cases hl with
  |int=>
  cases jE with
  |int=>
  obtain⟨hu,hn⟩:=vJ he
  split at ha
  ·rename_i z bytes hz hb
   obtain⟨zv,h1,h2,h3⟩:=An hz w
   cases hc:(Nat.beq z.length n&&Nat.ble l c&&Nat.ble (bytes*c) 281474976710656&&Nat.blt 0 n&&Nat.ble c 281474976710656) with
   |false=>rw[hc] at ha;simp at ha
   |true=>
    rw[hc] at ha
    simp only[aO,ax,bG] at ha
    obtain⟨rfl,rfl⟩:=ha
    simp only[bS] at hc
    obtain⟨⟨⟨⟨iC,gW⟩,ji⟩,Da⟩,Db⟩:=hc
    have iC:z.length=n:=by simpa using iC
    have gW:l≤c:=by simpa using gW
    have ji:bytes*c≤281474976710656:=by simpa using ji
    have Da:0<n:=by rw[Nat.blt_eq] at Da;exact Da
    have Db:c≤281474976710656:=by simpa using Db
    have B3:zv.cells.size=n:=by rw[← iC,← h2];simp
    have Kk:IntKind.i64.wrap (c:Int)=c:=Kj Db
    have ud:IntKind.i64.wrap (l:Int)=l:=Kj (by omega)
    have sY:bA U (db z c) ((Array.range (c*n)).map (zv.cells[· % zv.cells.size]!)).toList:=by
     have:=range_zero zv.cells c
     rw[B3] at this ⊢
     rw[this,h2]
     exact Fq (h2▸C8 h3) c
    obtain⟨aS,h6,h7,h8,h9⟩:=MT (P:=P) r e _ _ sY
    have gB:c=ie 0 c:=by rw[pH];unfold az;omega
    refine⟨.slice (some ⟨w.heap.size,0,none⟩) l c,_,aS,?_,?_,h8,h9⟩
    ·cases hi:P.info? e with
     |none=>simp[hi] at hb
     |some i=>
      simp only[hi,Option.map_some,ax] at hb
      subst hb
      have GV:(typeInfo e).run P w=.ok i w:=by simp[typeInfo,hi]
      have GW:¬((281474976710656:Int)<(i.bytes:Int)*(c:Int)):=by
       have:((i.bytes*c:Nat):Int)≤((281474976710656:Nat):Int):=Int.ofNat_le.2 ji
       rw[Int.natCast_mul] at this
       exact Int.not_lt.2 this
      have B4:¬((c:Int)<(l:Int)):=by omega
      by_cases h0:c*n=0
      ·have B5:c=0:=by
        rcases Nat.mul_eq_zero.1 h0 with h|h
        ·exact h
        omega
       subst B5
       have lR:l=0:=by omega
       subst lR
       have oQ:Array.range 0=#[]:=rfl
       have zj:IntKind.i64.wrap 0=0:=by decide
       rw[Nat.zero_mul,oQ] at h6
       simp only[Array.map_empty] at h6
       simp[Instr.makeSlice,run_underlying hu,asInt,asIntOf,GV,nR hn,zj,oQ,h6]
      simp[Instr.makeSlice,run_underlying hu,asInt,asIntOf,GV,nR hn,Kk,ud,B4,h0,h1,h6]
      rintro ((hh|hh)|hh)
      ·omega
      ·exact absurd hh GW
      omega
    have:=ak.slice h.next 0 l c w.heap.size 0 0 h7 (by rw[← gB];exact gW) (by unfold dW;omega)
    rwa [← gB] at this
  simp at ha
 simp at ha
def gg (op:BinOp)(k:IntKind)(a b:Int):Option Value:=
 match op with
 |.add=>some (.int k (k.wrap (a+b)))
 |.sub=>some (.int k (k.wrap (a - b)))
 |.mul=>some (.int k (k.wrap (a*b)))
 |.quo=>bif decide (b=0) then none else some (.int k (k.wrap (a.tdiv b)))
 |.rem=>bif decide (b=0) then none else some (.int k (a.tmod b))
 |.and=>some (.int k (k.wrap (BitVec.ofInt k.bits a &&& BitVec.ofInt k.bits b).toNat))
 |.or=>some (.int k (k.wrap (BitVec.ofInt k.bits a ||| BitVec.ofInt k.bits b).toNat))
 |.xor=>some (.int k (k.wrap (BitVec.ofInt k.bits a ^^^ BitVec.ofInt k.bits b).toNat))
 |.andNot=>some (.int k (k.wrap (BitVec.ofInt k.bits a &&& ~~~ BitVec.ofInt k.bits b).toNat))
 |.eql=>some (.bool (a==b))
 |.neq=>some (.bool (a != b))
 |.lss=>some (.bool (decide (a<b)))
 |.leq=>some (.bool (decide (a≤b)))
 |.gtr=>some (.bool (decide (a > b)))
 |.geq=>some (.bool (decide (a≥b)))
 |_=>none
def nS (op:BinOp)(k:IntKind)(a b:Int):Option Value:=
 match op with
 |.shl=>bif decide (b<0) then none else some (.int k (k.wrap (a*2 ^ min b.toNat k.bits)))
 |.shr=>bif decide (b<0) then none else some (.int k (a.fdiv (2 ^ min b.toNat k.bits)))
 |_=>none
def Dc (P:Program)(t:TypeId)(a b:Value):Option Bool:=
 match P.underlying t,a,b with
 |some (.int _),.int k x,.int k' y=>bif decide (k=k') then some (x==y) else none
 |some .bool,.bool x,.bool y=>some (x==y)
 |some .string,.string x,.string y=>some (x.toList==y.toList)
 |_,_,_=>none
def vL (P:Program)(xs ys:List Value):List Field→Option Bool
 |[]=>some true
 |f::fs=>
  bif f.name == "_" then vL P xs ys fs else
  match da P f.type with
  |some n=>
   match apart P f.type xs f.offset n,apart P f.type ys f.offset n with
   |some a,some b=>
    match Dc P f.type a b with
    |some true=>vL P xs ys fs
    |some false=>some false
    |none=>none
   |_,_=>none
  |none=>none
def dR (P:Program)(t:TypeId)(a b:Value):Option Bool:=
 match a,b with
 |.bool x,.bool y=>match P.underlying t with|some .bool=>some (x==y)|_=>none
 |.pointer none,.pointer none=>match P.underlying t with|some (.pointer _)=>some true|_=>none
 |.pointer none,.pointer (some _)=>match P.underlying t with|some (.pointer _)=>some false|_=>none
 |.pointer (some _),.pointer none=>match P.underlying t with|some (.pointer _)=>some false|_=>none
 |.slice none _ _,.slice none _ _=>match P.underlying t with|some (.slice _)=>some true|_=>none
 |.slice none _ _,.slice (some _) _ _=>match P.underlying t with|some (.slice _)=>some false|_=>none
 |.slice (some _) _ _,.slice none _ _=>match P.underlying t with|some (.slice _)=>some false|_=>none
 |.agg xs,.agg ys=>
  match P.underlying t with
  |some (.struct fs)=>bif P.stoodInHeld t||P.eqGuardType P.depth t then none else vL P xs.toList ys.toList fs.toList
  |_=>none
 |_,_=>none
def GX (op:BinOp)(x y:ByteArray):Option Value:=
 match op with
 |.eql=>some (.bool (x.toList==y.toList))
 |.neq=>some (.bool !(x.toList==y.toList))
 |.lss=>some (.bool (Op.bytesLess x.toList y.toList))
 |.add=>bif Nat.ble (x.size+y.size) 4611686018427387904 then some (.string (x++y)) else none
 |_=>none
def kV (P:Program)(op:BinOp)(t:TypeId)(a b:Value):Option Value:=
 match op,a,b with
 |.shl,.int k x,.int _ y=>nS .shl k x y
 |.shr,.int k x,.int _ y=>nS .shr k x y
 |op,.int k x,.int k' y=>bif decide (k=k') then gg op k x y else none
 |op,.string x,.string y=>GX op x y
 |.eql,x,y=>(dR P t x y).map .bool
 |.neq,x,y=>(dR P t x y).map fun r=>.bool !r
 |_,_,_=>none
theorem ZJ {P:Program}{w:World}{op:BinOp}{t:TypeId}{k:IntKind}{x y:Int}{v:Value}(h:gg op k x y=some v) :
    (binOp op t (.int k x) (.int k y)).run P w=.ok v w:=by
  cases op<;>simp only[gg,ax,reduceCtorEq] at h
  all_goals first
    |(subst h;simp[binOp,Op.intArith,Op.intBits,Op.intCmp];done)
    | (cases hb : decide (y = 0) with
       |true=>rw[hb] at h;simp at h
       |false=>rw[hb] at h;simp at h;simp at hb;subst h;simp[binOp,Op.intDiv,hb])
theorem Se {P:Program}{w:World}{U:Mu}{t:TypeId}{d:Nat}{a b a' b':Value}{r:Bool}(ha:ak U a a')(hb:ak U b b')(h:Dc P t a b=some r) :
  (Op.equalIn (d+1) t a' b').run P w=.ok r w:=by
 unfold Dc at h
 split at h
 ·rename_i k0 k x k' y hu
  cases ha;cases hb
  cases hk:decide (k=k') with
  |false=>rw[hk] at h;simp at h
  |true=>rw[hk] at h;simp at h hk;subst hk h;exact run_equalIn_int w d t k k0 x y hu
 ·rename_i hu;cases ha;cases hb;simp at h;subst h;exact run_equalIn_bool' w d t _ _ hu
 ·rename_i hu;cases ha;cases hb;simp at h;subst h;exact run_equalIn_string w d t _ _ hu
 simp at h
theorem MW {P:Program}{w:World}{U:Mu}{d:Nat}{xs ys bw dK:Array Value}(hx:bA U xs.toList bw.toList)(hy:bA U ys.toList dK.toList):∀ {fs:List Field} {r:Bool},
  vL P xs.toList ys.toList fs=some r→(Op.eqFields (d+1) bw dK fs).run P w=.ok r w
 |[],r,h=>by simp[vL] at h;subst h;simp[Op.eqFields]
 |f::fs,r,h=>by
  simp only[vL] at h
  cases hn:(f.name == "_") with
  |true=>
   rw[hn] at h
   simp only[aO] at h
   have mo:f.name = "_" := by simpa using hn
   simp only[Op.eqFields,mo,ne_eq,not_true,if_false]
   exact MW hx hy h
  |false=>
   rw[hn] at h
   simp only[bz] at h
   have mo:f.name ≠ "_" := by simpa using hn
   simp only[Op.eqFields,mo,ne_eq,not_false_eq_true,if_true]
   split at h
   ·rename_i n eJ
    split at h
    ·rename_i a b h1 h2
     obtain⟨a',h3,h4⟩:=GQ (w:=w) hx eJ h1
     obtain⟨b',h5,h6⟩:=GQ (w:=w) hy eJ h2
     split at h
     ·rename_i h7
      have h8:=Se (P:=P) (w:=w) (d:=d) h4 h6 h7
      simp only[Sem.run_bind,h3,h5,h8,Result.andThen_ok,Bool.not_true,Bool.false_eq_true,if_false]
      exact MW hx hy h
     ·rename_i h7
      simp only[ax] at h;subst h
      have h8:=Se (P:=P) (w:=w) (d:=d) h4 h6 h7
      simp only[Sem.run_bind,h3,h5,h8,Result.andThen_ok,Bool.not_false,if_true,Sem.run_pure]
     simp at h
    simp at h
   simp at h
theorem Dd {P:Program}{w:World}{t:TypeId}{x y:Value}{r:Result Bool}(h:∀d,(Op.equalIn (d+1) t x y).run P w=r):(Op.equal t x y).run P w=r:=h 9999
theorem MX {P:Program}{w:World}{U:Mu}{t:TypeId}{a b a' b':Value}{r:Bool}(ha:ak U a a')(hb:ak U b b')(h:dR P t a b=some r) :
    (Op.equal t a' b').run P w=.ok r w∧(∀op x y,(eqGuard op t x y a' b').run P w=.ok () w)∧
      (∀op,(∀k x k' y,¬(a'=.int k x∧b'=.int k' y))∧(∀x y,¬(a'=.string x∧b'=.string y))∧(op=BinOp.eql→binOp op t a' b'=(do pure (.bool (← Op.equal t a' b'))))∧(op=BinOp.neq→binOp op t a' b'=(do pure (.bool (!(← Op.equal t a' b')))))):=by
  have jO:∀(op:BinOp) (x y:Operand) (u v:Value),(∀xs ys,¬(u=.agg xs∧v=.agg ys))→¬(u=.nilIface∧v=.nilIface)→(eqGuard op t x y u v).run P w=.ok () w:=by
    intro op x y u v h1 h2
    cases op<;>simp only[eqGuard]<;>simp
    all_goals (cases u<;>cases v<;>simp_all)
  unfold dR at h
  split at h
  · cases ha;cases hb
    split at h
    · rename_i hu;simp at h;subst h
      exact⟨Dd fun d=>run_equalIn_bool' w d t _ _ hu,fun op x y=>jO op x y _ _ (by simp) (by simp),fun op=>⟨by simp,by simp,by rintro rfl;rfl,by rintro rfl;rfl⟩⟩
    simp at h
  · cases ha;cases hb
    split at h
    · rename_i hu;simp at h;subst h
      exact⟨Dd fun d=>by simp[Op.equalIn,run_underlying hu],fun op x y=>jO op x y _ _ (by simp) (by simp),fun op=>⟨by simp,by simp,by rintro rfl;rfl,by rintro rfl;rfl⟩⟩
    simp at h
  · cases ha;cases hb
    split at h
    · rename_i hu;simp at h;subst h
      exact⟨Dd fun d=>by simp[Op.equalIn,run_underlying hu],fun op x y=>jO op x y _ _ (by simp) (by simp),fun op=>⟨by simp,by simp,by rintro rfl;rfl,by rintro rfl;rfl⟩⟩
    simp at h
  · cases ha;cases hb
    split at h
    · rename_i hu;simp at h;subst h
      exact⟨Dd fun d=>by simp[Op.equalIn,run_underlying hu],fun op x y=>jO op x y _ _ (by simp) (by simp),fun op=>⟨by simp,by simp,by rintro rfl;rfl,by rintro rfl;rfl⟩⟩
    simp at h
  · cases ha;cases hb
    split at h
    · rename_i hu;simp at h;subst h
      exact⟨Dd fun d=>by simp[Op.equalIn,run_underlying hu],fun op x y=>jO op x y _ _ (by simp) (by simp),fun op=>⟨by simp,by simp,by rintro rfl;rfl,by rintro rfl;rfl⟩⟩
    simp at h
  · cases ha
    cases hb<;>
    (split at h
     · rename_i hu;simp at h;subst h
       exact⟨Dd fun d=>by simp[Op.equalIn,run_underlying hu],fun op x y=>jO op x y _ _ (by simp) (by simp),fun op=>⟨by simp,by simp,by rintro rfl;rfl,by rintro rfl;rfl⟩⟩
     simp at h)
  · cases hb
    cases ha<;>
    (split at h
     · rename_i hu;simp at h;subst h
       exact⟨Dd fun d=>by simp[Op.equalIn,run_underlying hu],fun op x y=>jO op x y _ _ (by simp) (by simp),fun op=>⟨by simp,by simp,by rintro rfl;rfl,by rintro rfl;rfl⟩⟩
     simp at h)
  · rename_i xs ys
    obtain⟨bw,rfl,hx⟩:=ha.Fi
    obtain⟨dK,rfl,hy⟩:=hb.Fi
    split at h
    · rename_i fs hu
      cases hc:(P.stoodInHeld t||P.eqGuardType P.depth t) with
      |true=>rw[hc] at h;simp at h
      | false =>
        rw[hc] at h
        simp only[bz] at h
        simp only[Bool.or_eq_false_iff] at hc
        have Aq:P.fieldsOf t=fs:=by simp[Program.fieldsOf,hu]
        refine⟨?_,fun op x y=>run_eqGuard_agg w op t x y bw dK hc.2,fun op=>⟨by simp,by simp,by rintro rfl;rfl,by rintro rfl;rfl⟩⟩
        have hq:=run_equalIn_agg w 9999 t bw dK (by rw[Aq];exact hu) hc.1
        rw[Aq,MW (d:=9998) hx hy h] at hq
        exact hq
    simp at h
  simp at h
theorem ZK {P:Program}{U:Mu}{w:World}{op:BinOp}{t:TypeId}{x y:Operand}{a a' b b' v:Value}(ha:ak U a a')(hb:ak U b b')(h:kV P op t a b=some v) :
    ∃v',(do eqGuard op t x y a' b';binOp op t a' b':Sem Value).run P w=.ok v' w∧ak U v v':=by
  have gi:∀(op:BinOp) (k k':IntKind) (m n:Int),(eqGuard op t x y (.int k m) (.int k' n)).run P w=.ok () w:=by
    intro op k k' m n;cases op<;>simp[eqGuard]
  have gs:∀(op:BinOp) (m n:ByteArray),(eqGuard op t x y (.string m) (.string n)).run P w=.ok () w:=by
    intro op m n;cases op<;>simp[eqGuard]
  unfold kV at h
  split at h
  · cases ha;cases hb
    rename_i k m _ n
    simp only[nS] at h
    cases hc:decide (n<0) with
    |true=>rw[hc] at h;simp at h
    | false =>
      rw[hc] at h;simp only[bz,ax] at h;subst h
      have GY:¬n<0:=by simpa using hc
      exact⟨_,by simp[gi,binOp,Op.shift,GY],.int _ _⟩
  · cases ha;cases hb
    rename_i k m _ n
    simp only[nS] at h
    cases hc:decide (n<0) with
    |true=>rw[hc] at h;simp at h
    | false =>
      rw[hc] at h;simp only[bz,ax] at h;subst h
      have GY:¬n<0:=by simpa using hc
      exact⟨_,by simp[gi,binOp,Op.shift,GY],.int _ _⟩
  · cases ha;cases hb
    rename_i k m k' n _ _
    cases hk:decide (k=k') with
    |false=>rw[hk] at h;simp at h
    | true =>
      rw[hk] at h;simp only[aO] at h;simp at hk;subst hk
      have:=ZJ (P:=P) (w:=w) (t:=t) h
      refine⟨v,by simp[gi,this],?_⟩
      cases op<;>simp only[gg,ax,reduceCtorEq] at h
      all_goals first
        |(subst h;first|exact .int _ _|exact .bool _)
        | (cases hb : decide (n = 0) with
           |true=>rw[hb] at h;simp at h
           |false=>rw[hb] at h;simp at h;subst h;exact .int _ _)
  · cases ha;cases hb
    rename_i m n
    cases op<;>simp only[GX,ax,reduceCtorEq] at h
    all_goals first
      |(subst h;exact⟨_,by simp[gs,binOp,Op.stringOp],.bool _⟩)
      | (cases hc : Nat.ble (m.size + n.size) 4611686018427387904 with
         |false=>rw[hc] at h;simp at h
         | true =>
           rw[hc] at h;simp only[aO,ax] at h;subst h
           have GY:m.size+n.size≤4611686018427387904:=by simpa using hc
           have iI:¬(((m.size+n.size:Nat):Int) > IntKind.i64.max):=by
             have:IntKind.i64.max=9223372036854775807:=by decide
             rw[this];omega
           exact⟨.string (m++n),by simp only[Sem.run_bind,gs,Result.andThen_ok,binOp,Op.stringOp];rw[if_neg iI];rfl,.string _⟩)
  · rename_i h1 h2
    cases hq:dR P t a b with
    |none=>rw[hq] at h;simp at h
    | some r =>
      rw[hq] at h;simp at h;subst h
      obtain⟨e1,e2,e3⟩:=MX (w:=w) ha hb hq
      refine⟨.bool r,?_,.bool r⟩
      rw[Sem.run_bind,e2,Result.andThen_ok,(e3 .eql).2.2.1 rfl]
      simp[e1]
  · rename_i h1 h2
    cases hq:dR P t a b with
    |none=>rw[hq] at h;simp at h
    | some r =>
      rw[hq] at h;simp at h;subst h
      obtain⟨e1,e2,e3⟩:=MX (w:=w) ha hb hq
      refine⟨.bool !r,?_,.bool _⟩
      rw[Sem.run_bind,e2,Result.andThen_ok,(e3 .neq).2.2.2 rfl]
      simp[e1]
  simp at h
def nv (op:UnOp)(x:Value):Option Value:=
 match op,x with
 |.neg,.int k n=>some (.int k (k.wrap (0 - n)))
 |.not,.bool b=>some (.bool !b)
 |_,_=>none
theorem ZL {P:Program}{U:Mu}{w:World}{op:UnOp}{a a' v:Value}(ha:ak U a a')(h:nv op a=some v):∃v',(Op.unary op a').run P w=.ok v' w∧ak U v v':=by
 unfold nv at h
 split at h
 ·cases ha;simp only[ax] at h;subst h;exact⟨_,by simp[Op.unary,Op.intArith],.int _ _⟩
 ·cases ha;simp only[ax] at h;subst h;exact⟨_,by simp[Op.unary],.bool _⟩
 simp at h
def ny (P:Program)(s d:TypeId)(x:Value):Option Value:=
 match P.underlying s,P.underlying d,x with
 |some (.int _),some (.int k),.int _ n=>some (.int k (k.wrap n))
 |some .string,some .string,.string s=>some (.string s)
 |_,_,_=>none
theorem ZM {P:Program}{U:Mu}{w:World}{s d:TypeId}{a a' v:Value}(ha:ak U a a')(h:ny P s d a=some v):∃v',(convert s d a').run P w=.ok v' w∧ak U v v':=by
 unfold ny at h
 split at h
 ·rename_i h1 h2
  cases ha;simp only[ax] at h;subst h
  exact⟨_,by simp[convert,run_underlying h1,run_underlying h2,Conv.intToInt],.int _ _⟩
 ·rename_i h1 h2
  cases ha;simp only[ax] at h;subst h
  exact⟨_,by simp[convert,run_underlying h1,run_underlying h2],.string _⟩
 simp at h
def Fu (x:Value):Option Value:=
 match x with
 |.pointer (some a)=>some (.pointer (some a))
 |.func (.func f) a b=>some (.func (.func f) a b)
 |_=>none
def kW (v:Value)(y:Nat):Option Nat:=
 match v with
 |.int _ (.ofNat i)=>bif Nat.ble i y then some i else none
 |_=>none
theorem Kl {P:Program}{U:Mu}{w:World}{v v':Value}{y i:Nat}(hv:ak U v v')(h:kW v y=some i)(y':Nat)(hy:y≤y')(c:BoundsCode) :
  (Instr.sliceBound v' y' c).run P w=.ok i w∧i≤y:=by
 unfold kW at h
 split at h
 ·rename_i k j
  cases hv
  cases hj:Nat.ble j y with
  |false=>rw[hj] at h;simp at h
  |true=>
   rw[hj] at h;simp only[aO,ax] at h;subst h
   have mn:j≤y:=by simpa using hj
   have h1:(0:Int)≤(Int.ofNat j)∧Int.ofNat j≤(y':Int):=by
    constructor
    ·exact Int.natCast_nonneg j
    exact Int.ofNat_le.2 (Nat.le_trans mn hy)
   refine⟨?_,mn⟩
   simp only[Instr.sliceBound,Sem.run_bind,asIntOf,Sem.run_pure,Result.andThen_ok]
   rw[if_pos h1];rfl
 simp at h
def bM (known:Nat):Option Value→Option (Option Nat)
 |some v=>(kW v known).map some
 |none=>some none
def bH (len known:Nat):Option Value→Option Nat→Option Nat
 |some v,some m=>kW v m
 |some v,none=>kW v known
 |none,none=>some len
 |none,some _=>none
def bL (h:Nat):Option Value→Option Nat
 |some v=>kW v h
 |none=>some 0
def sZ (len known:Nat)(lo hi mx:Option Value):Option (Nat×Nat×Option Nat):=
 match bM known mx with
 |none=>none
 |some m=>
  match bH len known hi m with
  |none=>none
  |some h=>
   match bL h lo with
   |none=>none
   |some l=>some (l,h,m)
def cM (cap:Nat)(sl:Bool):Option Value→Sem Nat
 |some v=>Instr.sliceBound v cap (if sl then .slice3Acap else .slice3Alen)
 |none=>pure cap
def cH (len m:Nat)(sl:Bool)(mx:Option Value):Option Value→Sem Nat
 |some v=>match mx with
  |some _=>Instr.sliceBound v m .slice3B
  |none=>Instr.sliceBound v m (if sl then .sliceAcap else .sliceAlen)
 |none=>match mx with
  |some _=>stuck "Slice: max without high"
  |none=>pure len
def cL (h:Nat)(mx:Option Value):Option Value→Sem Nat
 |some v=>Instr.sliceBound v h (if mx.isSome then .slice3C else .sliceB)
 |none=>pure 0
theorem ZN (sl:Bool)(len cap:Nat)(lo hi mx:Option Value) :
  Instr.sliceBounds sl len cap lo hi mx=(cM cap sl mx >>= fun m=>cH len m sl mx hi >>= fun h=>cL h mx lo >>= fun l=>pure (l,h,m)):=by
 unfold Instr.sliceBounds
 cases mx<;>cases hi<;>cases lo<;>rfl
def De (U:Mu):Option Value→Option Value→Prop
 |none,none=>True
 |some v,some v'=>ak U v v'
 |_,_=>False
theorem Df {P:Program}{U:Mu}{w:World}{len known:Nat}{lo hi mx fE dD jP:Option Value}{l h:Nat}{m:Option Nat}(cg:De U lo fE)(iJ:De U hi dD)(iI:De U mx jP)
  (ha:sZ len known lo hi mx=some (l,h,m)) (cap:Nat) (hc:known≤cap) (hl:len≤known) (sl:Bool) :
  (Instr.sliceBounds sl len cap fE dD jP).run P w=.ok (l,h,m.getD cap) w∧l≤h∧h≤known∧(∀x,m=some x→h≤x∧x≤known):=by
 unfold sZ at ha
 cases hm:bM known mx with
 |none=>simp[hm] at ha
 |some m0=>
  simp only[hm] at ha
  cases hh:bH len known hi m0 with
  |none=>simp[hh] at ha
  |some h0=>
   simp only[hh] at ha
   cases fc:bL h0 lo with
   |none=>simp[fc] at ha
   |some l0=>
    simp only[fc,ax,bG] at ha
    obtain⟨rfl,rfl,rfl⟩:=ha
    have lA:(cM cap sl jP).run P w=.ok (m0.getD cap) w∧(∀x,m0=some x→x≤known)∧(m0.isSome=jP.isSome):=by
     cases mx with
     |none=>
      cases jP with
      |none=>simp only[bM,ax] at hm;subst hm;exact⟨rfl,by simp,rfl⟩
      |some v'=>exact iI.elim
     |some v=>
      cases jP with
      |none=>exact iI.elim
      |some v'=>
       simp only[bM] at hm
       cases hb:kW v known with
       |none=>rw[hb] at hm;simp at hm
       |some x=>
        rw[hb] at hm;simp only[Option.map_some,ax] at hm;subst hm
        have hr:=fun c=>(Kl (P:=P) (w:=w) (show ak U v v' from iI) hb cap hc c)
        exact⟨(hr _).1,fun y hy=>by simp only[ax] at hy;subst hy;exact(hr .index).2,rfl⟩
    obtain⟨cj,ig,Dg⟩:=lA
    have ZO:(cH len (m0.getD cap) sl jP dD).run P w=.ok h0 w∧h0≤known∧(∀x,m0=some x→h0≤x):=by
     cases hi with
     |none=>
      cases dD with
      |some v'=>exact iJ.elim
      |none=>
       cases m0 with
       |some x=>simp[bH] at hh
       |none=>
        simp only[bH,ax] at hh;subst hh
        cases jP with
        |some v'=>simp at Dg
        |none=>exact⟨rfl,hl,by simp⟩
     |some v=>
      cases dD with
      |none=>exact iJ.elim
      |some v'=>
       cases m0 with
       |some x=>
        cases jP with
        |none=>simp at Dg
        |some u=>
         have hr:=Kl (P:=P) (w:=w) (show ak U v v' from iJ) hh x (Nat.le_refl _) .slice3B
         exact⟨hr.1,Nat.le_trans hr.2 (ig x rfl),fun y hy=>by simp only[ax] at hy;subst hy;exact hr.2⟩
       |none=>
        cases jP with
        |some u=>simp at Dg
        |none=>
         have hr:=fun c=>Kl (P:=P) (w:=w) (show ak U v v' from iJ) hh cap hc c
         exact⟨(hr _).1,(hr .index).2,by simp⟩
    obtain⟨ZP,ZQ,ZR⟩:=ZO
    have di:(cL h0 jP fE).run P w=.ok l0 w∧l0≤h0:=by
     cases lo with
     |none=>
      cases fE with
      |some v'=>exact cg.elim
      |none=>simp only[bL,ax] at fc;subst fc;exact⟨rfl,Nat.zero_le _⟩
     |some v=>
      cases fE with
      |none=>exact cg.elim
      |some v'=>
       have hr:=fun c=>Kl (P:=P) (w:=w) (show ak U v v' from cg) fc h0 (Nat.le_refl _) c
       exact⟨(hr _).1,(hr .index).2⟩
    refine⟨?_,di.2,ZQ,fun x hx=>⟨ZR x hx,ig x hx⟩⟩
    rw[ZN,Sem.run_bind,cj,Result.andThen_ok,Sem.run_bind,ZP,Result.andThen_ok,Sem.run_bind,di.1,Result.andThen_ok,Sem.run_pure]
def lB (P:Program)(t:TypeId)(x:Value)(lo hi mx:Option Value):Option Value:=
 match x with
 |.slice none 0 0=>
  match gO P t,sZ 0 0 lo hi mx with
  |some _,some _=>some (.slice none 0 0)
  |_,_=>none
 |.slice (some ⟨o,off,none⟩) len k=>
  match gO P t with
  |some (_,sz)=>
   bif Nat.blt k az then
    match sZ len k lo hi mx with
    |some (l,h,m)=>
     let m':=m.getD k
     some (.slice (some ⟨o,bif Nat.beq m' l then off else off+l*sz,none⟩) (h - l) (m' - l))
    |none=>none
   else bif Nat.blt k dW then
    match sZ len len lo hi mx with
    |some (l,h,some m)=>bif Nat.blt m az then some (.slice (some ⟨o,bif Nat.beq m l then off else off+l*sz,none⟩) (h - l) (m - l)) else none
    |some (l,h,none)=>
     bif Nat.beq l 0 then some (.slice (some ⟨o,off,none⟩) h k)
     else bif Nat.beq h l then some (.slice (some ⟨o,off,none⟩) 0 dW)
     else bif Nat.blt (k+l) dW then some (.slice (some ⟨o,off+l*sz,none⟩) (h - l) (k+l)) else none
    |none=>none
   else
    match sZ 0 0 lo hi mx with
    |some (_,_,none)=>some (.slice (some ⟨o,off,none⟩) 0 dW)
    |some (_,_,some _)=>some (.slice (some ⟨o,off,none⟩) 0 0)
    |none=>none
  |none=>none
 |_=>none
theorem kH (a b:Nat):(Nat.beq a b=true∧a=b)∨(Nat.beq a b=false∧a≠b):=by
 cases h:Nat.beq a b with
 |true=>exact .inl ⟨rfl,by simpa using h⟩
 |false=>exact .inr ⟨rfl,by intro e;subst e;simp at h⟩
theorem Dh {P:Program}{w:World}{t e:TypeId}{n:Nat}(hu:P.underlying t=some (.slice e))(hn:da P e=some n)(p:Option Addr)(len cap:Nat)(lo hi mx:Option Value){l h m:Nat}
  (hb:(Instr.sliceBounds true len cap lo hi mx).run P w=.ok (l,h,m) w) :
  (Instr.sliceAt t (.slice p len cap) lo hi mx).run P w=.ok (.slice (if m=l then p else p.map (·.add (l*n))) (h - l) (m - l)) w:=by
 simp only[Instr.sliceAt,Sem.run_bind,run_underlying hu,Result.andThen_ok,Instr.slice,hb,nR hn,Sem.run_pure]
theorem ZS {P:Program}{U:Mu}{w:World}{t:TypeId}{x x':Value}{lo hi mx fE dD jP:Option Value}{v:Value}(hx:ak U x x')(cg:De U lo fE)(iJ:De U hi dD)(iI:De U mx jP)
  (ha:lB P t x lo hi mx=some v):∃v',(Instr.sliceAt t x' fE dD jP).run P w=.ok v' w∧ak U v v':=by
 unfold lB at ha
 split at ha
 ·split at ha
  ·rename_i e q ka hb
   obtain⟨e1,n⟩:=e
   obtain⟨hu,hn⟩:=vJ ka
   obtain⟨l,h,m⟩:=q
   cases hx
   obtain⟨h1,h2,h3,h4⟩:=Df (P:=P) (w:=w) cg iJ iI hb 0 (Nat.le_refl _) (Nat.le_refl _) true
   simp only[ax] at ha;subst ha
   have hm:m.getD 0=0:=by
    cases m with
    |none=>rfl
    |some x=>have:=(h4 x rfl).2;simp;omega
   have hh:h=0:=by omega
   have hl:l=0:=by omega
   subst hh hl
   rw[hm] at h1
   exact⟨_,Dh hu hn none 0 0 fE dD jP h1,by simp;exact .dY⟩
  simp at ha
 ·rename_i o off len k
  split at ha
  ·rename_i e sz ka
   obtain⟨hu,hn⟩:=vJ ka
   cases hk:Nat.blt k az with
   |true=>
    have kc:k<az:=by rw[Nat.blt_eq] at hk;exact hk
    rw[hk] at ha
    simp only[aO] at ha
    split at ha
    ·rename_i l h m hb
     simp only[ax] at ha;subst ha
     cases hx with
     |slice _ _ _ _ b a C hm hl dZ=>
      rw[pH kc] at hl ⊢
      obtain⟨h1,h2,h3,h4⟩:=Df (P:=P) (w:=w) cg iJ iI hb k (Nat.le_refl _) hl true
      refine⟨_,Dh hu hn _ _ _ _ _ _ h1,?_⟩
      have Fv:m.getD k≤k∧h≤m.getD k:=by
       cases m with
       |none=>exact⟨Nat.le_refl _,h3⟩
       |some x=>exact⟨(h4 x rfl).2,(h4 x rfl).1⟩
      have aP:m.getD k - l<az:=by omega
      rcases kH (m.getD k) l with⟨hq,cm⟩|⟨hq,cm⟩
      ·rw[hq]
       simp only[cm,if_true,aO]
       have:=ak.slice o off (h - l) (l - l) b a C hm (by rw[pH (by omega)];omega) (by unfold dW;unfold az at *;omega)
       rwa [pH (by omega)] at this
      rw[hq]
      simp only[cm,if_false,bz,Option.map_some,uJ]
      have:=ak.slice o (off+l*sz) (h - l) (m.getD k - l) b a C hm (by rw[pH aP];omega) (by unfold dW;unfold az at *;omega)
      rwa [pH aP,← Nat.add_assoc] at this
     |bX=>unfold dW az at kc;omega
     |cp p p'=>
      obtain⟨h1,h2,h3,h4⟩:=Df (P:=P) (w:=w) cg iJ iI hb 0 (Nat.le_refl _) (Nat.le_refl _) true
      refine⟨_,Dh hu hn _ _ _ _ _ _ h1,?_⟩
      have hm:m.getD 0=0:=by
       cases m with
       |none=>rfl
       |some x=>have:=(h4 x rfl).2;simp;omega
      have hh:h=0:=by omega
      have hl:l=0:=by omega
      subst hh hl
      simp only[hm,if_true]
      exact .cp _ _
    simp at ha
   |false=>
    rw[hk] at ha
    simp only[bz] at ha
    have kc:¬k<az:=by intro h;rw[← Nat.blt_eq,hk] at h;cases h
    cases gh:Nat.blt k dW with
    |true=>
     rw[gh] at ha
     simp only[aO] at ha
     have Di:k<dW:=by rw[Nat.blt_eq] at gh;exact gh
     cases hx with
     |bX=>omega
     |cp=>unfold az at kc;omega
     |slice _ _ _ _ b a C hm hl dZ=>
      split at ha
      ·rename_i l h m hb
       cases Au:Nat.blt m az with
       |false=>rw[Au] at ha;simp at ha
       |true=>
       rw[Au] at ha
       simp only[aO,ax] at ha;subst ha
       have hmi:m<az:=by rw[Nat.blt_eq] at Au;exact Au
       obtain⟨h1,h2,h3,h4⟩:=Df (P:=P) (w:=w) cg iJ iI hb (ie C k) hl (Nat.le_refl _) true
       refine⟨_,Dh hu hn _ _ _ _ _ _ h1,?_⟩
       obtain⟨h5,h6⟩:=h4 m rfl
       simp only[Option.getD_some]
       have eM:ie C k=C - (k - az):=by simp[ie,kc]
       have mJ:m - l<az:=by omega
       ·rcases kH m l with⟨hq,cm⟩|⟨hq,cm⟩
        ·rw[hq]
         simp only[cm,if_true,aO]
         have:=ak.slice o off (h - l) (l - l) b a C hm (by rw[pH (by omega)];omega) (by unfold dW;unfold az at *;omega)
         rwa [pH (by omega)] at this
        rw[hq]
        simp only[cm,if_false,bz,Option.map_some,uJ]
        have:=ak.slice o (off+l*sz) (h - l) (m - l) b a C hm (by rw[pH mJ];omega) (by unfold dW;unfold az at *;omega)
        rwa [pH mJ,← Nat.add_assoc] at this
      ·rename_i l h hb
       obtain⟨h1,h2,h3,h4⟩:=Df (P:=P) (w:=w) cg iJ iI hb (ie C k) hl (Nat.le_refl _) true
       have fm:=Dh hu hn (some ⟨b,a+off,none⟩) len (ie C k) fE dD jP h1
       simp only[Option.getD_none] at fm
       have eM:ie C k=C - (k - az):=by simp[ie,kc]
       rcases kH l 0 with⟨hq,cm⟩|⟨hq,cm⟩
       ·rw[hq] at ha
        simp only[aO,ax] at ha;subst ha cm
        refine⟨_,fm,?_⟩
        have:=ak.slice o off h k b a C hm (by omega) dZ
        simp only[Nat.zero_mul,Option.map_some,uJ,Nat.add_zero,ite_self,Nat.sub_zero]
        exact this
       rw[hq] at ha
       simp only[bz] at ha
       rcases kH h l with⟨hr,q7⟩|⟨hr,q7⟩
       ·rw[hr] at ha
        simp only[aO,ax] at ha;subst ha q7
        refine⟨_,fm,?_⟩
        rw[Nat.sub_self]
        split
        ·exact .bX _ _ _
        exact .bX _ _ _
       rw[hr] at ha
       simp only[bz] at ha
       cases hz:Nat.blt (k+l) dW with
       |false=>rw[hz] at ha;simp at ha
       |true=>
        rw[hz] at ha
        simp only[aO,ax] at ha;subst ha
        refine⟨_,fm,?_⟩
        rw[if_neg (by omega)]
        simp only[Option.map_some,uJ]
        have gW:ie C (k+l)=ie C k - l:=by
         rw[eM];unfold ie;rw[if_neg (by omega)];omega
        have:=ak.slice o (off+l*sz) (h - l) (k+l) b a C hm (by rw[gW];omega) (by rw[Nat.blt_eq] at hz;exact hz)
        rwa [gW,← Nat.add_assoc] at this
      simp at ha
    |false=>
     rw[gh] at ha
     simp only[bz] at ha
     have Di:¬k<dW:=by intro h;rw[← Nat.blt_eq,gh] at h;cases h
     cases hx with
     |slice _ _ _ _ b a C hm hl dZ=>omega
     |cp=>unfold dW at Di;omega
     |bX p p' c=>
      split at ha
      ·rename_i l h hb
       simp only[ax] at ha;subst ha
       obtain⟨h1,h2,h3,h4⟩:=Df (P:=P) (w:=w) cg iJ iI hb c (Nat.zero_le _) (Nat.le_refl _) true
       have fm:=Dh hu hn (some p') 0 c fE dD jP h1
       have hh:h=0:=by omega
       have hl:l=0:=by omega
       subst hh hl
       refine⟨_,fm,?_⟩
       simp only[Option.getD_none,Nat.sub_zero]
       split
       ·exact .bX _ _ _
       exact .bX _ _ _
      ·rename_i l h m hb
       simp only[ax] at ha;subst ha
       obtain⟨h1,h2,h3,h4⟩:=Df (P:=P) (w:=w) cg iJ iI hb c (Nat.zero_le _) (Nat.le_refl _) true
       have fm:=Dh hu hn (some p') 0 c fE dD jP h1
       have hm:=(h4 m rfl).2
       have hh:h=0:=by omega
       have hl:l=0:=by omega
       have lA:m=0:=by omega
       subst hh hl lA
       refine⟨_,fm,?_⟩
       simp only[Option.getD_some,Nat.sub_zero,if_true]
       exact .cp _ _
      simp at ha
  simp at ha
 simp at ha
def qx (h:ah)(n:Nat)(x:Value)(m:Nat):Option (List Value):=
 bif Nat.beq m 0 then some [] else
 match x with
 |.slice (some ⟨o,off,none⟩) _ _=>
  match h.get o with
  |some (.cells _ cs)=>bif Nat.ble (off+m*n) cs.length then some ((cs.drop off).take (m*n)) else none
  |_=>none
 |_=>none
def kr:Value→Option Nat
 |.slice _ l _=>some l
 |_=>none
theorem MY {P:Program}{U:Mu}{w:World}{x x':Value}{m:Nat}(hx:ak U x x')(h:kr x=some m):(Builtin.lenOf x').run P w=.ok m w∧∃p c,x'=.slice p m c:=by
 unfold kr at h
 split at h
 ·simp only[ax] at h;subst h
  cases hx<;>exact⟨rfl,_,_,rfl⟩
 simp at h
theorem Km {P:Program}{lo:Nat}{U:Mu}{h:ah}{w:World}(r:Rel U lo h w){n m:Nat}{x x':Value}{xs:List Value}(hx:ak U x x'){p:Option Addr}{l c:Nat}(fU:x'=.slice p l c)(GZ:m≤l)(hs:qx h n x m=some xs) :
  ∃bw:List Value,(∀w2:World,(∀a,w2.cell? a=w.cell? a)→(Builtin.firstCells n m x').run P w2=.ok bw.toArray w2)∧bA U xs bw∧xs.length=m*n:=by
 unfold qx at hs
 rcases kH m 0 with⟨hq,cm⟩|⟨hq,cm⟩
 ·rw[hq] at hs;simp only[aO,ax] at hs;subst hs cm
  refine⟨[],fun w2 _=>?_,bA.nil U,by simp⟩
  subst fU
  cases p<;>simp[Builtin.firstCells,loadCells,loadCellsFrom]
 rw[hq] at hs
 simp only[bz] at hs
 split at hs
 ·rename_i o off l0 k0
  split at hs
  ·rename_i s cs ho
   cases hle:Nat.ble (off+m*n) cs.length with
   |false=>rw[hle] at hs;simp at hs
   |true=>
    rw[hle] at hs;simp only[aO,ax] at hs;subst hs
    have MZ:off+m*n≤cs.length:=by simpa using hle
    cases hx with
    |slice _ _ _ _ b a C hm hl dZ=>
     obtain⟨ar,h1,h2,h3⟩:=Kf (oP r ho hm) off (m*n) MZ
     refine⟨ar,fun w2 et=>?_,h1,by simp;omega⟩
     have fm:=run_loadCells_list (P:=P) w2 _ ar (fun j v hj=>by rw[et];exact h3 j v hj)
     rw[h2] at fm
     simpa[Builtin.firstCells] using fm
    |bX=>simp only[Value.slice.injEq] at fU;omega
    |cp=>simp only[Value.slice.injEq] at fU;omega
  simp at hs
 simp at hs
theorem ZT (pI gV:Nat)(h:gV<pI):Builtin.nextslicecap pI gV≤2*pI+192:=by
 have grow:∀(rounds c:Nat),c≤2*pI+192→Builtin.growBy pI rounds c≤2*pI+192:=by
  intro rounds
  induction rounds with
  |zero=>intro c hc;simpa[Builtin.growBy] using hc
  |succ r ih=>
   intro c hc
   simp only[Builtin.growBy]
   split
   ·exact hc
   exact ih _ (by omega)
 unfold Builtin.nextslicecap
 split
 ·omega
 split
 ·omega
 exact grow 4 gV (by omega)
section
variable {P:Program} {w:World} {sT xT ty e:TypeId} {i:TypeInfo} {d0:TypeId} {x:Value} {base:Option Addr} {cw fV m:Nat} {new:List Value}
theorem eC (hu:P.underlying sT=some (.slice e))(hi:P.info? e=some i)(hx:P.underlying xT=some (.slice d0))(hl:(Builtin.lenOf x).run P w=.ok m w)
  (hf:(Builtin.firstCells i.size m x).run P w=.ok new.toArray w) (hn:cw+m≤fV) :
  (Builtin.append_ #[sT,xT] ty #[.slice base cw fV,x]).run P w =
   (match base with|some a=>(storeCells (a.add (cw*i.size)) new).run P w|none=>.ok () w).andThen fun _ w'=>.ok (.slice base (cw+m) fV) w':=by
 cases base with
 |none=>simp[Builtin.append_,run_underlying hu,run_underlying hx,sizeOf,typeInfo,hi,hl,hn,hf]
 |some a=>simp[Builtin.append_,run_underlying hu,run_underlying hx,sizeOf,typeInfo,hi,hl,hn,hf]
theorem kX {z:Value}{iK:List Value}(hu:P.underlying sT=some (.slice e))(hi:P.info? e=some i)(hz:i.zero=some z)(hx:P.underlying xT=some (.slice d0))(hl:(Builtin.lenOf x).run P w=.ok m w)
  (Aq:(Builtin.firstCells i.size cw (.slice base cw fV)).run P w.drew=.ok iK.toArray w.drew) (hf:(Builtin.firstCells i.size m x).run P w.drew=.ok new.toArray w.drew)
  (hn:fV<cw+m) (Sf:cw+m≤17592186044416) (Sh:(2*(cw+m)+192)*i.bytes≤281474976710656) :
  (Builtin.append_ #[sT,xT] ty #[.slice base cw fV,x]).run P w =
   .ok (.slice (some ⟨w.heap.size,0,none⟩) (cw+m) (grownCap w (cw+m) fV e))
    (w.drew.alloc (.cells (iK.toArray++new.toArray++Builtin.zeroCells z.cells (grownCap w (cw+m) fV e - (cw+m))) e)):=by
 have mo:¬(cw+m≤fV):=by omega
 have M1:¬(9223372036854775807<((cw:Int)+(m:Int))):=by omega
 have M2:¬(281474976710656<Builtin.nextslicecap (cw+m) fV*i.bytes):=by
  have:=Nat.mul_le_mul_right i.bytes (ZT (cw+m) fV hn)
  omega
 simp[Builtin.append_,run_underlying hu,run_underlying hx,sizeOf,typeInfo,zeroValue,hi,hz,hl,mo,M1,M2,Question.forced,hf,Aq,newRow,grownCap]
 congr 2
 apply Array.ext'
 simp[List.append_assoc]
end
theorem grownCap_ge (w:World)(pI gV:Nat)(e:TypeId):pI≤grownCap w pI gV e:=by
 simp[grownCap,Question.cut]
def q8 (P:Program)(lo:Nat)(h:ah)(sT xT:TypeId)(s x:Value):Option (Value×ah):=
 match gO P sT,gO P xT,kr x with
 |some (e,n),some _,some m=>
  match qZ P e,(P.info? e).map (·.bytes),qx h n x m with
  |some z,some bytes,some xs=>
   bif !(Nat.beq z.length n&&Nat.blt 0 n&&xs.all (·.oneCell')) then none else
   match s with
   |.slice none 0 0=>
    bif Nat.beq m 0 then some (.slice none 0 0,h) else
    bif Nat.ble m 17592186044416&&Nat.ble ((2*m+192)*bytes) 281474976710656 then some (.slice (some ⟨h.next,0,none⟩) m az,h.alloc (.cells n xs)) else none
   |.slice (some ⟨o,off,none⟩) l k=>
    bif Nat.beq m 0 then some (.slice (some ⟨o,off,none⟩) l k,h) else
    bif Nat.blt k az then
     bif Nat.ble (l+m) k then
      match h.get o with
      |some (.cells s cs)=>
       bif Nat.ble lo o&&Nat.ble (off+(l+m)*n) cs.length then
        some (.slice (some ⟨o,off,none⟩) (l+m) k,h.put o (some (.cells s (fT cs (off+l*n) xs)))) else none
      |_=>none
     else
      match qx h n s l with
      |some iK=>
       bif Nat.ble (l+m) 17592186044416&&Nat.ble ((2*(l+m)+192)*bytes) 281474976710656 then
        some (.slice (some ⟨h.next,0,none⟩) (l+m) az,h.alloc (.cells n (iK++xs))) else none
      |none=>none
    else bif Nat.blt k dW then
     match h.get o with
     |some (.cells s cs)=>
      bif !(Nat.ble lo o&&Nat.beq off ((k - az)*n)&&Nat.beq s n&&Nat.ble (l+m) 17592186044416&&Nat.ble ((2*(l+m)+192)*bytes) 281474976710656) then none else
      bif Nat.ble (off+(l+m)*n) cs.length then
       some (.slice (some ⟨o,off,none⟩) (l+m) k,h.put o (some (.cells s (fT cs (off+l*n) xs))))
      else bif Nat.ble (off+l*n) cs.length then
       some (.slice (some ⟨h.next,0,none⟩) (l+m) az,(h.put o none).alloc (.cells n ((cs.drop off).take (l*n)++xs)))
      else none
     |_=>none
    else none
   |_=>none
  |_,_,_=>none
 |_,_,_=>none
theorem ZU {U:Mu}{lo:Nat}{h:ah}{w:World}(r:Rel U lo h w){o:Nat}(ho:lo≤o)(aP:o<h.next):Rel U lo (h.put o none) w∧Frame lo U h w U (h.put o none) w:=by
 have q9:∀p x,(h.put o none).get p=some x→h.get p=some x:=fun p x hx=>by
  rw[ah.dJ _ _ _ _ aP] at hx
  by_cases hp:p=o
  ·simp[hp] at hx
  simpa[hp] using hx
 refine⟨r.sub (Nat.le_refl _) q9 (Nat.le_refl _) r.bO,⟨Mu.le_refl U,Nat.le_refl _,Nat.le_refl _,fun _ _ _=>rfl,fun b _=>?_,fun p hp=>?_,fun _ _=>rfl,fun p hp hn=>?_,.refl w⟩⟩
 ·rintro⟨p,x,a,C,h1,h2,h3⟩;exact⟨p,x,a,C,h1,q9 p x h2,h3⟩
 ·rw[ah.dJ _ _ _ _ aP]
  have:p≠o:=by omega
  simp[this]
 rw[ah.dJ _ _ _ _ aP]
 by_cases h1:p=o
 ·simp[h1]
 simpa[h1] using hn
theorem ZV {U:Mu}{lo:Nat}{h:ah}{w w':World}(r:Rel U lo h w){o:Nat}{x:bc}(hx:h.get o=some x)(hl:lo≤o){b a C:Nat}(hm:U o=some (b,a,C))(y:bc)(a' C':Nat)
  (eJ:w'.heap.size=w.heap.size) (hk:∀b',b'≠b→w'.heap[b']?=w.heap[b']?) (hy:∀ν,U.le ν→gd ν w' b a' C' y) (uG:∀off,w'.frozen? ⟨b,off,none⟩=false) (wP:Calm w w') :
  ∃aS,aS h.next=some (b,a',C')∧Rel aS lo ((h.put o none).alloc y) w'∧Frame lo U h w aS ((h.put o none).alloc y) w':=by
 have aP:=ah.gx hx
 have hle:=r.C6 (b,a',C')
 have gX:∀p z,((h.put o none).alloc y).get p=some z→(p=h.next∧z=y)∨(p≠h.next∧p≠o∧h.get p=some z):=fun p z hz=>by
  rw[ah.jf] at hz
  simp only[ah.Kd] at hz
  by_cases hp:p=h.next
  ·simp[hp] at hz;exact .inl ⟨hp,hz.symm⟩
  simp only[hp,if_false] at hz
  rw[ah.dJ _ _ _ _ aP] at hz
  by_cases ua:p=o
  ·simp[ua] at hz
  simp only[ua,if_false] at hz;exact .inr ⟨hp,ua,hz⟩
 have eK:∀p z b' zi qV,h.get p=some z→U p=some (b',zi,qV)→p≠o→b'≠b:=fun p z b' zi qV hz eI hp hb=>by
  subst hb;exact hp (r.inj o p x z b' a C zi qV hl hx hz hm eI).symm
 refine⟨U.put h.next (b,a',C'),Mu.cB _ _ _,Rel.MN r ?_ ?_ ?_ ?_ ?_ ⟨hle,by omega,by simp,fun b' _ hn=>hk b' (fun hb=>hn (hb▸⟨o,x,a,C,hl,hx,hm⟩)),?_,?_,fun p hp=>Mu.jN _ (by omega),fun p hp hn=>?_,wP⟩⟩
 ·intro p z hz
  rcases gX p z hz with⟨rfl,rfl⟩|⟨h1,h2,h3⟩
  ·exact⟨b,a',C',Mu.cB _ _ _,hy _ hle⟩
  obtain⟨b',zi,qV,h4,h5⟩:=r.bq p z h3
  exact⟨b',zi,qV,by rw[Mu.jN _ h1];exact h4,(h5.mono hle).kept (hk b' (eK p z b' zi qV h3 h4 h2))⟩
 ·intro p p' z z' b' a1 C1 a2 C2 wQ hz kG cj ig
  rcases gX p z hz with⟨rfl,rfl⟩|⟨h1,h2,h3⟩
  ·rcases gX p' z' kG with⟨rfl,rfl⟩|⟨pG,G0,Kn⟩
   ·rfl
   rw[Mu.jN _ pG] at ig
   rw[Mu.cB] at cj;injection cj with cj;injection cj with cj _;subst cj
   exact absurd rfl (eK p' z' _ _ _ Kn ig G0)
  rw[Mu.jN _ h1] at cj
  rcases gX p' z' kG with⟨rfl,rfl⟩|⟨pG,G0,Kn⟩
  ·rw[Mu.cB] at ig;injection ig with ig;injection ig with ig _;subst ig
   exact absurd rfl (eK p z _ _ _ h3 cj h2)
  rw[Mu.jN _ pG] at ig
  exact r.inj p p' z z' b' a1 C1 a2 C2 wQ h3 Kn cj ig
 ·intro p z hz
  by_cases hp:p=h.next
  ·subst hp;simp
  rw[Mu.jN _ hp] at hz
  have:=r.pF p z hz
  simp;omega
 ·intro p z b' a1 C1 wQ hz cj off
  rcases gX p z hz with⟨rfl,rfl⟩|⟨h1,h2,h3⟩
  ·rw[Mu.cB] at cj;injection cj with cj;injection cj with cj _;subst cj;exact uG off
  rw[Mu.jN _ h1] at cj
  rw[Ak (hk b' (eK p z b' a1 C1 h3 cj h2))]
  exact r.eY p z b' a1 C1 wQ h3 cj off
 ·have:=r.bO;simp;omega
 ·intro b' qY
  rintro⟨p,z,a1,C1,wQ,hz,cj⟩
  rcases gX p z hz with⟨rfl,rfl⟩|⟨h1,h2,h3⟩
  ·rw[Mu.cB] at cj;injection cj with cj;injection cj with cj _;subst cj;exact⟨o,x,a,C,hl,hx,hm⟩
  rw[Mu.jN _ h1] at cj;exact⟨p,z,a1,C1,wQ,h3,cj⟩
 ·intro p hp
  rw[ah.jf,ah.Kd]
  have h1:p≠h.next:=by have:=r.bO;omega
  have h2:p≠o:=by omega
  simp only[h1,if_false]
  rw[ah.dJ _ _ _ _ aP]
  simp[h2]
 rw[ah.jf,ah.Kd,if_neg (by omega),ah.dJ _ _ _ _ aP]
 by_cases h1:p=o
 ·simp[h1]
 simpa[h1] using hn
theorem ZW {P:Program}{e:TypeId}{z:List Value}{i:TypeInfo}(hz:qZ P e=some z)(hi:P.info? e=some i):∃zv,i.zero=some zv∧zv.cells.toList=z∧lQ zv=true:=by
 unfold qZ at hz
 simp only[hi,Option.bind_some] at hz
 cases h0:i.zero with
 |none=>simp[h0] at hz
 |some v=>
  simp only[h0] at hz
  cases hs:lQ v with
  |false=>simp[hs] at hz
  |true=>simp[hs] at hz;exact⟨v,rfl,hz,hs⟩
theorem Si:az<dW:=by decide
theorem M3 (h:dW<az):False:=absurd h (by decide)
theorem ZX (h:¬0<az):False:=h (by decide)
theorem Sj (C:Nat):ie C az=C:=by unfold ie;rw[if_neg (Nat.lt_irrefl _),Nat.sub_self,Nat.sub_zero]
theorem ZY {P:Program}{lo:Nat}{U:Mu}{h:ah}{w:World}(r:Rel U lo h w){sT xT ty:TypeId}{s s' x x' v:Value}{h':ah}(hs:ak U s s')(hx:ak U x x')
  (ha:q8 P lo h sT xT s x=some (v,h')):eB P lo (Builtin.append_ #[sT,xT] ty #[s',x']) U h w v h':=by
 unfold q8 at ha
 split at ha
 ·rename_i e n q m ka ZZ hlen
  obtain⟨d0,n0⟩:=q
  obtain⟨hu,hn⟩:=vJ ka
  obtain⟨Ko,_⟩:=vJ ZZ
  obtain⟨hl,px,cx,ra⟩:=MY (P:=P) (w:=w) hx hlen
  split at ha
  ·rename_i z bytes xs hz hb s4
   cases hi:P.info? e with
   |none=>simp[hi] at hb
   |some i=>
   simp only[hi,Option.map_some,ax] at hb
   have dx:i.size=n:=by simpa[da,hi] using hn
   obtain⟨zv,Z1,Fw,B3⟩:=ZW hz hi
   cases B5:(Nat.beq z.length n&&Nat.blt 0 n&&xs.all (·.oneCell')) with
   |false=>rw[B5] at ha;simp at ha
   |true=>
   rw[B5] at ha
   simp only[Bool.not_true,bz] at ha
   simp only[bS] at B5
   obtain⟨⟨iC,gW⟩,ji⟩:=B5
   have iC:z.length=n:=by simpa using iC
   have gW:0<n:=by rw[Nat.blt_eq] at gW;exact gW
   obtain⟨bw,hf,fp,zl⟩:=Km (P:=P) r hx ra (Nat.le_refl _) s4
   have kI:(Builtin.firstCells i.size m x').run P w=.ok bw.toArray w:=by rw[dx];exact hf w (fun _=>rfl)
   have Z2:(Builtin.firstCells i.size m x').run P w.drew=.ok bw.toArray w.drew:=by rw[dx];exact hf w.drew (fun _=>rfl)
   have more:∀(base:Option Addr) (cw fV:Nat) (iK ku:List Value) (hh:ah),s'=.slice base cw fV→bA U iK ku→iK.length=cw*n→
     (Builtin.firstCells i.size cw (.slice base cw fV)).run P w.drew=.ok ku.toArray w.drew→fV<cw+m→cw+m≤17592186044416→(2*(cw+m)+192)*bytes≤281474976710656→
     Rel U lo hh w→Frame lo U h w U hh w→
     eB P lo (Builtin.append_ #[sT,xT] ty #[s',x']) U h w (.slice (some ⟨hh.next,0,none⟩) (cw+m) az) (hh.alloc (.cells n (iK++xs))):=by
    intro base cw fV iK ku hh Av ho Dk Aq gB Sf Sh rr ff
    subst Av
    have fm:=kX (P:=P) (w:=w) (sT:=sT) (xT:=xT) (ty:=ty) hu hi Z1 Ko hl Aq Z2 gB Sf (by rw[hb];exact Sh)
    generalize hC:grownCap w (cw+m) fV e=C at fm
    have G1:cw+m≤C:=by rw[← hC];exact grownCap_ge w (cw+m) fV e
    have Z3:zv.cells.size=n:=by rw[← iC,← Fw];simp
    have M4:bw.length=m*n:=by rw[← fp.1];exact zl
    have M5:ku.length=cw*n:=by rw[← ho.1];exact Dk
    have pJ:(ku.toArray++bw.toArray++Builtin.zeroCells zv.cells (C - (cw+m))).toList=ku++bw++db z (C - (cw+m)):=by
     have:=range_zero zv.cells (C - (cw+m))
     rw[Fw] at this
     simp only[Array.toList_append,Builtin.zeroCells,this]
    obtain⟨aS,h1,h2,h3⟩:=R6 rr.drew (ku.toArray++bw.toArray++Builtin.zeroCells zv.cells (C - (cw+m))) e n C (iK++xs)
     (fun j u hj=>by
      obtain⟨u',h1,h2⟩:=(ho.append fp).2 j u hj
      refine⟨u',?_,h2⟩
      rw[← Array.getElem?_toList,pJ,List.getElem?_append_left ?_]
      ·exact h1
      rcases Nat.lt_or_ge j (ku++bw).length with h|h
      ·exact h
      rw[List.getElem?_eq_none h] at h1;simp at h1)
     (fun _=>by
      have eJ:(ku.toArray++bw.toArray++Builtin.zeroCells zv.cells (C - (cw+m))).size=C*n:=by
       rw[← Array.length_toList,pJ]
       simp only[List.length_append,Ki,M5,M4,iC]
       rw[← Nat.add_mul,← Nat.add_mul]
       congr 1;omega
      refine⟨?_,by rw[eJ];exact Nat.le_refl _⟩
      simp only[List.length_append,Dk,zl]
      rw[← Nat.add_mul]
      exact Nat.mul_le_mul_right n G1)
    refine⟨_,_,aS,fm,?_,h2,ff.trans ((Frame.drew lo U hh w).trans h3)⟩
    have G2:ie C az=C:=Sj C
    have:=ak.slice hh.next 0 (cw+m) az w.heap.size 0 C h1 (by rw[G2];exact G1) Si
    rwa [G2] at this
   have idle:m=0→∀(base:Option Addr) (cw fV:Nat),s'=.slice base cw fV→cw≤fV→(Builtin.append_ #[sT,xT] ty #[s',x']).run P w=.ok s' w:=by
    intro hm base cw fV Av hle
    subst Av
    have vM:bw=[]:=by
     have:bw.length=0:=by rw[← fp.1,zl,hm];simp
     exact List.eq_nil_of_length_eq_zero this
    subst vM
    rw[eC (P:=P) (w:=w) (sT:=sT) (xT:=xT) (ty:=ty) hu hi Ko hl kI (by omega)]
    cases base<;>simp[storeCells,hm]
   have fits:∀(o off l k b a C so:Nat) (cs:List Value),s'=.slice (some ⟨b,a+off,none⟩) l (ie C k)→U o=some (b,a,C)→h.get o=some (.cells so cs)→lo≤o→off+(l+m)*n≤cs.length→l+m≤ie C k→k<dW→
     eB P lo (Builtin.append_ #[sT,xT] ty #[s',x']) U h w (.slice (some ⟨o,off,none⟩) (l+m) k) (h.put o (some (.cells so (fT cs (off+l*n) xs)))):=by
    intro o off l k b a C so cs Av hm ho cg uL gB dZ
    subst Av
    have wU:off+l*n+xs.length≤cs.length:=by rw[zl];rw[Nat.add_mul] at uL;omega
    obtain⟨h5,h6⟩:=Fj r ho cg hm (off+l*n) xs bw fp wU
    have cN:=Kg (P:=P) r ho cg hm (off+l*n) xs bw fp ji wU
    refine⟨.slice (some ⟨b,a+off,none⟩) (l+m) (ie C k),w.setCells b (a+(off+l*n)) bw,U,?_,?_,h5,h6⟩
    ·rw[eC (P:=P) (w:=w) (sT:=sT) (xT:=xT) (ty:=ty) hu hi Ko hl kI gB]
     simp only[uJ,dx]
     rw[show a+off+l*n=a+(off+l*n) by omega,cN,Result.andThen_ok]
    exact .slice o off (l+m) k b a C hm gB dZ
   split at ha
   · -- nil
    cases hs
    rcases kH m 0 with⟨hq,cm⟩|⟨hq,cm⟩
    ·rw[hq] at ha;simp only[aO,ax,bG] at ha;obtain⟨rfl,rfl⟩:=ha
     exact .same r (idle cm none 0 0 rfl (Nat.le_refl _)) .dY
    rw[hq] at ha;simp only[bz] at ha
    cases hc:(Nat.ble m 17592186044416&&Nat.ble ((2*m+192)*bytes) 281474976710656) with
    |false=>rw[hc] at ha;simp at ha
    |true=>
     rw[hc] at ha;simp only[aO,ax,bG] at ha;obtain⟨rfl,rfl⟩:=ha
     simp only[bS] at hc
     have e1:m≤17592186044416:=by simpa using hc.1
     have e2:(2*m+192)*bytes≤281474976710656:=by simpa using hc.2
     have:=more none 0 0 [] [] h rfl (bA.nil U) (by simp) (by simp[Builtin.firstCells]) (by omega) (by omega) (by simpa using e2) r (Frame.refl _ _ _ _)
     simpa using this
   ·rename_i o off l k
    rcases kH m 0 with⟨hq,cm⟩|⟨hq,cm⟩
    ·rw[hq] at ha;simp only[aO,ax,bG] at ha;obtain⟨rfl,rfl⟩:=ha
     have Aw:=hs
     cases hs with
     |slice _ _ _ _ b a C hm mq dZ=>exact .same r (idle cm _ _ _ rfl mq) Aw
     |bX p p' c=>exact .same r (idle cm _ _ _ rfl (Nat.zero_le _)) Aw
     |cp p p'=>exact .same r (idle cm _ _ _ rfl (Nat.zero_le _)) Aw
    rw[hq] at ha;simp only[bz] at ha
    cases hk:Nat.blt k az with
    |true=>
     rw[hk] at ha;simp only[aO] at ha
     have kc:k<az:=by rw[Nat.blt_eq] at hk;exact hk
     cases uL:Nat.ble (l+m) k with
     |true=>
      rw[uL] at ha;simp only[aO] at ha
      have B6:l+m≤k:=by simpa using uL
      split at ha
      ·rename_i so cs ho
       cases hc:(Nat.ble lo o&&Nat.ble (off+(l+m)*n) cs.length) with
       |false=>rw[hc] at ha;simp at ha
       |true=>
        rw[hc] at ha;simp only[aO,ax,bG] at ha;obtain⟨rfl,rfl⟩:=ha
        simp only[bS] at hc
        have e1:lo≤o:=by simpa using hc.1
        have e2:off+(l+m)*n≤cs.length:=by simpa using hc.2
        cases hs with
        |slice _ _ _ _ b a C hm mq dZ=>exact fits o off l k b a C so cs rfl hm ho e1 e2 (by rw[pH kc];exact B6) dZ
        |bX p p' c=>exact(M3 kc).elim
        |cp p p'=>omega
      simp at ha
     |false=>
      rw[uL] at ha;simp only[bz] at ha
      have B6:¬l+m≤k:=by intro hh;have:Nat.ble (l+m) k=true:=(by simpa using hh);rw[uL] at this;cases this
      split at ha
      ·rename_i iK gz
       cases hc:(Nat.ble (l+m) 17592186044416&&Nat.ble ((2*(l+m)+192)*bytes) 281474976710656) with
       |false=>rw[hc] at ha;simp at ha
       |true=>
        rw[hc] at ha;simp only[aO,ax,bG] at ha;obtain⟨rfl,rfl⟩:=ha
        simp only[bS] at hc
        have e1:l+m≤17592186044416:=by simpa using hc.1
        have e2:(2*(l+m)+192)*bytes≤281474976710656:=by simpa using hc.2
        have Aw:=hs
        cases hs with
        |slice _ _ _ _ b a C hm mq dZ=>
         rw[pH kc] at Aw
         obtain⟨s5,g1,g2,g3⟩:=Km (P:=P) r Aw rfl (Nat.le_refl _) gz
         rw[pH kc]
         have:=more (some ⟨b,a+off,none⟩) l k iK s5 h (by rw[pH kc]) g2 g3 (by rw[dx];exact g1 w.drew (fun _=>rfl)) (by omega) e1 e2 r (Frame.refl _ _ _ _)
         rwa [pH kc] at this
        |bX p p' c=>exact(M3 kc).elim
        |cp p p'=>
         obtain⟨s5,g1,g2,g3⟩:=Km (P:=P) r Aw rfl (Nat.le_refl _) gz
         exact more (some p') 0 0 iK s5 h rfl g2 g3 (by rw[dx];exact g1 w.drew (fun _=>rfl)) (by omega) e1 e2 r (Frame.refl _ _ _ _)
      simp at ha
    |false=>
     rw[hk] at ha;simp only[bz] at ha
     have kc:¬k<az:=by intro hh;rw[← Nat.blt_eq,hk] at hh;cases hh
     cases gh:Nat.blt k dW with
     |false=>rw[gh] at ha;simp at ha
     |true=>
     rw[gh] at ha;simp only[aO] at ha
     have Di:k<dW:=by rw[Nat.blt_eq] at gh;exact gh
     split at ha
     ·rename_i so cs ho
      cases hc:(Nat.ble lo o&&Nat.beq off ((k - az)*n)&&Nat.beq so n&&Nat.ble (l+m) 17592186044416&&Nat.ble ((2*(l+m)+192)*bytes) 281474976710656) with
      |false=>rw[hc] at ha;simp at ha
      |true=>
       rw[hc] at ha;simp only[Bool.not_true,bz] at ha
       simp only[bS] at hc
       obtain⟨⟨⟨⟨c1,c2⟩,c3⟩,c4⟩,c5⟩:=hc
       have c1:lo≤o:=by simpa using c1
       have c2:off=(k - az)*n:=by simpa using c2
       have c3:so=n:=by simpa using c3
       have c4:l+m≤17592186044416:=by simpa using c4
       have c5:(2*(l+m)+192)*bytes≤281474976710656:=by simpa using c5
       subst c3
       cases hs with
       |bX p p' c=>omega
       |cp p p'=>exact(ZX kc).elim
       |slice _ _ _ _ b a C hm mq dZ=>
        have rb:=oP r ho hm
        obtain⟨hblk,M6,uc⟩:=rb
        obtain⟨pK,jQ⟩:=uc gW
        have gB:ie C k=C - (k - az):=by simp[ie,kc]
        cases Dl:Nat.ble (off+(l+m)*so) cs.length with
        |true=>
         rw[Dl] at ha;simp only[aO,ax,bG] at ha;obtain⟨rfl,rfl⟩:=ha
         have e2:off+(l+m)*so≤cs.length:=by simpa using Dl
         refine fits o off l k b a C so cs rfl hm ho c1 e2 ?_ dZ
         rw[gB]
         have:(k - az+(l+m))*so≤C*so:=by rw[Nat.add_mul];omega
         have:=Nat.le_of_mul_le_mul_right this gW
         omega
        |false=>
         rw[Dl] at ha;simp only[bz] at ha
         cases Dm:Nat.ble (off+l*so) cs.length with
         |false=>rw[Dm] at ha;simp at ha
         |true=>
          rw[Dm] at ha;simp only[aO,ax,bG] at ha;obtain⟨rfl,rfl⟩:=ha
          have e2:off+l*so≤cs.length:=by simpa using Dm
          have aP:=ah.gx ho
          obtain⟨fr,ff⟩:=ZU r c1 aP
          obtain⟨s5,g1,g2,g3⟩:=Kf (oP r ho hm) off (l*so) e2
          have B7:=run_loadCells_list (P:=P) w.drew _ s5 (fun j v hj=>g3 j v hj)
          rw[g2] at B7
          by_cases Dn:l+m≤ie C k
          · -- in place, beyond what was known
           have Ax:off+l*so+bw.length≤C*so:=by
            rw[← fp.1,zl]
            have:(k - az+(l+m))*so≤C*so:=Nat.mul_le_mul_right so (by omega)
            rw[Nat.add_mul,Nat.add_mul] at this
            omega
           have kU:∀j,j<bw.length→(w.cell? ⟨b,a+off+l*so+j,none⟩).isSome=true:=fun j hj=>by
            obtain⟨v',h3⟩:=jQ (off+l*so+j) (by omega)
            rw[show a+off+l*so+j=a+(off+l*so+j) by omega,h3];rfl
           have cN:=run_storeCells_cells (P:=P) b (a+off+l*so) bw 0 w (by simpa using kU) (fun j hj=>r.eY o _ b a C c1 ho hm _) (Sa fp ji)
           simp only[Nat.add_zero] at cN
           have Ay:∀j,j<l*so→(w.setCells b (a+off+l*so) bw).cell? ⟨b,a+off+j,none⟩=w.cell? ⟨b,a+off+j,none⟩:=fun j hj=>
            World.cell?_setCells_out b bw _ w _ (fun _ _=>by simp;omega)
           obtain⟨aS,q1,q2,q3⟩:=ZV r ho c1 hm (.cells so ((cs.drop off).take (l*so)++xs)) (a+off) (C - (k - az)) (w':=w.setCells b (a+off+l*so) bw)
            (GP _ _ _ _) (fun b' qY=>MQ _ _ _ _ qY)
            (fun ν Az=>by
             refine⟨by rw[GP];exact hblk,fun j u hj=>?_,fun _=>⟨?_,fun j hj=>?_⟩⟩
             ·have G3:((cs.drop off).take (l*so)).length=l*so:=by simp;omega
              by_cases ec:j<l*so
              ·rw[List.getElem?_append_left (by omega)] at hj
               obtain⟨u',t1,t2⟩:=g1.2 j u hj
               refine⟨u',?_,t2.mono Az⟩
               rw[Ay j ec]
               have:=g3 j u' t1
               rwa [uJ] at this
              rw[List.getElem?_append_right (by omega),G3] at hj
              obtain⟨u',t1,t2⟩:=fp.2 _ u hj
              have Sk:j - l*so<bw.length:=by
               rcases Nat.lt_or_ge (j - l*so) bw.length with h|h
               ·exact h
               rw[List.getElem?_eq_none h] at t1;simp at t1
              refine⟨u',?_,t2.mono Az⟩
              have:=World.cell?_setCells_in b bw (a+off+l*so) w kU (j - l*so) Sk
              rw[show a+off+l*so+(j - l*so)=a+off+j by omega] at this
              rw[this]
              rw[List.getElem?_eq_getElem Sk] at t1
              exact t1
             ·simp only[List.length_append,List.length_take,List.length_drop,zl]
              rw[Nat.min_eq_left (by omega),← Nat.add_mul]
              exact Nat.mul_le_mul_right so (by omega)
             have Z4:off+j<C*so:=by
              rw[Nat.sub_mul] at hj;omega
             obtain⟨v',h3⟩:=jQ (off+j) Z4
             by_cases Z5:l*so≤j∧j<l*so+bw.length
             ·have:=World.cell?_setCells_in b bw (a+off+l*so) w kU (j - l*so) (by omega)
              rw[show a+off+l*so+(j - l*so)=a+off+j by omega] at this
              exact⟨_,this⟩
             refine⟨v',?_⟩
             rw[World.cell?_setCells_out b bw _ w _ (fun _ _=>by simp;omega)]
             rw[show a+off+j=a+(off+j) by omega]
             exact h3)
            (fun nQ=>by rw[World.frozen?_setCells];exact r.eY o _ b a C c1 ho hm nQ) (MS _ _ _ _)
           refine⟨.slice (some ⟨b,a+off,none⟩) (l+m) (ie C k),w.setCells b (a+off+l*so) bw,aS,?_,?_,q2,q3⟩
           ·rw[eC (P:=P) (w:=w) (sT:=sT) (xT:=xT) (ty:=ty) hu hi Ko hl kI Dn]
            simp only[uJ,dx]
            rw[cN,Result.andThen_ok]
           have G2:ie (C - (k - az)) az=C - (k - az):=Sj _
           have:=ak.slice h.next 0 (l+m) az b (a+off) (C - (k - az)) q1 (by rw[G2];omega) Si
           rw[G2] at this
           rw[gB]
           exact this
          have:=more (some ⟨b,a+off,none⟩) l (ie C k) ((cs.drop off).take (l*so)) s5 (h.put o none) rfl g1 (by simp;omega) (by simpa[Builtin.firstCells,dx] using B7) (by omega) c4 c5 fr ff
          simpa using this
     simp at ha
   simp at ha
  simp at ha
 simp at ha
theorem eB.mk {P:Program}{lo:Nat}{s:Sem Value}{U aS:Mu}{h h':ah}{w w':World}{v v':Value}(hr:s.run P w=.ok v' w')(hv:ak aS v v')(r:Rel aS lo h' w')(f:Frame lo U h w aS h' w') :
 eB P lo s U h w v h':=⟨v',w',aS,hr,hv,r,f⟩
def mr (n:Nat):Value:=.int .i64 n
def Fx (P:Program)(lo:Nat)(h:ah)(dT:TypeId)(d x:Value):Option (Value×ah):=
 match gO P dT,kr d,kr x with
 |some (_,n),some dl,some xl=>
  match qx h n x (Nat.min xl dl) with
  |some xs=>
   bif Nat.beq (Nat.min xl dl) 0 then some (mr 0,h) else
   match d with
   |.slice (some ⟨o,off,none⟩) _ _=>
    match h.get o with
    |some (.cells s cs)=>
     bif Nat.ble lo o&&Nat.ble (off+xs.length) cs.length&&xs.all (·.oneCell') then some (mr (Nat.min xl dl),h.put o (some (.cells s (fT cs off xs)))) else none
    |_=>none
   |_=>none
  |none=>none
 |_,_,_=>none
theorem Z6 {P:Program}{lo:Nat}{U:Mu}{h:ah}{w:World}(r:Rel U lo h w){dT xT ty:TypeId}{d d' x x' v:Value}{h':ah}(hd:ak U d d')(hx:ak U x x')
  (ha:Fx P lo h dT d x=some (v,h')):eB P lo (Builtin.copy_ #[dT,xT] ty #[d',x']) U h w v h':=by
 unfold Fx at ha
 split at ha
 ·rename_i e n dl xl ka AA zl
  obtain⟨hu,hn⟩:=vJ ka
  obtain⟨qy,px,cx,ra⟩:=MY (P:=P) (w:=w) hx zl
  obtain⟨_,pd,cd,AB⟩:=MY (P:=P) (w:=w) hd AA
  split at ha
  ·rename_i xs s4
   obtain⟨bw,hf,fp,hlen⟩:=Km (P:=P) r hx ra (Nat.min_le_left _ _) s4
   have kI:(Builtin.firstCells n (Nat.min xl dl) x').run P w=.ok bw.toArray w:=hf w (fun _=>rfl)
   have hlen:xs.length=Nat.min xl dl*n:=hlen
   have hmm:min xl dl=Nat.min xl dl:=rfl
   rcases kH (Nat.min xl dl) 0 with⟨hq,cm⟩|⟨hq,cm⟩
   ·rw[hq] at ha;simp only[aO,ax,bG] at ha;obtain⟨rfl,rfl⟩:=ha
    have vM:bw=[]:=by
     have:bw.length=0:=by rw[← fp.1,hlen,cm];simp
     exact List.eq_nil_of_length_eq_zero this
    subst vM
    rw[cm] at kI
    refine .same r (v':=.int .i64 0) ?_ (.int _ _)
    subst AB
    cases pd<;>simp[Builtin.copy_,run_underlying hu,qy,nR hn,cm,kI,storeCells,goInt]
   rw[hq] at ha;simp only[bz] at ha
   split at ha
   ·rename_i o off l0 k0
    split at ha
    ·rename_i so cs ho
     cases hc:(Nat.ble lo o&&Nat.ble (off+xs.length) cs.length&&xs.all (·.oneCell')) with
     |false=>rw[hc] at ha;simp at ha
     |true=>
      rw[hc] at ha;simp only[aO,ax,bG] at ha;obtain⟨rfl,rfl⟩:=ha
      simp only[bS] at hc
      obtain⟨⟨c1,c2⟩,c3⟩:=hc
      have c1:lo≤o:=by simpa using c1
      have c2:off+xs.length≤cs.length:=by simpa using c2
      simp only[kr,ax] at AA
      subst AA
      cases hd with
      |slice _ _ _ _ b a C hm hl dZ=>
       obtain⟨h5,h6⟩:=Fj r ho c1 hm off xs bw fp c2
       have cN:=Kg (P:=P) r ho c1 hm off xs bw fp c3 c2
       refine .mk (v':=.int .i64 (Nat.min xl l0)) (w':=w.setCells b (a+off) bw) ?_ (.int _ _) h5 h6
       simp[Builtin.copy_,run_underlying hu,qy,nR hn,kI,cN,goInt]
      |bX=>exact(cm (by simp)).elim
      |cp=>exact(cm (by simp)).elim
    simp at ha
   simp at ha
  simp at ha
 simp at ha
def nB (P:Program)(h:ah)(t:TypeId)(x:Value):Option Value:=
 match P.underlying t,x with
 |some .string,.string s=>some (mr s.size)
 |some (.slice _),.slice _ n _=>some (mr n)
 |some (.array n _),_=>some (mr n)
 |some (.map _ _),.map none=>some (mr 0)
 |some (.map _ _),.map (some o)=>match h.get o with
  |some (.map es)=>some (mr es.length)
  |_=>none
 |_,_=>none
theorem Z7 {P:Program}{lo:Nat}{U:Mu}{h:ah}{w:World}(r:Rel U lo h w){t ty:TypeId}{x x' v:Value}(hx:ak U x x')(ha:nB P h t x=some v) :
  eB P lo (Builtin.len_ #[t] ty #[x']) U h w v h:=by
 unfold nB at ha
 split at ha
 ·rename_i hu;simp only[ax] at ha;subst ha;cases hx
  exact .same r (by simp[Builtin.len_,run_underlying hu];rfl) (.int _ _)
 ·rename_i hu;simp only[ax] at ha;subst ha
  cases hx<;>exact .same r (by simp[Builtin.len_,run_underlying hu];rfl) (.int _ _)
 ·rename_i hu;simp only[ax] at ha;subst ha
  exact .same r (by simp[Builtin.len_,run_underlying hu];rfl) (.int _ _)
 ·rename_i hu;simp only[ax] at ha;subst ha;cases hx
  exact .same r (by simp[Builtin.len_,run_underlying hu];rfl) (.int _ _)
 ·rename_i hu
  split at ha
  ·rename_i es ho
   simp only[ax] at ha;subst ha
   cases hx with
   |map o b C hm=>
    obtain⟨_,entries,clock,h1,l,h2,h3,h4,_⟩:=oP r ho hm
    have hl:entries.size=es.length:=by rw[← h4];exact h2.length_eq
    refine .same r (v':=.int .i64 es.length) ?_ (.int _ _)
    simp[Builtin.len_,run_underlying hu,getObj,Sem.run,h1,hl,goInt]
  simp at ha
 simp at ha
def AD (P:Program)(t:TypeId)(x:Value):Option Value:=
 match P.underlying t,x with
 |some (.slice _),.slice _ _ k=>bif Nat.blt k az then some (mr k) else none
 |_,_=>none
theorem Z8 {P:Program}{U:Mu}{w:World}{t ty:TypeId}{x x' v:Value}(hx:ak U x x')(ha:AD P t x=some v):∃v',(Builtin.cap_ #[t] ty #[x']).run P w=.ok v' w∧ak U v v':=by
 unfold AD at ha
 split at ha
 ·rename_i e p l k hu
  cases hk:Nat.blt k az with
  |false=>rw[hk] at ha;simp at ha
  |true=>
   rw[hk] at ha;simp only[aO,ax] at ha;subst ha
   have kc:k<az:=by rw[Nat.blt_eq] at hk;exact hk
   cases hx with
   |dY=>exact⟨_,by simp[Builtin.cap_,run_underlying hu];rfl,.int _ _⟩
   |slice _ _ _ _ b a C hm hl dZ=>exact⟨_,by simp[Builtin.cap_,run_underlying hu,pH kc];rfl,.int _ _⟩
   |bX=>exact(M3 kc).elim
   |cp=>exact⟨_,by simp[Builtin.cap_,run_underlying hu];rfl,.int _ _⟩
 simp at ha
def zm (P:Program)(lo:Nat)(h:ah)(t:TypeId)(x:Value):Option ah:=
 match gO P t,x with
 |some _,.slice none _ _=>some h
 |some _,.slice (some _) 0 _=>some h
 |some (e,n),.slice (some ⟨o,off,none⟩) l _=>
  match qZ P e,h.get o with
  |some z,some (.cells s cs)=>
   bif Nat.ble lo o&&Nat.beq z.length n&&Nat.ble (off+l*n) cs.length&&z.all (·.oneCell') then some (h.put o (some (.cells s (fT cs off (db z l))))) else none
  |_,_=>none
 |_,_=>none
theorem Sm {z:List Value}(h:z.all (·.oneCell')=true):∀n,(db z n).all (·.oneCell')=true
 |0=>rfl
 |n+1=>by rw[db,List.all_append,h,Sm h n];rfl
theorem Sn {P:Program}{t:TypeId}{q:TypeId×Nat}(h:gO P t=some q):P.underlying t=some (.slice q.1):=(vJ (e:=q.1) (n:=q.2) h).1
theorem Z9 {P:Program}{lo:Nat}{U:Mu}{h:ah}{w:World}(r:Rel U lo h w){t ty:TypeId}{x x':Value}{h':ah}(hx:ak U x x')(ha:zm P lo h t x=some h') :
  eB P lo (Builtin.clear_ #[t] ty #[x']) U h w Go.undef h':=by
 unfold zm at ha
 split at ha
 ·rename_i ka
  have hu:=Sn ka
  simp only[ax] at ha;subst ha
  cases hx
  exact .same r (v':=Go.undef) (by simp[Builtin.clear_,run_underlying hu,Go.undef]) .undef
 ·rename_i ka
  have hu:=Sn ka
  simp only[ax] at ha;subst ha
  cases hx<;>exact .same r (v':=Go.undef) (by simp[Builtin.clear_,run_underlying hu,Go.undef]) .undef
 ·rename_i e n o off l k cY ka
  obtain⟨hu,hn⟩:=vJ ka
  split at ha
  ·rename_i z s cs hz ho
   cases hc:(Nat.ble lo o&&Nat.beq z.length n&&Nat.ble (off+l*n) cs.length&&z.all (·.oneCell')) with
   |false=>rw[hc] at ha;simp at ha
   |true=>
    rw[hc] at ha;simp only[aO,ax] at ha;subst ha
    simp only[bS] at hc
    obtain⟨⟨⟨c1,c2⟩,c3⟩,c4⟩:=hc
    have c1:lo≤o:=by simpa using c1
    have c2:z.length=n:=by simpa using c2
    have c3:off+l*n≤cs.length:=by simpa using c3
    obtain⟨zv,h1,h2,h3⟩:=An hz w
    have lR:l≠0:=fun h=>cY h
    cases hx with
    |slice _ _ _ _ b a C hm hl dZ=>
     have uM:bA U (db z l) (db z l):=Fq (h2▸C8 h3) l
     have hlen:off+(db z l).length≤cs.length:=by rw[Ki,c2];exact c3
     obtain⟨h5,h6⟩:=Fj r ho c1 hm off _ _ uM hlen
     have cN:=Kg (P:=P) r ho c1 hm off _ _ uM (Sm c4 l) hlen
     have Kq:(Builtin.zeroCells zv.cells l).toList=db z l:=by
      have:=range_zero zv.cells l
      rw[h2] at this;exact this
     refine .mk (v':=Go.undef) (w':=w.setCells b (a+off) (db z l)) ?_ .undef h5 h6
     cases l with
     |zero=>exact(lR rfl).elim
     |succ l=>simp[Builtin.clear_,run_underlying hu,h1,Kq,cN,Go.undef]
    |bX=>exact(lR rfl).elim
    |cp=>exact(lR rfl).elim
  simp at ha
 simp at ha
def oR (mx:Bool):Value→Value→Option Value
 |.int k x,.int _ y=>some (.int k (bif mx then (if y > x then y else x) else (if y<x then y else x)))
 |_,_=>none
def jF (mx:Bool):Value→List Value→Option Value
 |x,[]=>some x
 |x,y::r=>match oR mx x y with
  |some z=>jF mx z r
  |none=>none
theorem Sp {P:Program}{U:Mu}{w:World}:∀ {r r':List Value} {x x' v:Value},ak U x x'→bA U r r'→jF true x r=some v→∃v',(r'.foldlM Builtin.max2 x').run P w=.ok v' w∧ak U v v'
 |[],r',x,x',v,hx,hr,h=>by
  have:=hr.jM;subst this
  simp only[jF,ax] at h;subst h
  exact⟨x',rfl,hx⟩
 |y::r,r',x,x',v,hx,hr,h=>by
  obtain⟨y',r2,rfl,hy,jQ⟩:=hr.dE
  simp only[jF] at h
  split at h
  ·rename_i z hz
   unfold oR at hz
   split at hz
   ·cases hx;cases hy
    simp only[aO,ax] at hz;subst hz
    obtain⟨v',h1,h2⟩:=Sp (P:=P) (w:=w) (ak.int _ _) jQ h
    exact⟨v',by simp only[List.foldlM_cons,Sem.run_bind,Builtin.max2,Sem.run_pure,Result.andThen_ok];exact h1,h2⟩
   simp at hz
  simp at h
theorem Sq {P:Program}{U:Mu}{w:World}:∀ {r r':List Value} {x x' v:Value},ak U x x'→bA U r r'→jF false x r=some v→∃v',(r'.foldlM Builtin.min2 x').run P w=.ok v' w∧ak U v v'
 |[],r',x,x',v,hx,hr,h=>by
  have:=hr.jM;subst this
  simp only[jF,ax] at h;subst h
  exact⟨x',rfl,hx⟩
 |y::r,r',x,x',v,hx,hr,h=>by
  obtain⟨y',r2,rfl,hy,jQ⟩:=hr.dE
  simp only[jF] at h
  split at h
  ·rename_i z hz
   unfold oR at hz
   split at hz
   ·cases hx;cases hy
    simp only[bz,ax] at hz;subst hz
    obtain⟨v',h1,h2⟩:=Sq (P:=P) (w:=w) (ak.int _ _) jQ h
    exact⟨v',by simp only[List.foldlM_cons,Sem.run_bind,Builtin.min2,Sem.run_pure,Result.andThen_ok];exact h1,h2⟩
   simp at hz
  simp at h
def wV (kd:IntKind)(n:Int):List (Value×Value)→Option (Option Value)
 |[]=>some none
 |(.int k a,v)::r=>
  bif decide (k=kd) then
   match wV kd n r with
   |none=>none
   |some q=>some (bif decide (a=n) then some v else q)
  else none
 |_=>none
theorem Kr {kd:IntKind}{n:Int}:∀ {es:List (Value×Value)} {q:Option Value},wV kd n es=some q→
  (∀p∈es,∃a,p.1=.int kd a)∧(∀v,q=some v→(Value.int kd n,v)∈es)∧(q=none→∀p∈es,p.1≠.int kd n)
 |[],q,h=>by simp only[wV,ax] at h;subst h;exact⟨by simp,by simp,by simp⟩
 |(k,v)::r,q,h=>by
  unfold wV at h
  split at h
  ·rename_i heq;cases heq
  ·rename_i k a v' r' heq
   simp only[List.cons.injEq,bG] at heq
   obtain⟨⟨rfl,rfl⟩,rfl⟩:=heq
   cases hk:decide (k=kd) with
   |false=>rw[hk] at h;simp at h
   |true=>
    rw[hk] at h;simp only[aO] at h
    have kc:k=kd:=by simpa using hk
    subst kc
    split at h
    ·simp at h
    rename_i q' cm
    obtain⟨i1,i2,i3⟩:=Kr cm
    simp only[ax] at h;subst h
    refine⟨?_,?_,?_⟩
    ·intro p hp
     cases List.mem_cons.1 hp with
     |inl e=>subst e;exact⟨a,rfl⟩
     |inr e=>exact i1 p e
    ·intro u hu
     cases ha:decide (a=n) with
     |true=>rw[ha] at hu;simp at hu ha;subst hu ha;simp
     |false=>rw[ha] at hu;simp only[bz] at hu;exact List.mem_cons_of_mem _ (i2 u hu)
    intro hn p hp
    cases ha:decide (a=n) with
    |true=>rw[ha] at hn;simp at hn
    |false=>
     rw[ha] at hn;simp only[bz] at hn
     have M7:a≠n:=by simpa using ha
     cases List.mem_cons.1 hp with
     |inl e=>subst e;simpa using M7
     |inr e=>exact i3 hn p e
  simp at h
theorem findNow_spec {k0 kd:IntKind}{n:Int}:∀(L:List MapEntry) (i:Nat),(∀e∈L,∃a,e.key=.int kd a)→
  (∃j e,L[j]?=some e∧e.key=.int kd n∧Instr.findNow (.int k0) (.int kd n) L i=some (some (i+j,e.val)))∨((∀e∈L,e.key≠.int kd n)∧Instr.findNow (.int k0) (.int kd n) L i=some none)
 |[],i,_=>.inr ⟨by simp,rfl⟩
 |e::L,i,h=>by
  obtain⟨a,ha⟩:=h e (by simp)
  simp only[Instr.findNow,ha,Instr.sameNow,if_true]
  by_cases hn:n=a
  ·subst hn
   simp only[beq_self_eq_true]
   exact .inl ⟨0,e,by simp,ha,by simp⟩
  have:(n==a)=false:=by simpa using hn
  simp only[this]
  rcases findNow_spec (k0:=k0) (kd:=kd) (n:=n) L (i+1) (fun e he=>h e (List.mem_cons_of_mem _ he)) with⟨j,e',h1,h2,h3⟩|⟨h1,h2⟩
  ·exact .inl ⟨j+1,e',by simpa using h1,h2,by rw[h3];simp;omega⟩
  refine .inr ⟨fun e' dj=>?_,h2⟩
  cases List.mem_cons.1 dj with
  |inl M8=>subst M8;rw[ha];simp;exact fun h=>hn h.symm
  |inr M8=>exact h1 e' M8
def mK (P:Program)(t:TypeId):Option (TypeId×TypeId):=
 match P.underlying t with
 |some (.map k e)=>match P.underlying k with
  |some (.int _)=>some (k,e)
  |_=>none
 |_=>none
theorem M9 {P:Program}{t k e:TypeId}(h:mK P t=some (k,e)):P.underlying t=some (.map k e)∧∃k0,P.underlying k=some (.int k0):=by
 unfold mK at h
 split at h
 ·rename_i k' e' hu
  split at h
  ·rename_i k0 hk
   simp only[ax,bG] at h
   obtain⟨rfl,rfl⟩:=h
   exact⟨hu,k0,hk⟩
  simp at h
 simp at h
theorem Ks {α:Type}{l:List α}(h:l.Nodup){i j:Nat}(hi:i<l.length)(hj:j<l.length)(he:l[i]=l[j]):i=j:=by
 rcases Nat.lt_trichotomy i j with h1|h1|h1
 ·exact absurd he (List.pairwise_iff_getElem.1 h i j hi hj h1)
 ·exact h1
 exact absurd he.symm (List.pairwise_iff_getElem.1 h j i hj hi h1)
theorem G4 {P:Program}{w:World}{U:Mu}{es:List (Value×Value)}{entries:Array MapEntry}{clock:Nat}(hM:gU U es entries clock){kT:TypeId}{k0 kd:IntKind}{n:Int}{q:Option Value}(hk:P.underlying kT=some (.int k0))(hq:wV kd n es=some q) :
  (∃v j e,q=some v∧entries[j]?=some e∧e.key=.int kd n∧ak U v e.val∧(Instr.findKey kT (.int kd n) entries.toList).run P w=.ok (some (j,e.val)) w)∨
  (q=none∧(∀e∈entries.toList,e.key≠.int kd n)∧(Instr.findKey kT (.int kd n) entries.toList).run P w=.ok none w):=by
 obtain⟨l,h1,h0,h2,h3,h4,h5⟩:=hM
 obtain⟨i1,i2,i3⟩:=Kr hq
 have bs:∀e∈entries.toList,∃p∈es,C4 U p e:=fun e he=>by
  obtain⟨j,hj⟩:=List.getElem?_of_mem he
  have mn:entries[j]?=some e:=by simpa using hj
  have ec:j<l.length:=by
   rw[h2]
   rcases Nat.lt_or_ge j entries.size with h|h
   ·exact h
   rw[Array.getElem?_eq_none h] at mn;simp at mn
  exact⟨l[j],h1.mem_iff.1 (List.getElem_mem ec),h3 j l[j] e (by simp[ec]) mn⟩
 have mL:∀e∈entries.toList,∃a,e.key=.int kd a:=fun e he=>by
  obtain⟨p,hp,hr⟩:=bs e he
  obtain⟨a,ha⟩:=i1 p hp
  exact⟨a,by rw[hr.1,ha]⟩
 rcases findNow_spec (k0:=k0) (n:=n) entries.toList 0 mL with⟨j,e,g1,g2,g3⟩|⟨g1,g2⟩
 ·have he:e∈entries.toList:=List.mem_of_getElem? g1
  have AE:entries[j]?=some e:=by simpa using g1
  have ec:j<l.length:=by
   rw[h2]
   rcases Nat.lt_or_ge j entries.size with h|h
   ·exact h
   rw[Array.getElem?_eq_none h] at AE;simp at AE
  have hr:=h3 j l[j] e (by simp[ec]) AE
  have mM:l[j]∈es:=h1.mem_iff.1 (List.getElem_mem ec)
  cases q with
  |none=>exact absurd (hr.1▸g2) (i3 rfl _ mM)
  |some v=>
   have hv:=i2 v rfl
   have wT:(Value.int kd n,v)∈l:=h1.mem_iff.2 hv
   have:l[j]=(Value.int kd n,v):=by
    obtain⟨j2,Dq,pL⟩:=List.getElem_of_mem wT
    have nC:(l.map (·.1))[j]'(by simpa using ec)=(l.map (·.1))[j2]'(by simpa using Dq):=by
     simp only[List.getElem_map,pL]
     rw[← hr.1,g2]
    have G5:j=j2:=Ks h0 _ _ nC
    subst G5
    exact pL
   refine .inl ⟨v,j,e,rfl,AE,g2,?_,?_⟩
   ·have:=hr.2;rwa [‹l[j]=_›] at this
   simp only[Instr.findKey,Sem.run_bind,run_underlying hk,Result.andThen_ok,g3,Sem.run_pure,Nat.zero_add]
 refine .inr ⟨?_,g1,?_⟩
 ·cases q with
  |none=>rfl
  |some v=>
   have hv:=i2 v rfl
   have wT:(Value.int kd n,v)∈l:=h1.mem_iff.2 hv
   obtain⟨j2,Dq,pL⟩:=List.getElem_of_mem wT
   have ue:j2<entries.size:=by omega
   have:=h3 j2 l[j2] entries[j2] (by simp[Dq]) (by simp[ue])
   rw[pL] at this
   exact absurd this.1 (g1 _ (by simp))
 simp only[Instr.findKey,Sem.run_bind,run_underlying hk,Result.andThen_ok,g2,Sem.run_pure]
def eu (P:Program)(t:TypeId):Option Value:=
 match (P.info? t).bind (·.zero) with
 |some v=>bif lQ v then some v else none
 |none=>none
theorem Sr {P:Program}{t:TypeId}{z:Value}(h:eu P t=some z)(w:World):(zeroValue t).run P w=.ok z w∧lQ z=true:=by
 unfold eu at h
 cases hi:P.info? t with
 |none=>simp[hi] at h
 |some i=>
  simp only[hi,Option.bind_some] at h
  cases hz:i.zero with
  |none=>simp[hz] at h
  |some v=>
   simp only[hz] at h
   cases hs:lQ v with
   |false=>simp[hs] at h
   |true=>simp[hs] at h;subst h;exact⟨by simp[zeroValue,typeInfo,hi,hz],hs⟩
theorem run_checkKey {P:Program}{w:World}{kT:TypeId}{k0 kd:IntKind}{n:Int}(hk:P.underlying kT=some (.int k0))(b:Bool):(Instr.checkKey b 10000 kT (.int kd n)).run P w=.ok () w:=by
 have:∀d,(Instr.checkKey b (d+1) kT (.int kd n)).run P w=.ok () w:=fun d=>by
  simp only[Instr.checkKey,Sem.run_bind,run_underlying hk,Result.andThen_ok,Sem.run_pure]
 exact this 9999
def vN (P:Program)(h:ah)(t:TypeId)(m k:Value)(ok:Bool):Option Value:=
 match mK P t,k with
 |some (_,e),.int kd n=>
  match eu P e with
  |some z=>
   let r:Option (Option Value):=match m with
    |.map none=>some none
    |.map (some o)=>match h.get o with
     |some (.map es)=>wV kd n es
     |_=>none
    |_=>none
   match r with
   |some (some v)=>some (bif ok then .tuple #[v,.bool true] else v)
   |some none=>some (bif ok then .tuple #[z,.bool false] else z)
   |none=>none
  |none=>none
 |_,_=>none
theorem ak.pair {U:Mu}{a b a' b':Value}(ha:ak U a a')(hb:ak U b b'):ak U (.tuple #[a,b]) (.tuple #[a',b']):=by
 have:=ak.sW (bA.cons ha (bA.cons hb (bA.nil U)))
 simpa using this
theorem zwy {P:Program}{lo:Nat}{U:Mu}{h:ah}{w:World}(r:Rel U lo h w){t:TypeId}{m m' k k' v:Value}{ok:Bool}(hm:ak U m m')(hk:ak U k k')(ha:vN P h t m k ok=some v) :
  eB P lo (Instr.lookup t m' k' ok) U h w v h:=by
 unfold vN at ha
 split at ha
 ·rename_i kT e kd n ka
  obtain⟨hu,k0,dZ⟩:=M9 ka
  cases hk
  split at ha
  ·rename_i z hz
   obtain⟨lT,uf⟩:=Sr hz w
   have AF:ak U z z:=.Al uf
   simp only at ha
   split at ha
   ·rename_i v0 hr
    simp only[ax] at ha;subst ha
    split at hr
    ·simp at hr
    ·rename_i o
     split at hr
     ·rename_i es ho
      cases hm with
      |map _ b C lU=>
       obtain⟨_,entries,clock,h1,hM⟩:=oP r ho lU
       rcases G4 (P:=P) (w:=w) hM dZ hr with⟨v1,j,e1,g1,g2,g3,g4,g5⟩|⟨g1,_⟩
       ·simp only[ax] at g1;subst g1
        cases ok with
        |true=>exact .same r (by simp[Instr.lookup,run_underlying hu,getObj,Sem.run,h1,run_checkKey dZ,g5]) (.pair g4 (.bool true))
        |false=>exact .same r (by simp[Instr.lookup,run_underlying hu,getObj,Sem.run,h1,run_checkKey dZ,g5]) g4
       cases g1
     simp at hr
    simp at hr
   ·rename_i hr
    simp only[ax] at ha;subst ha
    split at hr
    ·cases hm
     cases ok with
     |true=>exact .same r (by simp[Instr.lookup,run_underlying hu,run_checkKey dZ,Instr.findKey,run_underlying dZ,Instr.findNow,lT]) (.pair AF (.bool false))
     |false=>exact .same r (by simp[Instr.lookup,run_underlying hu,run_checkKey dZ,Instr.findKey,run_underlying dZ,Instr.findNow,lT]) AF
    ·rename_i o
     split at hr
     ·rename_i es ho
      cases hm with
      |map _ b C lU=>
       obtain⟨_,entries,clock,h1,hM⟩:=oP r ho lU
       rcases G4 (P:=P) (w:=w) hM dZ hr with⟨v1,j,e1,g1,_⟩|⟨_,_,g5⟩
       ·cases g1
       cases ok with
       |true=>exact .same r (by simp[Instr.lookup,run_underlying hu,getObj,Sem.run,h1,run_checkKey dZ,g5,lT]) (.pair AF (.bool false))
       |false=>exact .same r (by simp[Instr.lookup,run_underlying hu,getObj,Sem.run,h1,run_checkKey dZ,g5,lT]) AF
     simp at hr
    simp at hr
   simp at ha
  simp at ha
 simp at ha
def jR (n:Int)(v:Value)(p:Value×Value):Value×Value:=
 match p with
 |(.int k a,u)=>bif decide (a=n) then (.int k a,v) else (.int k a,u)
 |p=>p
def re (n:Int)(p:Value×Value):Bool:=
 match p.1 with
 |.int _ a=>!decide (a=n)
 |_=>true
def Dr (P:Program)(lo:Nat)(h:ah)(t:TypeId)(m k v:Value):Option ah:=
 match mK P t,m,k with
 |some _,.map (some o),.int kd n=>
  match h.get o with
  |some (.map es)=>
   bif Nat.ble lo o then
    match wV kd n es with
    |some (some _)=>some (h.put o (some (.map (es.map (jR n v)))))
    |some none=>some (h.put o (some (.map (es++[(.int kd n,v)]))))
    |none=>none
   else none
  |_=>none
 |_,_,_=>none
theorem Ss (d:Nat)(k:IntKind)(n:Int):Instr.sameBits d (.int k n) (.int k n)=true:=by
 cases d<;>simp[Instr.sameBits]
theorem B8 {P:Program}{w:World}{b:Nat}{entries fG:Array MapEntry}{clock jS:Nat}(h:w.heap[b]?=some (.map entries clock)) :
  (setObj b (.map fG jS)).run P w=.ok () { w with heap:=w.heap.setIfInBounds b (.map fG jS) }:=by
 simp[setObj,Sem.run,h]
theorem B9 {U:Mu}{lo:Nat}{h:ah}{w:World}(r:Rel U lo h w){o:Nat}{es br:List (Value×Value)}(hx:h.get o=some (.map es))(hl:lo≤o){b C:Nat}(hm:U o=some (b,0,C))
  {entries fG:Array MapEntry} {clock jS:Nat} (hb:w.heap[b]?=some (.map entries clock)) (hM:gU U br fG jS) :
  Rel U lo (h.put o (some (.map br))) { w with heap:=w.heap.setIfInBounds b (.map fG jS) }∧Frame lo U h w U (h.put o (some (.map br))) { w with heap:=w.heap.setIfInBounds b (.map fG jS) }:=by
 have aP:b<w.heap.size:=by
  rcases Nat.lt_or_ge b w.heap.size with h'|h'
  ·exact h'
  simp[Array.getElem?_eq_none h'] at hb
 refine MP r hx hl hm (.map br) (by simp) (fun b' qY=>?_) ⟨rfl,fG,jS,by simp[aP],hM⟩ (fun off=>?_) ⟨rfl,rfl,rfl,fun _=>by first|exact Nat.le_refl _|exact Nat.le_add_right _ _|exact Nat.le_succ _⟩
 ·have:b≠b':=fun h=>qY h.symm
  simp[this]
 simp[World.frozen?,aP]
theorem zqj {P:Program}{lo:Nat}{U:Mu}{h:ah}{w:World}(r:Rel U lo h w){t:TypeId}{m m' k k' v v':Value}{h':ah}(hm:ak U m m')(hk:ak U k k')(hv:ak U v v')
  (ha:Dr P lo h t m k v=some h'):∃w',(Instr.mapUpdate t m' k' v').run P w=.ok () w'∧Rel U lo h' w'∧Frame lo U h w U h' w':=by
 unfold Dr at ha
 split at ha
 ·rename_i q o kd n ka
  obtain⟨kT,e⟩:=q
  obtain⟨hu,k0,dZ⟩:=M9 ka
  cases hk
  split at ha
  ·rename_i es ho
   cases cg:Nat.ble lo o with
   |false=>rw[cg] at ha;simp at ha
   |true=>
   rw[cg] at ha;simp only[aO] at ha
   have kY:lo≤o:=by simpa using cg
   cases hm with
   |map _ b C lU=>
    obtain⟨_,entries,clock,h1,hM⟩:=oP r ho lU
    split at ha
    ·rename_i v0 hq
     simp only[ax] at ha;subst ha
     rcases G4 (P:=P) (w:=w) hM dZ hq with⟨v1,j,e1,g1,g2,g3,g4,g5⟩|⟨g1,_⟩
     ·have qz:gU U (es.map (jR n v)) (entries.modify j fun e=>{ e with key:=.int kd n,val:=v' }) clock:=by
       obtain⟨l,p1,p0,p2,p3,p4,p5⟩:=hM
       obtain⟨i1,_,_⟩:=Kr hq
       have mL:∀p∈l,∃a,p.1=.int kd a:=fun p hp=>i1 p (p1.mem_iff.1 hp)
       have ec:j<l.length:=by
        rw[p2]
        rcases Nat.lt_or_ge j entries.size with h|h
        ·exact h
        rw[Array.getElem?_eq_none h] at g2;simp at g2
       have Ds:∀p,(jR n v p).1=p.1:=by
        intro p;unfold jR;split
        ·rename_i k1 a1 u1;cases decide (a1=n)<;>rfl
        rfl
       refine⟨l.map (jR n v),p1.map _,?_,by simp[p2],?_,?_,?_⟩
       ·rw[List.map_map]
        have:((fun x:Value×Value=>x.1)∘jR n v)=(fun x=>x.1):=funext Ds
        rw[this];exact p0
       ·intro i p e' hp dj
        rw[List.getElem?_map] at hp
        cases kv:l[i]? with
        |none=>rw[kv] at hp;simp at hp
        |some p'=>
         rw[kv] at hp;simp only[Option.map_some,ax] at hp;subst hp
         rw[Array.getElem?_modify] at dj
         by_cases fH:j=i
         ·subst fH
          simp only[if_true,g2,Option.map_some,ax] at dj;subst dj
          have hr:=p3 j p' e1 kv g2
          have su:p'.1=.int kd n:=by rw[← hr.1,g3]
          obtain⟨pk,pv⟩:=p'
          simp only at su;subst su
          refine⟨?_,?_⟩
          ·simp[jR]
          simpa[jR] using hv
         simp only[fH,if_false] at dj
         have hr:=p3 i p' e' kv dj
         obtain⟨a,ha⟩:=mL p' (List.mem_of_getElem? kv)
         have cY:a≠n:=by
          intro hh;subst hh
          have dy:i<l.length:=by
           rcases Nat.lt_or_ge i l.length with h|h
           ·exact h
           rw[List.getElem?_eq_none h] at kv;simp at kv
          have e2:l[j].1=.int kd a:=by
           have:=p3 j l[j] e1 (by simp[ec]) g2
           rw[← this.1,g3]
          have e3:l[i].1=.int kd a:=by
           rw[List.getElem?_eq_getElem dy] at kv;injection kv with kv;rw[kv,ha]
          exact fH (Ks p0 (i:=j) (j:=i) (by simpa using ec) (by simpa using dy) (by simp[e2,e3]))
         obtain⟨pk,pv⟩:=p'
         simp only at ha;subst ha
         have hd:decide (a=n)=false:=by simpa using cY
         have:jR n v (Value.int kd a,pv)=(Value.int kd a,pv):=by simp[jR,hd]
         rw[this];exact hr
       ·have:((entries.modify j fun e=>{ e with key:=.int kd n,val:=v' }).toList.map (·.born))=entries.toList.map (·.born):=by
         apply List.ext_getElem?
         intro i
         simp only[List.getElem?_map,Array.getElem?_toList,Array.getElem?_modify]
         by_cases fH:j=i
         ·simp[fH]
          cases entries[i]?<;>rfl
         simp[fH]
        rw[this];exact p4
       intro e' dj
       obtain⟨i,hi⟩:=List.getElem?_of_mem dj
       rw[Array.getElem?_toList,Array.getElem?_modify] at hi
       by_cases fH:j=i
       ·subst fH
        simp only[if_true,g2,Option.map_some,ax] at hi;subst hi
        exact p5 e1 (by simpa using List.mem_of_getElem? (l:=entries.toList) (by simpa using g2))
       simp only[fH,if_false] at hi
       exact p5 e' (by simpa using List.mem_of_getElem? (l:=entries.toList) (by simpa using hi))
      obtain⟨h5,h6⟩:=B9 r ho kY lU h1 qz
      refine⟨_,?_,h5,h6⟩
      have Dt:(Instr.keyThatStays (((entries[j]?).map (·.key)).getD (.int kd n)) (.int kd n)).run P w=.ok (.int kd n) w:=by
       simp[g2,g3,Instr.keyThatStays,Ss]
      simp only[Instr.mapUpdate,Sem.run_bind,run_underlying hu,Result.andThen_ok]
      have oS:(getObj b).run P w=.ok (.map entries clock) w:=by simp[getObj,Sem.run,h1]
      simp only[Sem.run_bind,oS,Result.andThen_ok,run_checkKey dZ,g5,Dt,B8 h1]
     cases g1
    ·rename_i hq
     simp only[ax] at ha;subst ha
     rcases G4 (P:=P) (w:=w) hM dZ hq with⟨v1,j,e1,g1,_⟩|⟨_,g4,g5⟩
     ·cases g1
     have qz:gU U (es++[(.int kd n,v)]) (entries.push { key:=.int kd n,val:=v',born:=clock }) (clock+1):=by
      obtain⟨l,p1,p0,p2,p3,p4,p5⟩:=hM
      have Na:∀p∈l,p.1≠.int kd n:=fun p hp=>by
       obtain⟨i,hi⟩:=List.getElem?_of_mem hp
       have dy:i<entries.size:=by
        rw[← p2]
        rcases Nat.lt_or_ge i l.length with h|h
        ·exact h
        rw[List.getElem?_eq_none h] at hi;simp at hi
       have hr:=p3 i p entries[i] hi (by simp[dy])
       rw[← hr.1]
       exact g4 _ (by simp)
      refine⟨l++[(.int kd n,v)],p1.append_right _,?_,by simp[p2],?_,?_,?_⟩
      ·rw[List.map_append,List.nodup_append]
       refine⟨p0,by simp,?_⟩
       intro a ha b hb
       simp at hb;subst hb
       obtain⟨p,hp,rfl⟩:=List.mem_map.1 ha
       exact Na p hp
      ·intro i p e' hp dj
       rw[Array.getElem?_push] at dj
       by_cases hi:i=entries.size
       ·simp only[hi,if_true,ax] at dj;subst dj
        rw[List.getElem?_append_right (by omega),hi,p2] at hp
        simp at hp;subst hp
        exact⟨rfl,hv⟩
       simp only[hi,if_false] at dj
       have dy:i<entries.size:=by
        rcases Nat.lt_or_ge i entries.size with h|h
        ·exact h
        rw[Array.getElem?_eq_none h] at dj;simp at dj
       rw[List.getElem?_append_left (by omega)] at hp
       exact p3 i p e' hp dj
      ·simp only[Array.toList_push,List.map_append,List.map_cons,List.map_nil]
       rw[List.pairwise_append]
       refine⟨p4,by simp,?_⟩
       intro a ha b hb
       simp at hb;subst hb
       obtain⟨e',dj,rfl⟩:=List.mem_map.1 ha
       exact p5 e' dj
      intro e' dj
      simp only[Array.toList_push,List.mem_append,List.mem_singleton] at dj
      rcases dj with dj|dj
      ·have:=p5 e' dj;omega
      subst dj;simp
     obtain⟨h5,h6⟩:=B9 r ho kY lU h1 qz
     refine⟨_,?_,h5,h6⟩
     have oS:(getObj b).run P w=.ok (.map entries clock) w:=by simp[getObj,Sem.run,h1]
     simp only[Instr.mapUpdate,Sem.run_bind,run_underlying hu,Result.andThen_ok,oS,run_checkKey dZ,g5,B8 h1]
    simp at ha
  simp at ha
 simp at ha
def Du (P:Program)(lo:Nat)(h:ah)(t:TypeId)(m k:Value):Option ah:=
 match mK P t,m,k with
 |some _,.map (some o),.int kd n=>
  match h.get o with
  |some (.map es)=>
   bif Nat.ble lo o then
    match wV kd n es with
    |some _=>some (h.put o (some (.map (es.filter (re n)))))
    |none=>none
   else none
  |_=>none
 |_,_,_=>none
theorem zmw {l:List (Value×Value)}{kd:IntKind}{n:Int}(hk:∀p∈l,∃a,p.1=.int kd a)(h0:(l.map (·.1)).Nodup){j:Nat}(hj:j<l.length)(he:l[j].1=.int kd n):l.filter (re n)=l.eraseIdx j:=by
 induction l generalizing j with
 |nil=>simp at hj
 |cons p r ih=>
  obtain⟨pk,pv⟩:=p
  obtain⟨a,ha⟩:=hk (pk,pv) (by simp)
  simp only at ha;subst ha
  simp only[List.map_cons,List.nodup_cons] at h0
  cases j with
  |zero=>
   simp only[List.getElem_cons_zero,Value.int.injEq,true_and] at he
   subst he
   have bs:∀q∈r,re a q=true:=by
    intro q hq
    obtain⟨b,hb⟩:=hk q (List.mem_cons_of_mem _ hq)
    have:b≠a:=by
     intro hh;subst hh
     exact h0.1 (List.mem_map.2 ⟨q,hq,hb⟩)
    simp[re,hb,this]
   have h1:re a (Value.int kd a,pv)=false:=by simp[re]
   simp only[List.filter_cons,h1,Bool.false_eq_true,if_false,List.eraseIdx_cons_zero]
   exact List.filter_eq_self.2 bs
  |succ j=>
   simp only[List.length_cons,Nat.add_lt_add_iff_right] at hj
   simp only[List.getElem_cons_succ] at he
   have cY:a≠n:=by
    intro hh;subst hh
    exact h0.1 (List.mem_map.2 ⟨r[j],List.getElem_mem hj,he⟩)
   have h1:re n (Value.int kd a,pv)=true:=by simp[re,cY]
   simp only[List.filter_cons,h1,if_true,List.eraseIdx_cons_succ]
   rw[ih (fun q hq=>hk q (List.mem_cons_of_mem _ hq)) h0.2 hj he]
theorem zwx {P:Program}{lo:Nat}{U:Mu}{h:ah}{w:World}(r:Rel U lo h w){t G6 ty:TypeId}{m m' k k':Value}{h':ah}(hm:ak U m m')(hk:ak U k k')
  (ha:Du P lo h t m k=some h'):eB P lo (Builtin.delete_ #[t,G6] ty #[m',k']) U h w Go.undef h':=by
 unfold Du at ha
 split at ha
 ·rename_i q o kd n ka
  obtain⟨kT,e⟩:=q
  obtain⟨hu,k0,dZ⟩:=M9 ka
  cases hk
  split at ha
  ·rename_i es ho
   cases cg:Nat.ble lo o with
   |false=>rw[cg] at ha;simp at ha
   |true=>
   rw[cg] at ha;simp only[aO] at ha
   have kY:lo≤o:=by simpa using cg
   cases hm with
   |map _ b C lU=>
    obtain⟨_,entries,clock,h1,hM⟩:=oP r ho lU
    split at ha
    ·rename_i q0 hq
     simp only[ax] at ha;subst ha
     have oS:(getObj b).run P w=.ok (.map entries clock) w:=by simp[getObj,Sem.run,h1]
     obtain⟨i1,i2,i3⟩:=Kr hq
     rcases G4 (P:=P) (w:=w) hM dZ hq with⟨v1,j,e1,g1,g2,g3,g4,g5⟩|⟨g1,g4,g5⟩
     ·have qz:gU U (es.filter (re n)) (entries.eraseIdxIfInBounds j) clock:=by
       obtain⟨l,p1,p0,p2,p3,p4,p5⟩:=hM
       have ue:j<entries.size:=by
        rcases Nat.lt_or_ge j entries.size with h|h
        ·exact h
        rw[Array.getElem?_eq_none h] at g2;simp at g2
       have ec:j<l.length:=by omega
       have mL:∀p∈l,∃a,p.1=.int kd a:=fun p hp=>i1 p (p1.mem_iff.1 hp)
       have Dv:l[j].1=.int kd n:=by
        have:=p3 j l[j] e1 (by simp[ec]) g2
        rw[← this.1,g3]
       have ug:=zmw mL p0 ec Dv
       have kx:(entries.eraseIdxIfInBounds j).toList=entries.toList.eraseIdx j:=by
        simp[Array.eraseIdxIfInBounds,ue]
       refine⟨l.filter (re n),p1.filter _,?_,?_,?_,?_,?_⟩
       ·exact p0.sublist ((List.filter_sublist).map _)
       ·rw[ug,List.length_eraseIdx,if_pos ec,p2]
        have:(entries.eraseIdxIfInBounds j).toList.length=entries.size - 1:=by rw[kx,List.length_eraseIdx,if_pos (by simpa using ue)];simp
        rw[Array.length_toList] at this
        omega
       ·intro i p e' hp dj
        rw[ug,List.getElem?_eraseIdx] at hp
        rw[← Array.getElem?_toList,kx,List.getElem?_eraseIdx] at dj
        split at hp
        ·rename_i aP;rw[if_pos aP] at dj;exact p3 i p e' hp (by simpa using dj)
        rename_i aP;rw[if_neg aP] at dj;exact p3 (i+1) p e' hp (by simpa using dj)
       ·rw[kx];exact p4.sublist ((List.eraseIdx_sublist _ _).map _)
       intro e' dj;rw[kx] at dj;exact p5 e' ((List.eraseIdx_sublist _ _).subset dj)
      obtain⟨h5,h6⟩:=B9 r ho kY lU h1 qz
      refine .mk (v':=Go.undef) ?_ .undef h5 h6
      simp[Builtin.delete_,oS,run_checkKey dZ,g5,B8 h1,Go.undef,run_underlying hu]
     have qz:gU U (es.filter (re n)) entries clock:=by
      have:es.filter (re n)=es:=by
       rw[List.filter_eq_self]
       intro p hp
       obtain⟨a,ha⟩:=i1 p hp
       have:=i3 g1 p hp
       have cY:a≠n:=by intro hh;subst hh;exact this ha
       simp[re,ha,cY]
      rw[this];exact hM
     obtain⟨h5,h6⟩:=B9 r ho kY lU h1 qz
     refine .mk (v':=Go.undef) ?_ .undef h5 h6
     simp[Builtin.delete_,oS,run_checkKey dZ,g5,B8 h1,Go.undef,run_underlying hu]
    simp at ha
  simp at ha
 simp at ha
def jj:List Value→List Value→Option Bool
 |[],[]=>some true
 |.int k a::r,.int k' b::s=>bif decide (k=k') then (match jj r s with|some q=>some (decide (a=b)&&q)|none=>none) else none
 |_,_=>none
def fI:List Value→Bool
 |[]=>true
 |.int _ _::r=>fI r
 |_=>false
theorem G7:∀ {l m:List Value} {q:Bool},jj l m=some q→(q=true↔l=m)∧l.length=m.length
 |[],[],q,h=>by simp[jj] at h;simp[h]
 |[],v::m,q,h=>by cases v<;>simp[jj] at h
 |v::l,[],q,h=>by cases v<;>simp[jj] at h
 |v::l,u::m,q,h=>by
  unfold jj at h
  split at h
  ·rename_i h1 h2;cases h1
  ·rename_i k a r k' b s h1 h2
   injection h1 with e1 e2;injection h2 with e3 e4
   subst e1;subst e2;subst e3;subst e4
   cases hk:decide (k=k') with
   |false=>rw[hk] at h;cases h
   |true=>
    rw[hk,aO] at h
    have hk:k=k':=by simpa using hk
    subst hk
    split at h
    ·rename_i q' hq
     obtain⟨i1,i2⟩:=G7 hq
     injection h with h;subst h
     refine⟨?_,by simp[i2]⟩
     rw[bS,decide_eq_true_eq,i1]
     constructor
     ·rintro⟨rfl,rfl⟩;rfl
     intro h;injection h with h1 h2;injection h1 with _ h3;exact⟨h3,h2⟩
    cases h
  cases h
theorem St {U:Mu}:∀ {l l':List Value},bA U l l'→fI l=true→l'=l
 |[],l',h,_=>by
  have:=h.1
  exact List.eq_nil_of_length_eq_zero (by simpa using this.symm)
 |.int k a::r,l',h,hi=>by
  cases l' with
  |nil=>have:=h.1;simp at this
  |cons v s=>
   have h0:=h.2 0 (.int k a) rfl
   obtain⟨v',h1,h2⟩:=h0
   simp at h1;subst h1
   cases h2
   have hr:bA U r s:=⟨by have:=h.1;simpa using this,fun i x hx=>by
    obtain⟨v',h1,h2⟩:=h.2 (i+1) x (by simpa using hx)
    exact⟨v',by simpa using h1,h2⟩⟩
   rw[St hr hi]
 |.bool _::_,_,_,hi=>by cases hi
 |.float _ _::_,_,_,hi=>by cases hi
 |.complex _ _ _::_,_,_,hi=>by cases hi
 |.string _::_,_,_,hi=>by cases hi
 |.pointer _::_,_,_,hi=>by cases hi
 |.slice _ _ _::_,_,_,hi=>by cases hi
 |.map _::_,_,_,hi=>by cases hi
 |.agg _::_,_,_,hi=>by cases hi
 |.tuple _::_,_,_,hi=>by cases hi
 |.iface _ _::_,_,_,hi=>by cases hi
 |.func _ _ _::_,_,_,hi=>by cases hi
 |.nilFunc::_,_,_,hi=>by cases hi
 |.nilIface::_,_,_,hi=>by cases hi
 |.chan _::_,_,_,hi=>by cases hi
theorem Su (U:Mu):∀ {l:List Value},fI l=true→bA U l l:=fun {l} hi=>by
 refine⟨rfl,fun i v hv=>?_⟩
 induction l generalizing i with
 |nil=>simp at hv
 |cons a r ih=>
  cases a with
  |int k n=>
   cases i with
   |zero=>simp at hv;subst hv;exact⟨_,rfl,.int _ _⟩
   |succ i=>exact ih hi i (by simpa using hv)
  |_=>cases hi
theorem Nb:∀ {l m:List Value} {q:Bool},jj l m=some q→fI l=true∧fI m=true
 |[],[],q,h=>⟨rfl,rfl⟩
 |[],v::m,q,h=>by cases v<;>simp[jj] at h
 |v::l,[],q,h=>by cases v<;>simp[jj] at h
 |v::l,u::m,q,h=>by
  unfold jj at h
  split at h
  ·rename_i h1 h2;cases h1
  ·rename_i k a r k' b s h1 h2
   injection h1 with e1 e2;injection h2 with e3 e4
   subst e1;subst e2;subst e3;subst e4
   cases hk:decide (k=k') with
   |false=>rw[hk] at h;cases h
   |true=>
    rw[hk,aO] at h
    split at h
    ·rename_i q' hq;exact⟨(Nb hq).1,(Nb hq).2⟩
    cases h
  cases h
def Ca (P:Program):Nat→List Field→Bool
 |_,[]=>true
 |i,f::r=>(match P.underlying f.type with|some (.int _)=>true|_=>false)&&(match bD P f.type,da P f.type with|some false,some _=>true|_,_=>false)&&Nat.beq f.offset i&&!(f.name == "_")&&Ca P (i+1) r
def zn (P:Program)(t:TypeId):Option (TypeId×TypeId×Nat):=
 match P.underlying t with
 |some (.map k e)=>match P.underlying k with
  |some (.struct fs)=>bif !(P.stoodInHeld k||P.eqGuardType P.depth k)&&Ca P 0 fs.toList then some (k,e,fs.toList.length) else none
  |_=>none
 |_=>none
structure wW (P:Program) (k:TypeId) (n:Nat):Prop where
  ex:∃fs:Array Field,P.underlying k=some (.struct fs)∧Ca P 0 fs.toList=true∧fs.toList.length=n
  nh:(P.stoodInHeld k||P.eqGuardType P.depth k)=false
theorem Nc {P:Program}{t k e:TypeId}{n:Nat}(h:zn P t=some (k,e,n)):P.underlying t=some (.map k e)∧wW P k n:=by
 unfold zn at h
 split at h
 ·rename_i k' e' hu
  split at h
  ·rename_i fs hk
   cases hb:(!(P.stoodInHeld k'||P.eqGuardType P.depth k')&&Ca P 0 fs.toList) with
   |false=>rw[hb] at h;cases h
   |true=>
    rw[hb] at h
    simp only[aO,ax,bG] at h
    obtain⟨rfl,rfl,rfl⟩:=h
    rw[bS] at hb
    exact⟨hu,⟨fs,hk,hb.2,rfl⟩,by simpa using hb.1⟩
  cases h
 cases h
theorem Sv {P:Program}{i:Nat}{f:Field}{r:List Field}(h:Ca P i (f::r)=true):(∃k0,P.underlying f.type=some (.int k0))∧bD P f.type=some false∧(∃n,da P f.type=some n)∧f.offset=i∧(f.name == "_")=false∧Ca P (i+1) r=true:=by
 simp only[Ca,bS] at h
 obtain⟨⟨⟨⟨h1,h2⟩,h3⟩,h4⟩,h5⟩:=h
 refine⟨?_,?_,?_,uF h3,by simpa using h4,h5⟩
 ·split at h1
  ·rename_i k0 hk;exact⟨k0,hk⟩
  cases h1
 ·split at h2
  ·rename_i ha hb;exact ha
  cases h2
 split at h2
 ·rename_i n ha hb;exact⟨n,hb⟩
 cases h2
theorem Sw:∀ {l m:List Value} {q:Bool} {i:Nat},jj l m=some q→i<l.length→∃k a b q',l[i]?=some (.int k a)∧m[i]?=some (.int k b)∧jj (l.drop (i+1)) (m.drop (i+1))=some q'∧jj (l.drop i) (m.drop i)=some (decide (a=b)&&q')
 |[],_,_,_,_,hi=>absurd hi (Nat.not_lt_zero _)
 |v::l,[],q,_,h,_=>by cases v<;>simp[jj] at h
 |v::l,u::m,q,i,h,hi=>by
  have h0:=h
  unfold jj at h
  split at h
  ·rename_i h1 h2;cases h1
  ·rename_i k a r k' b s h1 h2
   injection h1 with e1 e2;injection h2 with e3 e4
   subst e1;subst e2;subst e3;subst e4
   cases hk:decide (k=k') with
   |false=>rw[hk] at h;cases h
   |true=>
    rw[hk,aO] at h
    have hk:k=k':=by simpa using hk
    subst hk
    split at h
    ·rename_i q' hq
     injection h with h;subst h
     cases i with
     |zero=>exact⟨k,a,b,q',rfl,rfl,by simpa using hq,by simpa using h0⟩
     |succ i=>
      obtain⟨k2,a2,b2,q2,g1,g2,g3,g4⟩:=Sw (i:=i) hq (by simpa using hi)
      exact⟨k2,a2,b2,q2,by simpa using g1,by simpa using g2,by simpa using g3,by simpa using g4⟩
    cases h
  cases h
theorem Sx {P:Program}{xs ys:List Value}{q0:Bool}(h0:jj xs ys=some q0):∀(fs:List Field) (i:Nat) {q:Bool},Ca P i fs=true→xs.length=i+fs.length→jj (xs.drop i) (ys.drop i)=some q→vL P xs ys fs=some q
 |[],i,q,_,hl,h=>by
  have hx:xs.drop i=[]:=List.drop_eq_nil_of_le (by simp at hl;omega)
  have hy:ys.drop i=[]:=List.drop_eq_nil_of_le (by have:=(G7 h0).2;simp at hl;omega)
  rw[hx,hy] at h
  simpa[jj,vL] using h
 |f::fs,i,q,hf,hl,h=>by
  obtain⟨⟨k0,rh⟩,ha,⟨n,hn⟩,ho,Nd,hr⟩:=Sv hf
  have hi:i<xs.length:=by simp at hl;omega
  obtain⟨k,a,b,q',g1,g2,g3,g4⟩:=Sw h0 hi
  rw[g4] at h
  injection h with h
  have ih:=Sx h0 fs (i+1) hr (by simp at hl;omega) g3
  simp only[vL,Nd,bz,hn,apart,ha,ho,g1,g2,Dc,rh,decide_true,aO]
  by_cases iL:a=b
  ·subst iL;simp[ih,← h]
  have hb:(a==b)=false:=by simpa using iL
  simp[iL,hb,← h]
theorem zw7 {P:Program}{k:TypeId}{n:Nat}(hk:wW P k n){xs ys:Array Value}{q:Bool}(h:jj xs.toList ys.toList=some q)(hn:xs.toList.length=n)(w:World):(Op.equal k (.agg xs) (.agg ys)).run P w=.ok q w:=by
 obtain⟨⟨fs,h1,h2,h3⟩,h4⟩:=hk
 obtain⟨i1,i2⟩:=Nb h
 have hr:∀ {l:List Value},fI l=true→bA (fun _=>none) l l:=fun {l} hi=>Su _ hi
 have hq:dR P k (.agg xs) (.agg ys)=some q:=by
  simp only[dR,h1,h4,bz]
  exact Sx h fs.toList 0 h2 (by rw[hn,h3,Nat.zero_add]) (by simpa using h)
 have hx:ak (fun _=>none) (.agg xs) (.agg xs):=by have:=ak.lO (hr i1);simpa using this
 have hy:ak (fun _=>none) (.agg ys) (.agg ys):=by have:=ak.lO (hr i2);simpa using this
 exact(MX (w:=w) hx hy hq).1
theorem Nf {P:Program}{k:TypeId}{n:Nat}(hk:wW P k n){xs:Array Value}(hi:fI xs.toList=true)(hn:xs.toList.length=n)(b:Bool)(w:World):(Instr.checkKey b 10000 k (.agg xs)).run P w=.ok () w:=by
 obtain⟨⟨fs,h1,h2,h3⟩,_⟩:=hk
 have wX:bA (fun _=>none) xs.toList xs.toList:=Su _ hi
 have hint:∀(i:Nat) (v:Value),xs.toList[i]?=some v→∃kd m,v=.int kd m:=fun i v hv=>by
  have:∀(l:List Value) (i:Nat) (v:Value),fI l=true→l[i]?=some v→∃kd m,v=.int kd m:=by
   intro l
   induction l with
   |nil=>intro i v _ h;simp at h
   |cons a r ih=>
    intro i v hi h
    cases a with
    |int k m=>
     cases i with
     |zero=>simp at h;exact⟨k,m,h.symm⟩
     |succ i=>exact ih i v hi (by simpa using h)
    |_=>cases hi
  exact this _ i v hi hv
 have all:∀d,(Instr.checkKey b (d+1+1) k (.agg xs)).run P w=.ok () w:=fun d=>by
  have hl:0+fs.toList.length=xs.toList.length:=by rw[hn,h3,Nat.zero_add]
  rw[Instr.checkKey]
  simp only[Sem.run_bind,run_underlying h1,Result.andThen_ok]
  rw[← Array.forIn_toList]
  clear h1 h3
  generalize fs.toList=L at h2 hl
  generalize (0:Nat)=i at h2 hl
  induction L generalizing i with
  |nil=>simp
  |cons f L ih=>
   obtain⟨⟨k0,rh⟩,ha,⟨m,hm⟩,ho,Nd,hr⟩:=Sv h2
   have Ng:f.name ≠ "_" := by simpa using Nd
   have dy:i<xs.toList.length:=by simp at hl ⊢;omega
   obtain⟨v,hv⟩:∃v,xs.toList[i]?=some v:=⟨_,List.getElem?_eq_getElem dy⟩
   obtain⟨v',p1,p2⟩:=GQ (P:=P) (w:=w) wX hm (show apart P f.type xs.toList f.offset m=some v by simp only[apart,ha,ho,hv])
   obtain⟨kd,x,rfl⟩:=hint i v hv
   cases p2
   have p3:(Instr.checkKey b (d+1) f.type (.int kd x)).run P w=.ok () w:=by
    simp only[Instr.checkKey,Sem.run_bind,run_underlying rh,Result.andThen_ok,Sem.run_pure]
   simp only[List.forIn_cons,Sem.run_bind,Ng,ne_eq,not_false_eq_true,if_true,Result.andThen_ok,p1,p3,Sem.run_pure]
   exact ih (i+1) hr (by simp at hl ⊢;omega)
 exact all 9998
theorem ztt {U:Mu}{es:List (Value×Value)}{entries:Array MapEntry}{clock:Nat}{K v v':Value}{put:Value×Value→Value×Value}(hM:gU U es entries clock){j:Nat}{e1:MapEntry}(g2:entries[j]?=some e1)(g3:e1.key=K)(hv:ak U v v')
  (q1:∀p∈es,p.1=K→put p=(K,v)) (q2:∀p∈es,p.1≠K→put p=p):gU U (es.map put) (entries.modify j fun e=>{ e with key:=K,val:=v' }) clock:=by
 obtain⟨l,p1,p0,p2,p3,p4,p5⟩:=hM
 have ec:j<l.length:=by
  rw[p2]
  rcases Nat.lt_or_ge j entries.size with h|h
  ·exact h
  rw[Array.getElem?_eq_none h] at g2;simp at g2
 have Ds:∀p∈l,(put p).1=p.1:=fun p hp=>by
  by_cases hk:p.1=K
  ·rw[q1 p (p1.mem_iff.1 hp) hk,hk]
  rw[q2 p (p1.mem_iff.1 hp) hk]
 refine⟨l.map put,p1.map _,?_,by simp[p2],?_,?_,?_⟩
 ·rw[List.map_map,show l.map ((fun x=>x.1)∘put)=l.map (fun x=>x.1) from List.map_congr_left Ds];exact p0
 ·intro i p e' hp dj
  rw[List.getElem?_map] at hp
  cases kv:l[i]? with
  |none=>rw[kv] at hp;simp at hp
  |some p'=>
   rw[kv] at hp;simp only[Option.map_some,ax] at hp;subst hp
   have mM:p'∈es:=p1.mem_iff.1 (List.mem_of_getElem? kv)
   rw[Array.getElem?_modify] at dj
   by_cases fH:j=i
   ·subst fH
    simp only[if_true,g2,Option.map_some,ax] at dj;subst dj
    have hr:=p3 j p' e1 kv g2
    rw[q1 p' mM (by rw[← hr.1,g3])]
    exact⟨rfl,hv⟩
   simp only[fH,if_false] at dj
   have hr:=p3 i p' e' kv dj
   have cY:p'.1≠K:=fun hk=>by
    have dy:i<l.length:=by
     rcases Nat.lt_or_ge i l.length with h|h
     ·exact h
     rw[List.getElem?_eq_none h] at kv;simp at kv
    have e2:l[j].1=K:=by
     have:=p3 j l[j] e1 (by simp[ec]) g2
     rw[← this.1,g3]
    have e3:l[i].1=K:=by
     rw[List.getElem?_eq_getElem dy] at kv;injection kv with kv;rw[kv,hk]
    exact fH (Ks p0 (i:=j) (j:=i) (by simpa using ec) (by simpa using dy) (by simp[e2,e3]))
   rw[q2 p' mM cY];exact hr
 ·have:((entries.modify j fun e=>{ e with key:=K,val:=v' }).toList.map (·.born))=entries.toList.map (·.born):=by
   apply List.ext_getElem?
   intro i
   simp only[List.getElem?_map,Array.getElem?_toList,Array.getElem?_modify]
   by_cases fH:j=i
   ·simp[fH]
    cases entries[i]?<;>rfl
   simp[fH]
  rw[this];exact p4
 intro e' dj
 obtain⟨i,hi⟩:=List.getElem?_of_mem dj
 rw[Array.getElem?_toList,Array.getElem?_modify] at hi
 by_cases fH:j=i
 ·subst fH
  simp only[if_true,g2,Option.map_some,ax] at hi;subst hi
  exact p5 e1 (by simpa using List.mem_of_getElem? (l:=entries.toList) (by simpa using g2))
 simp only[fH,if_false] at hi
 exact p5 e' (by simpa using List.mem_of_getElem? (l:=entries.toList) (by simpa using hi))
theorem z1p {U:Mu}{es:List (Value×Value)}{entries:Array MapEntry}{clock:Nat}{K v v':Value}(hM:gU U es entries clock)(g4:∀e∈entries.toList,e.key≠K)(hv:ak U v v') :
  gU U (es++[(K,v)]) (entries.push { key:=K,val:=v',born:=clock }) (clock+1):=by
 obtain⟨l,p1,p0,p2,p3,p4,p5⟩:=hM
 have Na:∀p∈l,p.1≠K:=fun p hp=>by
  obtain⟨i,hi⟩:=List.getElem?_of_mem hp
  have dy:i<entries.size:=by
   rw[← p2]
   rcases Nat.lt_or_ge i l.length with h|h
   ·exact h
   rw[List.getElem?_eq_none h] at hi;simp at hi
  have hr:=p3 i p entries[i] hi (by simp[dy])
  rw[← hr.1]
  exact g4 _ (by simp)
 refine⟨l++[(K,v)],p1.append_right _,?_,by simp[p2],?_,?_,?_⟩
 ·rw[List.map_append,List.nodup_append]
  refine⟨p0,by simp,?_⟩
  intro a ha b hb
  simp at hb;subst hb
  obtain⟨p,hp,rfl⟩:=List.mem_map.1 ha
  exact Na p hp
 ·intro i p e' hp dj
  rw[Array.getElem?_push] at dj
  by_cases hi:i=entries.size
  ·simp only[hi,if_true,ax] at dj;subst dj
   rw[List.getElem?_append_right (by omega),hi,p2] at hp
   simp at hp;subst hp
   exact⟨rfl,hv⟩
  simp only[hi,if_false] at dj
  have dy:i<entries.size:=by
   rcases Nat.lt_or_ge i entries.size with h|h
   ·exact h
   rw[Array.getElem?_eq_none h] at dj;simp at dj
  rw[List.getElem?_append_left (by omega)] at hp
  exact p3 i p e' hp dj
 ·simp only[Array.toList_push,List.map_append,List.map_cons,List.map_nil]
  rw[List.pairwise_append]
  refine⟨p4,by simp,?_⟩
  intro a ha b hb
  simp at hb;subst hb
  obtain⟨e',dj,rfl⟩:=List.mem_map.1 ha
  exact p5 e' dj
 intro e' dj
 simp only[Array.toList_push,List.mem_append,List.mem_singleton] at dj
 rcases dj with dj|dj
 ·have:=p5 e' dj;omega
 subst dj;simp
theorem zqs {K:Value}{mN:Value×Value→Bool}{l:List (Value×Value)}(q1:∀p∈l,p.1=K→mN p=false)(q2:∀p∈l,p.1≠K→mN p=true)(h0:(l.map (·.1)).Nodup){j:Nat}(hj:j<l.length)(he:l[j].1=K):l.filter mN=l.eraseIdx j:=by
 induction l generalizing j with
 |nil=>simp at hj
 |cons p r ih=>
  simp only[List.map_cons,List.nodup_cons] at h0
  cases j with
  |zero=>
   have bs:∀q∈r,mN q=true:=fun q hq=>q2 q (List.mem_cons_of_mem _ hq) fun hh=>h0.1 (List.mem_map.2 ⟨q,hq,by rw[hh];exact he.symm⟩)
   have h1:mN p=false:=q1 p (by simp) he
   simp only[List.filter_cons,h1,Bool.false_eq_true,if_false,List.eraseIdx_cons_zero]
   exact List.filter_eq_self.2 bs
  |succ j=>
   simp only[List.length_cons,Nat.add_lt_add_iff_right] at hj
   simp only[List.getElem_cons_succ] at he
   have cY:p.1≠K:=fun hh=>h0.1 (List.mem_map.2 ⟨r[j],List.getElem_mem hj,by rw[he,hh]⟩)
   have h1:mN p=true:=q2 p (by simp) cY
   simp only[List.filter_cons,h1,if_true,List.eraseIdx_cons_succ]
   rw[ih (fun q hq=>q1 q (List.mem_cons_of_mem _ hq)) (fun q hq=>q2 q (List.mem_cons_of_mem _ hq)) h0.2 hj he]
theorem zwn {U:Mu}{es:List (Value×Value)}{entries:Array MapEntry}{clock:Nat}{K:Value}{mN:Value×Value→Bool}(hM:gU U es entries clock){j:Nat}{e1:MapEntry}(g2:entries[j]?=some e1)(g3:e1.key=K)
  (q1:∀p∈es,p.1=K→mN p=false) (q2:∀p∈es,p.1≠K→mN p=true):gU U (es.filter mN) (entries.eraseIdxIfInBounds j) clock:=by
 obtain⟨l,p1,p0,p2,p3,p4,p5⟩:=hM
 have ue:j<entries.size:=by
  rcases Nat.lt_or_ge j entries.size with h|h
  ·exact h
  rw[Array.getElem?_eq_none h] at g2;simp at g2
 have ec:j<l.length:=by omega
 have Dv:l[j].1=K:=by
  have:=p3 j l[j] e1 (by simp[ec]) g2
  rw[← this.1,g3]
 have ug:=zqs (fun p hp=>q1 p (p1.mem_iff.1 hp)) (fun p hp=>q2 p (p1.mem_iff.1 hp)) p0 ec Dv
 have kx:(entries.eraseIdxIfInBounds j).toList=entries.toList.eraseIdx j:=by
  simp[Array.eraseIdxIfInBounds,ue]
 refine⟨l.filter mN,p1.filter _,?_,?_,?_,?_,?_⟩
 ·exact p0.sublist ((List.filter_sublist).map _)
 ·rw[ug,List.length_eraseIdx,if_pos ec,p2]
  have:(entries.eraseIdxIfInBounds j).toList.length=entries.size - 1:=by rw[kx,List.length_eraseIdx,if_pos (by simpa using ue)];simp
  rw[Array.length_toList] at this
  omega
 ·intro i p e' hp dj
  rw[ug,List.getElem?_eraseIdx] at hp
  rw[← Array.getElem?_toList,kx,List.getElem?_eraseIdx] at dj
  split at hp
  ·rename_i aP;rw[if_pos aP] at dj;exact p3 i p e' hp (by simpa using dj)
  rename_i aP;rw[if_neg aP] at dj;exact p3 (i+1) p e' hp (by simpa using dj)
 ·rw[kx];exact p4.sublist ((List.eraseIdx_sublist _ _).map _)
 intro e' dj;rw[kx] at dj;exact p5 e' ((List.eraseIdx_sublist _ _).subset dj)
def uN (l:List Value):List (Value×Value)→Option (Option Value)
 |[]=>some none
 |(.agg ds,v)::r=>match jj l ds.toList,uN l r with
  |some s,some q=>some (bif s then some v else q)
  |_,_=>none
 |_=>none
theorem Kt {xs:Array Value}:∀ {es:List (Value×Value)} {q:Option Value},uN xs.toList es=some q→
  (∀p∈es,∃ds s,p.1=.agg ds∧jj xs.toList ds.toList=some s)∧(∀v,q=some v→(Value.agg xs,v)∈es)∧(q=none→∀p∈es,p.1≠.agg xs)
 |[],q,h=>by simp only[uN,ax] at h;subst h;exact⟨by simp,by simp,by simp⟩
 |(k,v)::r,q,h=>by
  unfold uN at h
  split at h
  ·rename_i heq;cases heq
  ·rename_i ds v' r' heq
   simp only[List.cons.injEq,bG] at heq
   obtain⟨⟨rfl,rfl⟩,rfl⟩:=heq
   split at h
   ·rename_i s q' hs cm
    obtain⟨i1,i2,i3⟩:=Kt cm
    have s6:=(G7 hs).1
    simp only[ax] at h;subst h
    refine⟨fun p hp=>?_,fun u hu=>?_,fun hn p hp=>?_⟩
    ·rcases List.mem_cons.1 hp with rfl|hp
     ·exact⟨ds,s,rfl,hs⟩
     exact i1 p hp
    ·cases s with
     |true=>simp at hu;subst hu;rw[Array.ext' (s6.1 rfl)];simp
     |false=>simp only[bz] at hu;exact List.mem_cons_of_mem _ (i2 u hu)
    cases s with
    |true=>simp at hn
    |false=>
     simp only[bz] at hn
     rcases List.mem_cons.1 hp with rfl|hp
     ·intro he
      injection he with he
      have:=s6.2 (by rw[he])
      cases this
     exact i3 hn p hp
   cases h
  cases h
theorem Sy {P:Program}{k:TypeId}{n:Nat}(hk:wW P k n){xs:Array Value}(hn:xs.toList.length=n)(w:World):∀(L:List MapEntry) (i:Nat),(∀e∈L,∃ds s,e.key=.agg ds∧jj xs.toList ds.toList=some s)→
  (∃j e,L[j]?=some e∧e.key=.agg xs∧(Instr.findAsking k (.agg xs) L i).run P w=.ok (some (i+j,e.val)) w)∨((∀e∈L,e.key≠.agg xs)∧(Instr.findAsking k (.agg xs) L i).run P w=.ok none w)
 |[],i,_=>.inr ⟨by simp,by simp[Instr.findAsking]⟩
 |e::L,i,h=>by
  obtain⟨ds,s,h1,h2⟩:=h e (by simp)
  have he:=zw7 hk h2 hn w
  have s6:=(G7 h2).1
  cases s with
  |true=>
   have hd:ds=xs:=(Array.ext' (s6.1 rfl)).symm
   exact .inl ⟨0,e,rfl,by rw[h1,hd],by simp[Instr.findAsking,h1,he]⟩
  |false=>
   have hd:e.key≠.agg xs:=fun hh=>by
    rw[h1] at hh
    injection hh with hh
    have:=s6.2 (by rw[hh])
    cases this
   rcases Sy hk hn w L (i+1) (fun y hy=>h y (List.mem_cons_of_mem _ hy)) with⟨j,e',g1,g2,g3⟩|⟨g1,g2⟩
   ·exact .inl ⟨j+1,e',by simpa using g1,g2,by simp[Instr.findAsking,h1,he,g3,Nat.add_assoc,Nat.add_comm 1 j]⟩
   refine .inr ⟨fun y hy=>?_,by simp[Instr.findAsking,h1,he,g2]⟩
   rcases List.mem_cons.1 hy with rfl|hy
   ·exact hd
   exact g1 y hy
theorem G8 {P:Program}{w:World}{U:Mu}{es:List (Value×Value)}{entries:Array MapEntry}{clock:Nat}(hM:gU U es entries clock){kT:TypeId}{n:Nat}{xs:Array Value}{q:Option Value}(hk:wW P kT n)(hn:xs.toList.length=n)(hq:uN xs.toList es=some q) :
  (∃v j e,q=some v∧entries[j]?=some e∧e.key=.agg xs∧ak U v e.val∧(Instr.findKey kT (.agg xs) entries.toList).run P w=.ok (some (j,e.val)) w)∨
  (q=none∧(∀e∈entries.toList,e.key≠.agg xs)∧(Instr.findKey kT (.agg xs) entries.toList).run P w=.ok none w):=by
 obtain⟨l,h1,h0,h2,h3,h4,h5⟩:=hM
 obtain⟨i1,i2,i3⟩:=Kt hq
 have wY:(match P.underlying kT with|some (.array _ _)|some (.struct _)=>true|_=>false)=true:=by
  obtain⟨⟨fs,g1,_,_⟩,_⟩:=hk
  rw[g1]
 have bs:∀e∈entries.toList,∃p∈es,C4 U p e:=fun e he=>by
  obtain⟨j,hj⟩:=List.getElem?_of_mem he
  have mn:entries[j]?=some e:=by simpa using hj
  have ec:j<l.length:=by
   rw[h2]
   rcases Nat.lt_or_ge j entries.size with h|h
   ·exact h
   rw[Array.getElem?_eq_none h] at mn;simp at mn
  exact⟨l[j],h1.mem_iff.1 (List.getElem_mem ec),h3 j l[j] e (by simp[ec]) mn⟩
 have mL:∀e∈entries.toList,∃ds s,e.key=.agg ds∧jj xs.toList ds.toList=some s:=fun e he=>by
  obtain⟨p,hp,hr⟩:=bs e he
  obtain⟨ds,s,ha,hb⟩:=i1 p hp
  exact⟨ds,s,by rw[hr.1,ha],hb⟩
 rw[run_findKey_eq w wY]
 rcases Sy hk hn w entries.toList 0 mL with⟨j,e,g1,g2,g3⟩|⟨g1,g2⟩
 ·have AE:entries[j]?=some e:=by simpa using g1
  have ec:j<l.length:=by
   rw[h2]
   rcases Nat.lt_or_ge j entries.size with h|h
   ·exact h
   rw[Array.getElem?_eq_none h] at AE;simp at AE
  have hr:=h3 j l[j] e (by simp[ec]) AE
  have mM:l[j]∈es:=h1.mem_iff.1 (List.getElem_mem ec)
  cases q with
  |none=>exact absurd (hr.1▸g2) (i3 rfl _ mM)
  |some v=>
   have hv:=i2 v rfl
   have wT:(Value.agg xs,v)∈l:=h1.mem_iff.2 hv
   have:l[j]=(Value.agg xs,v):=by
    obtain⟨j2,Dq,pL⟩:=List.getElem_of_mem wT
    have nC:(l.map (·.1))[j]'(by simpa using ec)=(l.map (·.1))[j2]'(by simpa using Dq):=by
     simp only[List.getElem_map,pL]
     rw[← hr.1,g2]
    have G5:j=j2:=Ks h0 _ _ nC
    subst G5
    exact pL
   refine .inl ⟨v,j,e,rfl,AE,g2,?_,by simpa using g3⟩
   have:=hr.2;rwa [‹l[j]=_›] at this
 refine .inr ⟨?_,g1,g2⟩
 cases q with
 |none=>rfl
 |some v=>
  have hv:=i2 v rfl
  have wT:(Value.agg xs,v)∈l:=h1.mem_iff.2 hv
  obtain⟨j2,Dq,pL⟩:=List.getElem_of_mem wT
  have ue:j2<entries.size:=by omega
  have:=h3 j2 l[j2] entries[j2] (by simp[Dq]) (by simp[ue])
  rw[pL] at this
  exact absurd this.1 (g1 _ (by simp))
def AG (P:Program)(h:ah)(t:TypeId)(m:Value)(xs:Array Value)(ok:Bool):Option Value:=
 match zn P t with
 |some (_,e,n)=>
  bif !(fI xs.toList&&Nat.beq xs.toList.length n) then none else
  match eu P e with
  |some z=>
   let r:Option (Option Value):=match m with
    |.map none=>some none
    |.map (some o)=>match h.get o with
     |some (.map es)=>uN xs.toList es
     |_=>none
    |_=>none
   match r with
   |some (some v)=>some (bif ok then .tuple #[v,.bool true] else v)
   |some none=>some (bif ok then .tuple #[z,.bool false] else z)
   |none=>none
  |none=>none
 |none=>none
theorem Nh {U:Mu}{xs:Array Value}{k':Value}{n:Nat}(hk:ak U (.agg xs) k')(hb:(!(fI xs.toList&&Nat.beq xs.toList.length n))=false):k'=.agg xs∧fI xs.toList=true∧xs.toList.length=n:=by
 obtain⟨bw,rfl,hx⟩:=hk.Fi
 have hb:(fI xs.toList&&Nat.beq xs.toList.length n)=true:=by simpa using hb
 rw[bS] at hb
 exact⟨by rw[Array.ext' (St hx hb.1)],hb.1,uF hb.2⟩
theorem zsc {P:Program}{lo:Nat}{U:Mu}{h:ah}{w:World}(r:Rel U lo h w){t:TypeId}{m m' k' v:Value}{xs:Array Value}{ok:Bool}(hm:ak U m m')(hk:ak U (.agg xs) k')(ha:AG P h t m xs ok=some v) :
  eB P lo (Instr.lookup t m' k' ok) U h w v h:=by
 unfold AG at ha
 split at ha
 ·rename_i kT e n ka
  obtain⟨hu,qA⟩:=Nc ka
  cases hb:(!(fI xs.toList&&Nat.beq xs.toList.length n)) with
  |true=>rw[hb] at ha;cases ha
  |false=>
  rw[hb,bz] at ha
  obtain⟨rfl,hi,hn⟩:=Nh hk hb
  have gP:=Nf qA hi hn
  have wY:(match P.underlying kT with|some (.array _ _)|some (.struct _)=>true|_=>false)=true:=by
   obtain⟨⟨fs,g1,_,_⟩,_⟩:=qA
   rw[g1]
  split at ha
  ·rename_i z hz
   obtain⟨lT,uf⟩:=Sr hz w
   have AF:ak U z z:=.Al uf
   simp only at ha
   split at ha
   ·rename_i v0 hr
    simp only[ax] at ha;subst ha
    split at hr
    ·simp at hr
    ·rename_i o
     split at hr
     ·rename_i es ho
      cases hm with
      |map _ b C lU=>
       obtain⟨_,entries,clock,h1,hM⟩:=oP r ho lU
       rcases G8 (P:=P) (w:=w) hM qA hn hr with⟨v1,j,e1,g1,g2,g3,g4,g5⟩|⟨g1,_⟩
       ·simp only[ax] at g1;subst g1
        cases ok with
        |true=>exact .same r (by simp[Instr.lookup,run_underlying hu,getObj,Sem.run,h1,gP,g5]) (.pair g4 (.bool true))
        |false=>exact .same r (by simp[Instr.lookup,run_underlying hu,getObj,Sem.run,h1,gP,g5]) g4
       cases g1
     simp at hr
    simp at hr
   ·rename_i hr
    simp only[ax] at ha;subst ha
    split at hr
    ·cases hm
     have hf:(Instr.findKey kT (.agg xs) []).run P w=.ok none w:=by rw[run_findKey_eq w wY];simp[Instr.findAsking]
     cases ok with
     |true=>exact .same r (by simp[Instr.lookup,run_underlying hu,gP,hf,lT]) (.pair AF (.bool false))
     |false=>exact .same r (by simp[Instr.lookup,run_underlying hu,gP,hf,lT]) AF
    ·rename_i o
     split at hr
     ·rename_i es ho
      cases hm with
      |map _ b C lU=>
       obtain⟨_,entries,clock,h1,hM⟩:=oP r ho lU
       rcases G8 (P:=P) (w:=w) hM qA hn hr with⟨v1,j,e1,g1,_⟩|⟨_,_,g5⟩
       ·cases g1
       cases ok with
       |true=>exact .same r (by simp[Instr.lookup,run_underlying hu,getObj,Sem.run,h1,gP,g5,lT]) (.pair AF (.bool false))
       |false=>exact .same r (by simp[Instr.lookup,run_underlying hu,getObj,Sem.run,h1,gP,g5,lT]) AF
     simp at hr
    simp at hr
   simp at ha
  simp at ha
 simp at ha
def Cb (l:List Value)(k:Value):Bool:=match k with
 |.agg ds=>match jj l ds.toList with|some s=>s|none=>false
 |_=>false
def AH (xs:Array Value)(v:Value)(p:Value×Value):Value×Value:=bif Cb xs.toList p.1 then (.agg xs,v) else p
def wZ (xs:Array Value)(p:Value×Value):Bool:=!Cb xs.toList p.1
theorem Ku {xs:Array Value}{es:List (Value×Value)}{q:Option Value}(h:uN xs.toList es=some q):∀p∈es,(Cb xs.toList p.1=true↔p.1=.agg xs):=fun p hp=>by
 obtain⟨ds,s,h1,h2⟩:=(Kt h).1 p hp
 have s6:=(G7 h2).1
 rw[h1]
 simp only[Cb,h2]
 rw[s6]
 constructor
 ·intro hh;rw[Array.ext' hh]
 intro hh;injection hh with hh;rw[hh]
theorem zyd {xs:Array Value}{v:Value}{es:List (Value×Value)}{q:Option Value}(h:uN xs.toList es=some q):(∀p∈es,p.1=.agg xs→AH xs v p=(.agg xs,v))∧∀p∈es,p.1≠.agg xs→AH xs v p=p:=by
 refine⟨fun p hp hk=>?_,fun p hp hk=>?_⟩
 ·unfold AH;rw[(Ku h p hp).2 hk];rfl
 unfold AH
 rw[show Cb xs.toList p.1=false from Bool.eq_false_iff.2 fun hh=>hk ((Ku h p hp).1 hh)];rfl
def Kv (P:Program)(lo:Nat)(h:ah)(t:TypeId)(m:Value)(xs:Array Value)(v:Value):Option ah:=
 match zn P t,m with
 |some (_,_,n),.map (some o)=>
  bif !(fI xs.toList&&Nat.beq xs.toList.length n) then none else
  match h.get o with
  |some (.map es)=>
   bif Nat.ble lo o then
    match uN xs.toList es with
    |some (some _)=>some (h.put o (some (.map (es.map (AH xs v)))))
    |some none=>some (h.put o (some (.map (es++[(.agg xs,v)]))))
    |none=>none
   else none
  |_=>none
 |_,_=>none
theorem Sz (d:Nat):∀ {l:List Value},fI l=true→(l.zip l).all (fun p=>Instr.sameBits d p.1 p.2)=true
 |[],_=>rfl
 |.int k n::r,h=>by simp only[List.zip_cons_cons,List.all_cons,Ss,Bool.true_and];exact Sz d h
 |.bool _::_,hi=>by cases hi
 |.float _ _::_,hi=>by cases hi
 |.complex _ _ _::_,hi=>by cases hi
 |.string _::_,hi=>by cases hi
 |.pointer _::_,hi=>by cases hi
 |.slice _ _ _::_,hi=>by cases hi
 |.map _::_,hi=>by cases hi
 |.agg _::_,hi=>by cases hi
 |.tuple _::_,hi=>by cases hi
 |.iface _ _::_,hi=>by cases hi
 |.func _ _ _::_,hi=>by cases hi
 |.nilFunc::_,hi=>by cases hi
 |.nilIface::_,hi=>by cases hi
 |.chan _::_,hi=>by cases hi
theorem zxg {P:Program}{w:World}{xs:Array Value}(h:fI xs.toList=true):(Instr.keyThatStays (.agg xs) (.agg xs)).run P w=.ok (.agg xs) w:=by
 have hs:∀d,Instr.sameBits (d+1) (.agg xs) (.agg xs)=true:=fun d=>by
  simp only[Instr.sameBits,beq_self_eq_true,Bool.true_and]
  exact Sz d h
 simp[Instr.keyThatStays,hs 9999]
theorem zn4 {P:Program}{lo:Nat}{U:Mu}{h:ah}{w:World}(r:Rel U lo h w){t:TypeId}{m m' k' v v':Value}{xs:Array Value}{h':ah}(hm:ak U m m')(hk:ak U (.agg xs) k')(hv:ak U v v')
  (ha:Kv P lo h t m xs v=some h'):∃w',(Instr.mapUpdate t m' k' v').run P w=.ok () w'∧Rel U lo h' w'∧Frame lo U h w U h' w':=by
 unfold Kv at ha
 split at ha
 ·rename_i kT e n o ka
  obtain⟨hu,qA⟩:=Nc ka
  cases hb:(!(fI xs.toList&&Nat.beq xs.toList.length n)) with
  |true=>rw[hb] at ha;cases ha
  |false=>
  rw[hb,bz] at ha
  obtain⟨rfl,hi,hn⟩:=Nh hk hb
  have gP:=Nf qA hi hn
  split at ha
  ·rename_i es ho
   cases cg:Nat.ble lo o with
   |false=>rw[cg] at ha;simp at ha
   |true=>
   rw[cg] at ha;simp only[aO] at ha
   have kY:lo≤o:=by simpa using cg
   cases hm with
   |map _ b C lU=>
    obtain⟨_,entries,clock,h1,hM⟩:=oP r ho lU
    have oS:(getObj b).run P w=.ok (.map entries clock) w:=by simp[getObj,Sem.run,h1]
    split at ha
    ·rename_i v0 hq
     simp only[ax] at ha;subst ha
     rcases G8 (P:=P) (w:=w) hM qA hn hq with⟨v1,j,e1,g1,g2,g3,g4,g5⟩|⟨g1,_⟩
     ·obtain⟨q1,q2⟩:=zyd (v:=v) hq
      have qz:=ztt hM g2 g3 hv q1 q2
      obtain⟨h5,h6⟩:=B9 r ho kY lU h1 qz
      refine⟨_,?_,h5,h6⟩
      have Dt:(Instr.keyThatStays (((entries[j]?).map (·.key)).getD (.agg xs)) (.agg xs)).run P w=.ok (.agg xs) w:=by
       simp only[g2,Option.map_some,Option.getD_some,g3];exact zxg hi
      simp only[Instr.mapUpdate,Sem.run_bind,run_underlying hu,Result.andThen_ok,oS,gP,g5,Dt,B8 h1]
     cases g1
    ·rename_i hq
     simp only[ax] at ha;subst ha
     rcases G8 (P:=P) (w:=w) hM qA hn hq with⟨v1,j,e1,g1,_⟩|⟨_,g4,g5⟩
     ·cases g1
     have qz:=z1p hM g4 hv
     obtain⟨h5,h6⟩:=B9 r ho kY lU h1 qz
     refine⟨_,?_,h5,h6⟩
     simp only[Instr.mapUpdate,Sem.run_bind,run_underlying hu,Result.andThen_ok,oS,gP,g5,B8 h1]
    simp at ha
  simp at ha
 simp at ha
def Kw (P:Program)(lo:Nat)(h:ah)(t:TypeId)(m:Value)(xs:Array Value):Option ah:=
 match zn P t,m with
 |some (_,_,n),.map (some o)=>
  bif !(fI xs.toList&&Nat.beq xs.toList.length n) then none else
  match h.get o with
  |some (.map es)=>
   bif Nat.ble lo o then
    match uN xs.toList es with
    |some _=>some (h.put o (some (.map (es.filter (wZ xs)))))
    |none=>none
   else none
  |_=>none
 |_,_=>none
theorem ztr {P:Program}{lo:Nat}{U:Mu}{h:ah}{w:World}(r:Rel U lo h w){t G6 ty:TypeId}{m m' k':Value}{xs:Array Value}{h':ah}(hm:ak U m m')(hk:ak U (.agg xs) k')
  (ha:Kw P lo h t m xs=some h'):eB P lo (Builtin.delete_ #[t,G6] ty #[m',k']) U h w Go.undef h':=by
 unfold Kw at ha
 split at ha
 ·rename_i kT e n o ka
  obtain⟨hu,qA⟩:=Nc ka
  cases hb:(!(fI xs.toList&&Nat.beq xs.toList.length n)) with
  |true=>rw[hb] at ha;cases ha
  |false=>
  rw[hb,bz] at ha
  obtain⟨rfl,hi,hn⟩:=Nh hk hb
  have gP:=Nf qA hi hn
  split at ha
  ·rename_i es ho
   cases cg:Nat.ble lo o with
   |false=>rw[cg] at ha;simp at ha
   |true=>
   rw[cg] at ha;simp only[aO] at ha
   have kY:lo≤o:=by simpa using cg
   cases hm with
   |map _ b C lU=>
    obtain⟨_,entries,clock,h1,hM⟩:=oP r ho lU
    split at ha
    ·rename_i q0 hq
     simp only[ax] at ha;subst ha
     have oS:(getObj b).run P w=.ok (.map entries clock) w:=by simp[getObj,Sem.run,h1]
     have q1:∀p∈es,p.1=.agg xs→wZ xs p=false:=fun p hp hk=>by unfold wZ;rw[(Ku hq p hp).2 hk];rfl
     have q2:∀p∈es,p.1≠.agg xs→wZ xs p=true:=fun p hp hk=>by
      unfold wZ
      rw[show Cb xs.toList p.1=false from Bool.eq_false_iff.2 fun hh=>hk ((Ku hq p hp).1 hh)];rfl
     obtain⟨i1,i2,i3⟩:=Kt hq
     rcases G8 (P:=P) (w:=w) hM qA hn hq with⟨v1,j,e1,g1,g2,g3,g4,g5⟩|⟨g1,g4,g5⟩
     ·have qz:=zwn hM g2 g3 q1 q2
      obtain⟨h5,h6⟩:=B9 r ho kY lU h1 qz
      refine .mk (v':=Go.undef) ?_ .undef h5 h6
      simp[Builtin.delete_,oS,gP,g5,B8 h1,Go.undef,run_underlying hu]
     have qz:gU U (es.filter (wZ xs)) entries clock:=by
      rw[List.filter_eq_self.2 fun p hp=>q2 p hp (i3 g1 p hp)];exact hM
     obtain⟨h5,h6⟩:=B9 r ho kY lU h1 qz
     refine .mk (v':=Go.undef) ?_ .undef h5 h6
     simp[Builtin.delete_,oS,gP,g5,B8 h1,Go.undef,run_underlying hu]
    simp at ha
  simp at ha
 simp at ha
def vP (P:Program)(h:ah)(t:TypeId)(m k:Value)(ok:Bool):Option Value:=match k with
 |.agg xs=>AG P h t m xs ok
 |k=>vN P h t m k ok
def Cc (P:Program)(lo:Nat)(h:ah)(t:TypeId)(m k v:Value):Option ah:=match k with
 |.agg xs=>Kv P lo h t m xs v
 |k=>Dr P lo h t m k v
def ri (P:Program)(lo:Nat)(h:ah)(t:TypeId)(m k:Value):Option ah:=match k with
 |.agg xs=>Kw P lo h t m xs
 |k=>Du P lo h t m k
theorem z5i {P:Program}{lo:Nat}{U:Mu}{h:ah}{w:World}(r:Rel U lo h w){t:TypeId}{m m' k k' v:Value}{ok:Bool}(hm:ak U m m')(hk:ak U k k')(ha:vP P h t m k ok=some v):eB P lo (Instr.lookup t m' k' ok) U h w v h:=by
 unfold vP at ha
 split at ha
 ·exact zsc r hm hk ha
 exact zwy r hm hk ha
theorem SA {P:Program}{lo:Nat}{U:Mu}{h:ah}{w:World}(r:Rel U lo h w){t:TypeId}{m m' k k' v v':Value}{h':ah}(hm:ak U m m')(hk:ak U k k')(hv:ak U v v')
  (ha:Cc P lo h t m k v=some h'):∃w',(Instr.mapUpdate t m' k' v').run P w=.ok () w'∧Rel U lo h' w'∧Frame lo U h w U h' w':=by
 unfold Cc at ha
 split at ha
 ·exact zn4 r hm hk hv ha
 exact zqj r hm hk hv ha
theorem z9r {P:Program}{lo:Nat}{U:Mu}{h:ah}{w:World}(r:Rel U lo h w){t G6 ty:TypeId}{m m' k k':Value}{h':ah}(hm:ak U m m')(hk:ak U k k')
  (ha:ri P lo h t m k=some h'):eB P lo (Builtin.delete_ #[t,G6] ty #[m',k']) U h w Go.undef h':=by
 unfold ri at ha
 split at ha
 ·exact ztr r hm hk ha
 exact zwx r hm hk ha
def pM (ts:aL):List Operand→Option (List Value)
 |[]=>some []
 |x::r=>match cX ts x,pM ts r with
  |some v,some l=>some (v::l)
  |_,_=>none
theorem Fy {U:Mu}{ts:aL}{a:Act}(h:dA U ts a.tmps):∀ {xs:List Operand} {l:List Value},pM ts xs=some l→bA U l (xs.map a.eval)
 |[],l,hl=>by simp only[pM,ax] at hl;subst hl;exact bA.nil U
 |x::r,l,hl=>by
  simp only[pM] at hl
  split at hl
  ·rename_i v l' h1 h2
   simp only[ax] at hl;subst hl
   exact .cons (gf h h1) (Fy h h2)
  simp at hl
def vQ (ts:aL):List (Nat×Operand)→Option (List (Nat×Value))
 |[]=>some []
 |(i,x)::r=>match cX ts x,vQ ts r with
  |some v,some l=>some ((i,v)::l)
  |_,_=>none
theorem Kx {U:Mu}{ts:aL}{a:Act}(h:dA U ts a.tmps):∀ {xs:List (Nat×Operand)} {l:List (Nat×Value)},vQ ts xs=some l→wR U l (xs.map fun (i,x)=>(i,a.eval x))
 |[],l,hl=>by simp only[vQ,ax] at hl;subst hl;exact⟨rfl,bA.nil U⟩
 |(i,x)::r,l,hl=>by
  simp only[vQ] at hl
  split at hl
  ·rename_i v l' h1 h2
   simp only[ax] at hl;subst hl
   have ih:=Kx h h2
   exact⟨by simp only[List.map_cons];rw[ih.1],.cons (gf h h1) ih.2⟩
  simp at hl
def vR (ts:aL):Option Operand→Option (Option Value)
 |none=>some none
 |some x=>(cX ts x).map some
theorem Ni {U:Mu}{ts:aL}{a:Act}(h:dA U ts a.tmps){x:Option Operand}{v:Option Value}(hv:vR ts x=some v):De U v (x.map a.eval):=by
 cases x with
 |none=>simp only[vR,ax] at hv;subst hv;trivial
 |some x=>
  simp only[vR] at hv
  cases hx:cX ts x with
  |none=>rw[hx] at hv;simp at hv
  |some u=>rw[hx] at hv;simp only[Option.map_some,ax] at hv;subst hv;exact gf h hx
def qB (P:Program)(lo:Nat)(h:ah)(b:Builtin)(argTypes:List TypeId)(args:List Value):Option (Value×ah):=
 match b,argTypes,args with
 |.len,[t],[x]=>(nB P h t x).map (·,h)
 |.cap,[t],[x]=>(AD P t x).map (·,h)
 |.append,[s,x],[a,b]=>q8 P lo h s x a b
 |.copy,[d,_],[a,b]=>Fx P lo h d a b
 |.clear,[t],[x]=>(zm P lo h t x).map fun h'=>(Go.undef,h')
 |.delete,[t,_],[m,k]=>(ri P lo h t m k).map fun h'=>(Go.undef,h')
 |.max,_,x::r=>(jF true x r).map (·,h)
 |.min,_,x::r=>(jF false x r).map (·,h)
 |_,_,_=>none
theorem zsi {P:Program}{lo:Nat}{U:Mu}{h:ah}{w:World}(r:Rel U lo h w){b:Builtin}{aT:Array TypeId}{ty:TypeId}{cs:Array Bool}{args:List Value}{aB:Array Value}{v:Value}{h':ah}
  (ha:bA U args aB.toList) (hb:qB P lo h b aT.toList args=some (v,h')):∃s:Sem Value,(Go.builtin b aT ty cs aB)=(do pure (.value (← s)))∧eB P lo s U h w v h':=by
 have oT:∀ {l:List TypeId},aT.toList=l→aT=l.toArray:=fun hl=>by rw[← hl]
 have eh:∀ {l:List Value},aB.toList=l→aB=l.toArray:=fun hl=>by rw[← hl]
 unfold qB at hb
 split at hb
 ·rename_i t x hl
  obtain⟨x',r1,h1,hx,h2⟩:=ha.dE
  have:=h2.jM;subst this
  rw[oT hl,eh h1]
  cases hq:nB P h t x with
  |none=>rw[hq] at hb;simp at hb
  |some u=>
   rw[hq] at hb;simp only[Option.map_some,ax,bG] at hb;obtain⟨rfl,rfl⟩:=hb
   exact⟨_,rfl,Z7 r hx hq⟩
 ·rename_i t x hl
  obtain⟨x',r1,h1,hx,h2⟩:=ha.dE
  have:=h2.jM;subst this
  rw[oT hl,eh h1]
  cases hq:AD P t x with
  |none=>rw[hq] at hb;simp at hb
  |some u=>
   rw[hq] at hb;simp only[Option.map_some,ax,bG] at hb;obtain⟨rfl,rfl⟩:=hb
   obtain⟨v',g1,g2⟩:=Z8 (w:=w) (ty:=ty) hx hq
   exact⟨_,rfl,.same r g1 g2⟩
 ·rename_i s x a b hl
  obtain⟨a',r1,h1,hx,h2⟩:=ha.dE
  obtain⟨b',r2,rfl,hy,h3⟩:=h2.dE
  have:=h3.jM;subst this
  rw[oT hl,eh h1]
  exact⟨_,rfl,ZY r hx hy hb⟩
 ·rename_i d u a b hl
  obtain⟨a',r1,h1,hx,h2⟩:=ha.dE
  obtain⟨b',r2,rfl,hy,h3⟩:=h2.dE
  have:=h3.jM;subst this
  rw[oT hl,eh h1]
  exact⟨_,rfl,Z6 r hx hy hb⟩
 ·rename_i t x hl
  obtain⟨x',r1,h1,hx,h2⟩:=ha.dE
  have:=h2.jM;subst this
  rw[oT hl,eh h1]
  cases hq:zm P lo h t x with
  |none=>rw[hq] at hb;simp at hb
  |some u=>
   rw[hq] at hb;simp only[Option.map_some,ax,bG] at hb;obtain⟨rfl,rfl⟩:=hb
   exact⟨_,rfl,Z9 r hx hq⟩
 ·rename_i t u m k hl
  obtain⟨a',r1,h1,hx,h2⟩:=ha.dE
  obtain⟨b',r2,rfl,hy,h3⟩:=h2.dE
  have:=h3.jM;subst this
  rw[oT hl,eh h1]
  cases hq:ri P lo h t m k with
  |none=>rw[hq] at hb;simp at hb
  |some u=>
   rw[hq] at hb;simp only[Option.map_some,ax,bG] at hb;obtain⟨rfl,rfl⟩:=hb
   exact⟨_,rfl,z9r r hx hy hq⟩
 ·rename_i x rs
  obtain⟨x',r1,h1,hx,h2⟩:=ha.dE
  cases hq:jF true x rs with
  |none=>rw[hq] at hb;simp at hb
  |some u=>
   rw[hq] at hb;simp only[Option.map_some,ax,bG] at hb;obtain⟨rfl,rfl⟩:=hb
   obtain⟨v',g1,g2⟩:=Sp (P:=P) (w:=w) hx h2 hq
   exact⟨Builtin.max_ aT ty aB,rfl,.same r (by simp only[Builtin.max_,h1];exact g1) g2⟩
 ·rename_i x rs
  obtain⟨x',r1,h1,hx,h2⟩:=ha.dE
  cases hq:jF false x rs with
  |none=>rw[hq] at hb;simp at hb
  |some u=>
   rw[hq] at hb;simp only[Option.map_some,ax,bG] at hb;obtain⟨rfl,rfl⟩:=hb
   obtain⟨v',g1,g2⟩:=Sq (P:=P) (w:=w) hx h2 hq
   exact⟨Builtin.min_ aT ty aB,rfl,.same r (by simp only[Builtin.min_,h1];exact g1) g2⟩
 simp at hb
def cu (P:Program)(lo:Nat)(ts:aL)(h:ah):Op→Option (Value×ah)
 |.move x=>(cX ts x).map (·,h)
 |.assign x=>(cX ts x).map (·,h)
 |.pick c a b=>match cX ts c with
  |some (.bool true)=>(cX ts a).map (·,h)
  |some (.bool false)=>(cX ts b).map (·,h)
  |_=>none
 |.alloc t=>Fl P h t
 |.box _ x=>(cX ts x).map (uH h)
 |.build t parts=>match vQ ts parts.toList with
  |some l=>(Fp P t l).map (·,h)
  |none=>none
 |.buildSlice t n parts=>match vQ ts parts.toList with
  |some l=>Fs P h t n l
  |none=>none
 |.load t a=>match cX ts a with
  |some p=>(uI P h t p).map (·,h)
  |none=>none
 |.store t a x=>match cX ts a,cX ts x with
  |some p,some v=>(B2 P lo h t p v).map fun h'=>(Go.undef,h')
  |_,_=>none
 |.nilCheck x=>match cX ts x with
  |some v=>(Fu v).map (·,h)
  |none=>none
 |.binOp op t x y _=>match cX ts x,cX ts y with
  |some a,some b=>(kV P op t a b).map (·,h)
  |_,_=>none
 |.unOp op _ x=>match cX ts x with
  |some a=>(nv op a).map (·,h)
  |none=>none
 |.convert s d x=>match cX ts x with
  |some a=>(ny P s d a).map (·,h)
  |none=>none
 |.makeFunc (.func f) first captured=>match pM ts first.toList,pM ts captured.toList with
  |some xs,some ys=>some (.func (.func f) xs.toArray ys.toArray,h)
  |_,_=>none
 |.makeMap _ none=>some (.map (some h.next),h.alloc (.map []))
 |.makeSlice t l c=>match cX ts l,cX ts c with
  |some a,some b=>Ft P h t a b
  |_,_=>none
 |.slice t x lo hi mx=>match cX ts x,vR ts lo,vR ts hi,vR ts mx with
  |some v,some l,some u,some m=>(lB P t v l u m).map (·,h)
  |_,_,_,_=>none
 |.fieldAddr s x f=>match cX ts x with
  |some p=>(Fm P s p f).map (·,h)
  |none=>none
 |.field s x f=>match cX ts x with
  |some p=>(GR P s p f).map (·,h)
  |none=>none
 |.indexAddr t x i=>match cX ts x,cX ts i with
  |some a,some b=>(Ap P t a b).map (·,h)
  |_,_=>none
 |.index t x i=>match cX ts x,cX ts i with
  |some a,some b=>(C9 P t a b).map (·,h)
  |_,_=>none
 |.lookup t m k ok=>match cX ts m,cX ts k with
  |some a,some b=>(vP P h t a b ok).map (·,h)
  |_,_=>none
 |.mapUpdate t m k x=>match cX ts m,cX ts k,cX ts x with
  |some a,some b,some c=>(Cc P lo h t a b c).map fun h'=>(Go.undef,h')
  |_,_,_=>none
 |.insert t m k x=>match cX ts m,cX ts k,cX ts x with
  |some a,some b,some c=>(Cc P lo h t a b c).map fun h'=>(Go.undef,h')
  |_,_,_=>none
 |.extract x i=>match cX ts x with
  |some a=>(GS a i).map (·,h)
  |none=>none
 |.call ⟨.builtin b,args,argTypes⟩=>match pM ts args.toList with
  |some l=>qB P lo h b argTypes.toList l
  |none=>none
 |_=>none
def FA (P:Program)(lo:Nat)(s:Sem Next)(U:Mu)(h:ah)(w:World)(v:Value)(h':ah):Prop:=
 ∃nx v' w' aS,s.run P w=.ok nx w'∧(nx=.value v'∨(nx=.skip∧v'=Go.undef))∧ak aS v v'∧Rel aS lo h' w'∧Frame lo U h w aS h' w'
theorem eB.runs {P:Program}{lo:Nat}{s:Sem Value}{U:Mu}{h h':ah}{w:World}{v:Value}(ho:eB P lo s U h w v h'):FA P lo (do pure (.value (← s))) U h w v h':=by
 obtain⟨v',w',aS,h1,h2,h3,h4⟩:=ho
 exact⟨.value v',v',w',aS,by simp[h1],.inl rfl,h2,h3,h4⟩
theorem FA.w8 {P:Program}{lo:Nat}{s:Sem Value}{U:Mu}{h:ah}{w:World}{v:Value}(r:Rel U lo h w)(hs:∃v',s.run P w=.ok v' w∧ak U v v'):FA P lo (do pure (.value (← s))) U h w v h:=
 let ⟨_,h1,h2⟩:=hs
 (eB.same r h1 h2).runs
theorem FA.Nj {P:Program}{lo:Nat}{s:Sem Unit}{U:Mu}{h h':ah}{w:World}(hs:∃w',s.run P w=.ok () w'∧Rel U lo h' w'∧Frame lo U h w U h' w'):FA P lo (do s;pure .skip) U h w Go.undef h':=by
 obtain⟨w',h1,h2,h3⟩:=hs
 exact⟨.skip,Go.undef,w',U,by simp[h1],.inr ⟨rfl,rfl⟩,.undef,h2,h3⟩
theorem dq {α β:Type}{f:α→β}{o:Option α}{b:β}(h:o.map f=some b):∃a,o=some a∧f a=b:=by
 cases o with
 |none=>simp at h
 |some a=>exact⟨a,rfl,by simpa using h⟩
theorem xed {P:Program}{lo:Nat}{U:Mu}{h:ah}{w:World}{ts:aL}{a:Act}{o:Oper}{v:Value}{h':ah}(r:Rel U lo h w)(ht:dA U ts a.tmps)(ha:cu P lo ts h o.op=some (v,h')) :
  FA P lo (execOp a.eval o) U h w v h':=by
 unfold cu at ha
 split at ha
 all_goals (rename_i Nk;try unfold execOp;try rw[Nk])
 ·obtain⟨u,h1,h2⟩:=dq ha
  simp only[bG] at h2;obtain⟨rfl,rfl⟩:=h2
  exact⟨_,_,w,U,rfl,.inl rfl,gf ht h1,r,Frame.refl _ _ _ _⟩
 ·obtain⟨u,h1,h2⟩:=dq ha
  simp only[bG] at h2;obtain⟨rfl,rfl⟩:=h2
  exact⟨_,_,w,U,rfl,.inl rfl,gf ht h1,r,Frame.refl _ _ _ _⟩
 ·rename_i c x y
  split at ha
  ·rename_i hc
   obtain⟨u,h1,h2⟩:=dq ha
   simp only[bG] at h2;obtain⟨rfl,rfl⟩:=h2
   have vS:=gf ht hc
   generalize ja:a.eval c=ce at vS
   cases vS
   exact⟨_,_,w,U,by simp[ja,asBool],.inl rfl,gf ht h1,r,Frame.refl _ _ _ _⟩
  ·rename_i hc
   obtain⟨u,h1,h2⟩:=dq ha
   simp only[bG] at h2;obtain⟨rfl,rfl⟩:=h2
   have vS:=gf ht hc
   generalize ja:a.eval c=ce at vS
   cases vS
   exact⟨_,_,w,U,by simp[ja,asBool],.inl rfl,gf ht h1,r,Frame.refl _ _ _ _⟩
  simp at ha
 ·exact(Zv r ha).runs
 ·rename_i el x
  obtain⟨u,h1,h2⟩:=dq ha
  have:=(Zw (P:=P) r el (gf ht h1)).runs
  rw[h2] at this
  exact this
 ·split at ha
  ·rename_i l hl
   obtain⟨u,h1,h2⟩:=dq ha
   simp only[bG] at h2;obtain⟨rfl,rfl⟩:=h2
   exact .w8 r (ZF (by simpa using Kx ht hl) h1)
  simp at ha
 ·split at ha
  ·rename_i l hl
   exact(ZH r (by simpa using Kx ht hl) ha).runs
  simp at ha
 ·split at ha
  ·rename_i p hp
   obtain⟨u,h1,h2⟩:=dq ha
   simp only[bG] at h2;obtain⟨rfl,rfl⟩:=h2
   exact(MU r (gf ht hp) h1).runs
  simp at ha
 ·split at ha
  ·rename_i p x hp hx
   obtain⟨u,h1,h2⟩:=dq ha
   simp only[bG] at h2;obtain⟨rfl,rfl⟩:=h2
   exact .Nj (Zx r (gf ht hp) (gf ht hx) h1)
  simp at ha
 ·rename_i x
  split at ha
  ·rename_i u hu
   obtain⟨u2,h1,h2⟩:=dq ha
   simp only[bG] at h2;obtain⟨rfl,rfl⟩:=h2
   have hr:=gf ht hu
   generalize lV:a.eval x=xe at hr
   have oQ:=hr
   unfold Fu at h1
   split at h1
   ·simp only[ax] at h1;subst h1
    cases hr with
    |ptr=>exact⟨_,_,w,U,by simp[lV],.inl rfl,oQ,r,Frame.refl _ _ _ _⟩
   ·simp only[ax] at h1;subst h1
    cases hr with
    |func=>exact⟨_,_,w,U,by simp[lV],.inl rfl,oQ,r,Frame.refl _ _ _ _⟩
   simp at h1
  simp at ha
 ·split at ha
  ·rename_i p q hp hq
   obtain⟨u,h1,h2⟩:=dq ha
   simp only[bG] at h2;obtain⟨rfl,rfl⟩:=h2
   exact .w8 r (ZK (gf ht hp) (gf ht hq) h1)
  simp at ha
 ·split at ha
  ·rename_i p hp
   obtain⟨u,h1,h2⟩:=dq ha
   simp only[bG] at h2;obtain⟨rfl,rfl⟩:=h2
   exact .w8 r (ZL (gf ht hp) h1)
  simp at ha
 ·split at ha
  ·rename_i p hp
   obtain⟨u,h1,h2⟩:=dq ha
   simp only[bG] at h2;obtain⟨rfl,rfl⟩:=h2
   exact .w8 r (ZM (gf ht hp) h1)
  simp at ha
 ·rename_i f first captured
  split at ha
  ·rename_i xs ys hx hy
   simp only[ax,bG] at ha;obtain⟨rfl,rfl⟩:=ha
   have e1:=(sV (cs:=xs.toArray) (ar:=first.map a.eval)).1 (by simpa using Fy ht hx)
   have e2:=(sV (cs:=ys.toArray) (ar:=captured.map a.eval)).1 (by simpa using Fy ht hy)
   exact .w8 r ⟨.func (.func f) (first.map a.eval) (captured.map a.eval),by simp[Instr.makeFunc],.func f _ _ _ _ e1.1 e2.1 e1.2 e2.2⟩
  simp at ha
 ·rename_i t
  simp only[ax,bG] at ha;obtain⟨rfl,rfl⟩:=ha
  obtain⟨aS,h1,h2,h3⟩:=Zu r
  exact(eB.mk (P:=P) (s:=Instr.makeMap t none) (v':=.map (some w.heap.size)) (by simp[Instr.makeMap]) (.map _ _ _ h1) h2 h3).runs
 ·split at ha
  ·rename_i p q hp hq
   exact(ZI r (gf ht hp) (gf ht hq) ha).runs
  simp at ha
 ·split at ha
  ·rename_i p q1 q2 q3 hp Ky Cd zo
   obtain⟨u,h1,h2⟩:=dq ha
   simp only[bG] at h2;obtain⟨rfl,rfl⟩:=h2
   exact .w8 r (ZS (gf ht hp) (Ni ht Ky) (Ni ht Cd) (Ni ht zo) h1)
  simp at ha
 ·split at ha
  ·rename_i p hp
   obtain⟨u,h1,h2⟩:=dq ha
   simp only[bG] at h2;obtain⟨rfl,rfl⟩:=h2
   exact .w8 r (Zy (gf ht hp) h1)
  simp at ha
 ·split at ha
  ·rename_i p hp
   obtain⟨u,h1,h2⟩:=dq ha
   simp only[bG] at h2;obtain⟨rfl,rfl⟩:=h2
   exact .w8 r (ZA (gf ht hp) h1)
  simp at ha
 ·split at ha
  ·rename_i p q hp hq
   obtain⟨u,h1,h2⟩:=dq ha
   simp only[bG] at h2;obtain⟨rfl,rfl⟩:=h2
   exact .w8 r (Zz (gf ht hp) (gf ht hq) h1)
  simp at ha
 ·split at ha
  ·rename_i p q hp hq
   obtain⟨u,h1,h2⟩:=dq ha
   simp only[bG] at h2;obtain⟨rfl,rfl⟩:=h2
   exact .w8 r (ZB (gf ht hp) (gf ht hq) h1)
  simp at ha
 ·split at ha
  ·rename_i p q hp hq
   obtain⟨u,h1,h2⟩:=dq ha
   simp only[bG] at h2;obtain⟨rfl,rfl⟩:=h2
   exact(z5i r (gf ht hp) (gf ht hq) h1).runs
  simp at ha
 ·split at ha
  ·rename_i p q x hp hq hx
   obtain⟨u,h1,h2⟩:=dq ha
   simp only[bG] at h2;obtain⟨rfl,rfl⟩:=h2
   exact .Nj (SA r (gf ht hp) (gf ht hq) (gf ht hx) h1)
  simp at ha
 ·split at ha
  ·rename_i p q x hp hq hx
   obtain⟨u,h1,h2⟩:=dq ha
   simp only[bG] at h2;obtain⟨rfl,rfl⟩:=h2
   exact .Nj (SA r (gf ht hp) (gf ht hq) (gf ht hx) h1)
  simp at ha
 ·split at ha
  ·rename_i p hp
   obtain⟨u,h1,h2⟩:=dq ha
   simp only[bG] at h2;obtain⟨rfl,rfl⟩:=h2
   exact .w8 r (ZC (gf ht hp) h1)
  simp at ha
 ·rename_i b args argTypes
  split at ha
  ·rename_i l hl
   have uM:=Fy ht hl
   obtain⟨s,h1,h2⟩:=zsi (ty:=o.type) (cs:=args.map fun|.const _=>true|_=>false) (aB:=args.map a.eval) r (by simpa using uM) ha
   have:((do let d ← resolve a.eval { callee:=.builtin b,args:=args,argTypes:=argTypes } o.type;invoke d.target d.args):Sem Next)=(do pure (.value (← s))):=by
    rw[← h1];rfl
   simp only[this]
   exact h2.runs
  simp at ha
 simp at ha
end Go.Am
end
