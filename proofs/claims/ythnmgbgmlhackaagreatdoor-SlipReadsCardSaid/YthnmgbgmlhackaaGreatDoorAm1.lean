/-
 What is used in the proof of a statement (part Am1); no condition.
-/
import Derived.CallsIn
import Derived.RangeFuncIn
import Derived.OrdersIn
import Derived.Laws.World
import Derived.Laws.Cells
import Derived.Laws.IdiomCopy
import Derived.Laws.StructEq
import Derived.Laws.NewBlocks
import Derived.Laws.Append
import Derived.WideKeyRuns
set_option linter.all false
set_option maxHeartbeats 40000000
set_option maxRecDepth 100000
section
namespace Go.Am
theorem az.{u} {α : Type u} (a b : α) : (some a = some b) = (a = b) := Option.some.injEq a b
theorem bO.{u, v} {α : Type u} {β : Type v} (a : α) (b : β) (c : α) (d : β) : ((a, b) = (c, d)) = (a = c ∧ b = d) := Prod.mk.injEq a b c d
theorem aU {n m : Nat}(h : Nat.ble n m = true) : n ≤ m := Nat.le_of_ble_eq_true h
theorem aM.{u} {α : Sort u} {a b : α} : cond true a b = a := rfl
theorem bq.{u} {α : Sort u} {a b : α} : cond false a b = b := rfl
theorem bV (a b : Bool) : ((a && b) = true) = (a = true ∧ b = true) := Bool.and_eq_true a b
theorem rQ {n m : Nat}(h : Nat.beq n m = true) : n = m := Nat.eq_of_beq_eq_true h
class bG where
  K:Nat
  obj:Nat→Option Obj
  dr:Prop
@[reducible] def bG.no:bG:=⟨0,fun _=>none,True⟩
instance (priority:=1) N8:bG:=bG.no
variable [bG]
inductive Tr (α:Type) where
  |nil
  |node (l:Tr α) (v:Option α) (r:Tr α)
def Tr.get {α:Type}:Tr α→Nat→Option α
 |.nil,_=>none
 |.node l v r,i=>bif Nat.beq i 0 then v else bif Nat.beq (i % 2) 1 then l.get (i / 2) else r.get (i / 2 - 1)
def Tr.set {α:Type}(v:Option α):Nat→Tr α→Nat→Tr α
 |0,t,_=>t
 |n+1,.nil,i=>bif Nat.beq i 0 then .node .nil v .nil else bif Nat.beq (i % 2) 1 then .node (Tr.set v n .nil (i / 2)) none .nil else .node .nil none (Tr.set v n .nil (i / 2 - 1))
 |n+1,.node l u r,i=>bif Nat.beq i 0 then .node l v r else bif Nat.beq (i % 2) 1 then .node (Tr.set v n l (i / 2)) u r else .node l u (Tr.set v n r (i / 2 - 1))
theorem Tr.Js {α:Type}(v:Option α):∀(n:Nat) (t:Tr α) (i j:Nat),i<n→(Tr.set v n t i).get j=if j=i then v else t.get j:=by
 intro n
 induction n with
 |zero=>intro t i j h;omega
 |succ n ih=>
  intro t i j h
  have e0:∀k:Nat,Nat.beq k 0=decide (k=0):=fun k=>by rw[Bool.eq_iff_iff];simp
  have e1:∀k:Nat,Nat.beq k 1=decide (k=1):=fun k=>by rw[Bool.eq_iff_iff];simp
  cases t with
  |nil=>
   simp only[Tr.set,e0,e1]
   by_cases h0:i=0
   ·subst h0
    simp only[decide_true,aM,Tr.get,e0,e1]
    by_cases hj:j=0<;>simp[hj]
   by_cases h1:i % 2=1
   ·simp only[h0,h1,decide_true,decide_false,aM,bq,Tr.get,e0,e1]
    by_cases hj:j=0
    ·have:¬j=i:=by omega
     simp[hj,Ne.symm h0]
    by_cases cZ:j % 2=1
    ·simp only[hj,cZ,decide_true,decide_false,aM,bq]
     rw[ih _ _ _ (by omega)]
     by_cases gY:j=i
     ·subst gY;simp
     have:¬j / 2=i / 2:=by omega
     simp[gY,this,Tr.get]
    have:¬j=i:=by intro hh;subst hh;exact cZ h1
    simp[hj,cZ,this]
   simp only[h0,h1,decide_false,bq,Tr.get,e0,e1]
   by_cases hj:j=0
   ·have:¬j=i:=by omega
    simp[hj,Ne.symm h0]
   by_cases cZ:j % 2=1
   ·have:¬j=i:=by intro hh;subst hh;exact h1 cZ
    simp[hj,cZ,this]
   simp only[hj,cZ,decide_false,bq]
   rw[ih _ _ _ (by omega)]
   by_cases gY:j=i
   ·subst gY;simp
   have:¬j / 2 - 1=i / 2 - 1:=by omega
   simp[gY,this,Tr.get]
  |node l u r=>
   simp only[Tr.set,e0,e1]
   by_cases h0:i=0
   ·subst h0
    simp only[decide_true,aM,Tr.get,e0,e1]
    by_cases hj:j=0<;>simp[hj]
   by_cases h1:i % 2=1
   ·simp only[h0,h1,decide_true,decide_false,aM,bq,Tr.get,e0,e1]
    by_cases hj:j=0
    ·simp[hj,Ne.symm h0]
    by_cases cZ:j % 2=1
    ·simp only[hj,cZ,decide_true,decide_false,aM,bq]
     rw[ih _ _ _ (by omega)]
     by_cases gY:j=i
     ·subst gY;simp
     have:¬j / 2=i / 2:=by omega
     simp[gY,this]
    have:¬j=i:=by intro hh;subst hh;exact cZ h1
    simp[hj,cZ,this]
   simp only[h0,h1,decide_false,bq,Tr.get,e0,e1]
   by_cases hj:j=0
   ·simp[hj,Ne.symm h0]
   by_cases cZ:j % 2=1
   ·have:¬j=i:=by intro hh;subst hh;exact h1 cZ
    simp[hj,cZ,this]
   simp only[hj,cZ,decide_false,bq]
   rw[ih _ _ _ (by omega)]
   by_cases gY:j=i
   ·subst gY;simp
   have:¬j / 2 - 1=i / 2 - 1:=by omega
   simp[gY,this]
structure Jt where
  params:Array Tmp
  assign:Code
  body:Code
  ts:List Value
  tag:Nat
inductive a7 where
  |cells (s:Nat) (cs:List Value)
  |map (es:List (Value×Value))
  |emap (es:List (Value×Value)) (k:Value) (born:Nat)
  |loop (L:Jt) (jump:Option Code)
structure ah where
  next:Nat
  tr:Tr a7
def ah.get (h:ah)(o:Nat):Option a7:=bif Nat.blt o h.next then h.tr.get o else none
def ah.put (h:ah)(o:Nat)(x:Option a7):ah:=⟨h.next,h.tr.set x (o+1) o⟩
def ah.alloc (h:ah)(x:a7):ah:=⟨h.next+1,h.tr.set (some x) (h.next+1) h.next⟩
def ah.empty:ah:=⟨0,.nil⟩
theorem ah.get_eq (h:ah)(o:Nat):h.get o=if o<h.next then h.tr.get o else none:=by
 unfold ah.get
 by_cases ho:o<h.next
 ·have:Nat.blt o h.next=true:=by rw[Nat.blt_eq];exact ho
  simp[this,ho]
 have:Nat.blt o h.next=false:=by rw[← Bool.not_eq_true,Nat.blt_eq];exact ho
 simp[this,ho]
theorem ah.fJ {h:ah}{o:Nat}{x:a7}(hx:h.get o=some x):o<h.next:=by
 rw[ah.get_eq] at hx
 by_cases ho:o<h.next
 ·exact ho
 simp[ho] at hx
theorem ah.dH (h:ah)(o p:Nat)(x:Option a7)(ho:o<h.next):(h.put o x).get p=if p=o then x else h.get p:=by
 simp only[ah.get_eq,ah.put]
 rw[Tr.Js _ _ _ _ _ (by omega)]
 by_cases hp:p=o
 ·subst hp;simp[ho]
 simp[hp]
theorem ah.ij (h:ah)(p:Nat)(x:a7):(h.alloc x).get p=if p=h.next then some x else h.get p:=by
 simp only[ah.get_eq,ah.alloc]
 rw[Tr.Js _ _ _ _ _ (by omega)]
 by_cases hp:p=h.next
 ·subst hp;simp
 by_cases hl:p<h.next
 ·have:p<h.next+1:=by omega
  simp[hp,hl,this]
 have:¬p<h.next+1:=by omega
 simp[hp,hl,this]
@[simp] theorem ah.Hn (h:ah)(o:Nat)(x:Option a7):(h.put o x).next=h.next:=rfl
@[simp] theorem ah.z7h (h:ah)(x:a7):(h.alloc x).next=h.next+1:=rfl
theorem ah.N9 (o:Nat):ah.empty.get o=none:=by simp[ah.get_eq,ah.empty]
abbrev Mu:=Nat→Option (Nat×Nat×Nat)
def ay:Nat:=4611686018427387904
def Mu.le (U ν:Mu):Prop:=∀o x,U o=some x→ν o=some x
theorem Mu.le_refl (U:Mu):U.le U:=fun _ _ h=>h
theorem Mu.le_trans {U ν ρ:Mu}(h:U.le ν)(h':ν.le ρ):U.le ρ:=fun o x hx=>h' o x (h o x hx)
def gj (C k:Nat):Nat:=if k<ay then k else C - (k - ay)
def dI:Nat:=9223372036854775808
inductive aj (U:Mu):Value→Value→Prop where
  |bool (b:Bool):aj U (.bool b) (.bool b)
  |int (k:IntKind) (n:Int):aj U (.int k n) (.int k n)
  |string (s:ByteArray):aj U (.string s) (.string s)
  |nilFunc:aj U .nilFunc .nilFunc
  |nilIface:aj U .nilIface .nilIface
  |lC:aj U (.pointer none) (.pointer none)
  |ptr (o off b a C:Nat) (h:U o=some (b,a,C)):aj U (.pointer (some ⟨o,off,none⟩)) (.pointer (some ⟨b,a+off,none⟩))
  |dK:aj U (.slice none 0 0) (.slice none 0 0)
  |slice (o off l k b a C:Nat) (h:U o=some (b,a,C)) (hl:l≤gj C k) (hk:k<dI):aj U (.slice (some ⟨o,off,none⟩) l k) (.slice (some ⟨b,a+off,none⟩) l (gj C k))
  |bS (p p':Addr) (c:Nat):aj U (.slice (some p) 0 dI) (.slice (some p') 0 c)
  |cg (p p':Addr):aj U (.slice (some p) 0 0) (.slice (some p') 0 0)
  |lD:aj U (.map none) (.map none)
  |map (o b C:Nat) (h:U o=some (b,0,C)):aj U (.map (some o)) (.map (some b))
  |func (f:FuncId) (xs ys bl dv:Array Value) (hx:xs.size=bl.size) (hy:ys.size=dv.size)
      (rx:∀(i:Nat) (h:i<xs.size) (h':i<bl.size),aj U xs[i] bl[i]) (ry:∀(i:Nat) (h:i<ys.size) (h':i<dv.size),aj U ys[i] dv[i]) :
      aj U (.func (.func f) xs ys) (.func (.func f) bl dv)
  |j6 (l b C:Nat) (h:U l=some (b,0,C)):aj U (.func (.yield l) #[] #[]) (.func (.yield b) #[] #[])
  |iface (t:TypeId) (v v':Value) (h:aj U v v'):aj U (.iface t v) (.iface t v')
  |agg (cs ar:Array Value) (hs:cs.size=ar.size) (r:∀(i:Nat) (h:i<cs.size) (h':i<ar.size),aj U cs[i] ar[i]):aj U (.agg cs) (.agg ar)
  |tuple (cs ar:Array Value) (hs:cs.size=ar.size) (r:∀(i:Nat) (h:i<cs.size) (h':i<ar.size),aj U cs[i] ar[i]):aj U (.tuple cs) (.tuple ar)
theorem aj.mono {U ν:Mu}(hle:U.le ν){v v':Value}(h:aj U v v'):aj ν v v':=by
 induction h with
 |bool b=>exact .bool b
 |int k n=>exact .int k n
 |string s=>exact .string s
 |nilFunc=>exact .nilFunc
 |nilIface=>exact .nilIface
 |lC=>exact .lC
 |ptr o off b a C h=>exact .ptr o off b a C (hle _ _ h)
 |dK=>exact .dK
 |slice o off l k b a C h hl hk=>exact .slice o off l k b a C (hle _ _ h) hl hk
 |bS p p' c=>exact .bS p p' c
 |cg p p'=>exact .cg p p'
 |lD=>exact .lD
 |map o b C h=>exact .map o b C (hle _ _ h)
 |func f xs ys bl dv hx hy _ _ rx ry=>exact .func f xs ys bl dv hx hy rx ry
 |j6 l b C h=>exact .j6 l b C (hle _ _ h)
 |iface t v v' _ ih=>exact .iface t v v' ih
 |agg cs ar hs _ r=>exact .agg cs ar hs r
 |tuple cs ar hs _ r=>exact .tuple cs ar hs r
def br (U:Mu)(l l':List Value):Prop:=l.length=l'.length∧∀(i:Nat) (v:Value),l[i]?=some v→∃v',l'[i]?=some v'∧aj U v v'
theorem br.mono {U ν:Mu}(hle:U.le ν){l l':List Value}(h:br U l l'):br ν l l':=
 ⟨h.1,fun i v hv=>let ⟨v',h1,h2⟩:=h.2 i v hv;⟨v',h1,h2.mono hle⟩⟩
theorem br.nil (U:Mu):br U [] []:=⟨rfl,fun i v h=>by simp at h⟩
theorem br.cons {U:Mu}{v v':Value}{l l':List Value}(hv:aj U v v')(h:br U l l'):br U (v::l) (v'::l'):=by
 refine⟨by simp[h.1],fun i u hu=>?_⟩
 cases i with
 |zero=>simp at hu;subst hu;exact⟨v',by simp,hv⟩
 |succ i=>simp at hu;obtain⟨u',h1,h2⟩:=h.2 i u hu;exact⟨u',by simpa using h1,h2⟩
theorem br.iW {U:Mu}{l:List Value}(h:br U [] l):l=[]:=by
 have:=h.1;simp at this;exact List.eq_nil_of_length_eq_zero this.symm
theorem br.dw {U:Mu}{v:Value}{l r:List Value}(h:br U (v::l) r):∃v' l',r=v'::l'∧aj U v v'∧br U l l':=by
 cases r with
 |nil=>have:=h.1;simp at this
 |cons v' l'=>
  obtain⟨u,h1,h2⟩:=h.2 0 v (by simp)
  simp at h1;subst h1
  exact⟨v',l',rfl,h2,by have:=h.1;simpa using this,fun i x hx=>by have:=h.2 (i+1) x (by simpa using hx);simpa using this⟩
theorem br.append {U:Mu}{l l' r r':List Value}(h:br U l l')(h2:br U r r'):br U (l++r) (l'++r'):=by
 refine⟨by simp[h.1,h2.1],fun i v hv=>?_⟩
 by_cases hi:i<l.length
 ·rw[List.getElem?_append_left hi] at hv
  rw[List.getElem?_append_left (by have:=h.1;omega)]
  exact h.2 i v hv
 rw[List.getElem?_append_right (by omega)] at hv
 rw[List.getElem?_append_right (by have:=h.1;omega)]
 have:=h2.2 _ v hv
 rwa [h.1] at this
theorem br.take {U:Mu}{l l':List Value}(n:Nat)(h:br U l l'):br U (l.take n) (l'.take n):=by
 refine⟨by simp[h.1],fun i v hv=>?_⟩
 rw[List.getElem?_take] at hv ⊢
 split at hv
 ·rename_i aY;simp only[aY,if_true];exact h.2 i v hv
 simp at hv
theorem br.drop {U:Mu}{l l':List Value}(n:Nat)(h:br U l l'):br U (l.drop n) (l'.drop n):=by
 refine⟨by simp[h.1],fun i v hv=>?_⟩
 rw[List.getElem?_drop] at hv ⊢
 exact h.2 _ v hv
theorem br.set {U:Mu}{l l':List Value}{v v':Value}(n:Nat)(h:br U l l')(hv:aj U v v'):br U (l.set n v) (l'.set n v'):=by
 refine⟨by simp[h.1],fun i u hu=>?_⟩
 rw[List.getElem?_set] at hu ⊢
 by_cases hi:n=i
 ·subst hi
  simp only[if_true] at hu ⊢
  by_cases hn:n<l.length
  ·simp[hn] at hu;subst hu
   have:n<l'.length:=by have:=h.1;omega
   exact⟨v',by simp[this],hv⟩
  simp[hn] at hu
 simp only[hi,if_false] at hu ⊢
 exact h.2 i u hu
theorem p8 {U:Mu}{cs ar:Array Value}:br U cs.toList ar.toList↔(cs.size=ar.size∧∀(i:Nat) (h:i<cs.size) (h':i<ar.size),aj U cs[i] ar[i]):=by
 constructor
 ·intro ⟨h1,h2⟩
  refine⟨by simpa using h1,fun i hi dJ=>?_⟩
  obtain⟨v',hv,hr⟩:=h2 i cs[i] (by simp[hi])
  simp[dJ] at hv
  rw[hv];exact hr
 intro ⟨h1,h2⟩
 refine⟨by simpa using h1,fun i v hv=>?_⟩
 have hi:i<cs.size:=by
  rcases Nat.lt_or_ge i cs.size with h|h
  ·exact h
  rw[List.getElem?_eq_none (by simpa using h)] at hv;simp at hv
 simp[hi] at hv
 subst hv
 exact⟨ar[i],by simp[h1▸hi],h2 i hi (h1▸hi)⟩
theorem aj.j7 {U:Mu}{cs ar:List Value}(h:br U cs ar):aj U (.agg cs.toArray) (.agg ar.toArray):=by
 have:=(p8 (U:=U) (cs:=cs.toArray) (ar:=ar.toArray)).1 (by simpa using h)
 exact .agg _ _ this.1 this.2
theorem aj.p9 {U:Mu}{cs ar:List Value}(h:br U cs ar):aj U (.tuple cs.toArray) (.tuple ar.toArray):=by
 have:=(p8 (U:=U) (cs:=cs.toArray) (ar:=ar.toArray)).1 (by simpa using h)
 exact .tuple _ _ this.1 this.2
theorem aj.undef {U:Mu}:aj U Go.undef Go.undef:=.tuple #[] #[] rfl (fun i h=>by simp at h)
theorem aj.C3 {U:Mu}{cs:Array Value}{v':Value}(h:aj U (.agg cs) v'):∃ar,v'=.agg ar∧br U cs.toList ar.toList:=by
 cases h with
 |agg _ ar hs r=>exact⟨ar,rfl,p8.2 ⟨hs,r⟩⟩
theorem aj.Oa {U:Mu}{cs:Array Value}{v':Value}(h:aj U (.tuple cs) v'):∃ar,v'=.tuple ar∧br U cs.toList ar.toList:=by
 cases h with
 |tuple _ ar hs r=>exact⟨ar,rfl,p8.2 ⟨hs,r⟩⟩
theorem aj.U0 {U:Mu}{v v':Value}(h:aj U v v'):v'.oneCell'=v.oneCell':=by cases h<;>rfl
theorem aj.cells {U:Mu}{v v':Value}(h:aj U v v'):br U v.cells.toList v'.cells.toList:=by
 cases h with
 |agg cs ar hs r=>exact p8.2 ⟨hs,r⟩
 |tuple cs ar hs r=>simpa[Value.cells] using br.cons (aj.tuple cs ar hs r) (br.nil U)
 |bool b=>simpa[Value.cells] using br.cons (aj.bool b) (br.nil U)
 |int k n=>simpa[Value.cells] using br.cons (aj.int k n) (br.nil U)
 |string s=>simpa[Value.cells] using br.cons (aj.string s) (br.nil U)
 |nilFunc=>simpa[Value.cells] using br.cons (aj.nilFunc) (br.nil U)
 |nilIface=>simpa[Value.cells] using br.cons (aj.nilIface) (br.nil U)
 |lC=>simpa[Value.cells] using br.cons (aj.lC) (br.nil U)
 |ptr o off b a C h=>simpa[Value.cells] using br.cons (aj.ptr o off b a C h) (br.nil U)
 |dK=>simpa[Value.cells] using br.cons (aj.dK) (br.nil U)
 |slice o off l k b a C h hl hk=>simpa[Value.cells] using br.cons (aj.slice o off l k b a C h hl hk) (br.nil U)
 |bS p p' c=>simpa[Value.cells] using br.cons (aj.bS p p' c) (br.nil U)
 |cg p p'=>simpa[Value.cells] using br.cons (aj.cg p p') (br.nil U)
 |lD=>simpa[Value.cells] using br.cons (aj.lD) (br.nil U)
 |map o b C h=>simpa[Value.cells] using br.cons (aj.map o b C h) (br.nil U)
 |func f xs ys bl dv hx hy rx ry=>simpa[Value.cells] using br.cons (aj.func f xs ys bl dv hx hy rx ry) (br.nil U)
 |j6 l b C h=>simpa[Value.cells] using br.cons (aj.j6 l b C h) (br.nil U)
 |iface t v v' h=>simpa[Value.cells] using br.cons (aj.iface t v v' h) (br.nil U)
def AU (U:Mu)(p:Value×Value)(e:MapEntry):Prop:=e.key=p.1∧aj U p.2 e.val
def fR (U:Mu)(es:List (Value×Value))(entries:Array MapEntry)(clock:Nat):Prop:=
 ∃l:List (Value×Value),l.Perm es∧(l.map (·.1)).Nodup∧l.length=entries.size∧(∀(i:Nat) p e,l[i]?=some p→entries[i]?=some e→AU U p e)∧
  (entries.toList.map (·.born)).Pairwise (·<·)∧(∀e∈entries.toList,e.born<clock)
def fD (U:Mu)(w:World)(b a C:Nat):a7→Prop
 | .cells s cs => b < w.heap.size ∧ (∀ (i : Nat) v, cs[i]? = some v → ∃ v', w.cell? ⟨b, a + i, none⟩ = some v' ∧ aj U v v') ∧
  (0<s→cs.length≤C*s∧∀i,i<C*s→∃v',w.cell? ⟨b,a+i,none⟩=some v')
 |.map es=>a=0∧∃entries clock,w.heap[b]?=some (.map entries clock)∧fR U es entries clock
 |.emap es k born=>a=0∧∃entries clock,w.heap[b]?=some (.map entries clock)∧fR U es entries clock∧∃e∈entries.toList,e.key=k∧e.born=born
 |.loop L jump=>a=0∧∃r:Loop,w.heap[b]?=some (.loop r)∧r.state=(if jump.isNone then .ready else .done)∧r.pending=jump∧r.params=L.params∧r.assign=L.assign∧r.body=L.body∧br U L.ts r.tmps.toList
def x8 (U:Mu)(lo:Nat)(h:ah)(b:Nat):Prop:=∃o x a C,lo≤o∧h.get o=some x∧U o=some (b,a,C)
structure Gl (U:Mu) (lo:Nat) (h:ah) (w:World):Prop where
  gl:∀b,b<bG.K→w.heap[b]?=bG.obj b
  ks:bG.K≤w.heap.size
  hi:∀o x b a C,lo≤o→h.get o=some x→U o=some (b,a,C)→bG.K≤b
theorem Gl.step {U aQ:Mu}{lo eX:Nat}{h h':ah}{w w':World}(g:Gl U lo h w)(hs:w.heap.size≤w'.heap.size)(hk:∀b,b<w.heap.size→¬x8 U lo h b→w'.heap[b]?=w.heap[b]?)(ho:∀o x b a C,eX≤o→h'.get o=some x→aQ o=some (b,a,C)→b<w.heap.size→x8 U lo h b):Gl aQ eX h' w' where
  gl b hb:=by
    rw[hk b (Nat.lt_of_lt_of_le hb g.ks) fun⟨o,x,a,C,h1,h2,h3⟩=>by have:=g.hi o x b a C h1 h2 h3;omega]
    exact g.gl b hb
  ks:=Nat.le_trans g.ks hs
  hi o x b a C h1 h2 h3:=by
    by_cases hb:b<w.heap.size
    · obtain⟨o',x',a',C',k1,k2,k3⟩:=ho o x b a C h1 h2 h3 hb
      exact g.hi o' x' b a' C' k1 k2 k3
    have:=g.ks;omega
theorem Gl.same {U:Mu}{lo eX:Nat}{h h':ah}{w w':World}(g:Gl U lo h w)(hw:w'.heap=w.heap)(hs:∀o x,eX≤o→h'.get o=some x→lo≤o∧∃y,h.get o=some y):Gl U eX h' w':=
 g.step (by rw[hw];exact Nat.le_refl _) (fun b _ _=>by rw[hw]) fun o x b a C h1 h2 h3 _=>let ⟨k1,y,k2⟩:=hs o x h1 h2;⟨o,y,a,C,k1,k2,h3⟩
structure Rel (U:Mu) (lo:Nat) (h:ah) (w:World):Prop where
  bg:∀o x,h.get o=some x→∃b a C,U o=some (b,a,C)∧fD U w b a C x
  inj:∀o o' x x' b a C a' C',lo≤o→h.get o=some x→h.get o'=some x'→U o=some (b,a,C)→U o'=some (b,a',C')→o=o'
  nE:∀o x,U o=some x→o<h.next
  eI:∀o x b a C,lo≤o→h.get o=some x→U o=some (b,a,C)→∀off,w.frozen? ⟨b,off,none⟩=false
  bI:lo≤h.next
  jE:Gl U lo h w
structure Calm (w w':World):Prop where
  os:w'.os=w.os
  out:w'.output=w.output
  tape:w'.tape=w.tape
  drawn:bG.dr→w.drawn≤w'.drawn
theorem Calm.refl (w:World):Calm w w:=⟨rfl,rfl,rfl,fun _=>Nat.le_refl _⟩
theorem Calm.trans {a b c:World}(h:Calm a b)(g:Calm b c):Calm a c:=⟨g.1.trans h.1,g.2.trans h.2,g.3.trans h.3,fun hd=>Nat.le_trans (h.4 hd) (g.4 hd)⟩
structure Frame (lo:Nat) (U:Mu) (h:ah) (w:World) (aQ:Mu) (h':ah) (w':World):Prop where
  le:U.le aQ
  size:w.heap.size≤w'.heap.size
  next:h.next≤h'.next
  kept:∀b,b<w.heap.size→¬x8 U lo h b→w'.heap[b]?=w.heap[b]?
  own:∀b,b<w.heap.size→x8 aQ lo h' b→x8 U lo h b
  low:∀o,o<lo→h'.get o=h.get o
  fS:∀o,o<h.next→aQ o=U o
  born:∀o,o<h.next→h.get o=none→h'.get o=none
  calm:Calm w w'
theorem Frame.refl (lo:Nat)(U:Mu)(h:ah)(w:World):Frame lo U h w U h w:=⟨Mu.le_refl U,Nat.le_refl _,Nat.le_refl _,fun _ _ _=>rfl,fun _ _ h=>h,fun _ _=>rfl,fun _ _=>rfl,fun _ _ h=>h,.refl w⟩
theorem Frame.trans {lo:Nat}{U mX zM:Mu}{h h1 h2:ah}{w w1 w2:World}(f:Frame lo U h w mX h1 w1)(g:Frame lo mX h1 w1 zM h2 w2):Frame lo U h w zM h2 w2 where
  le:=Mu.le_trans f.le g.le
  size:=Nat.le_trans f.size g.size
  next:=Nat.le_trans f.next g.next
  kept b hb hn:=by rw[g.kept b (Nat.lt_of_lt_of_le hb f.size) (fun ho=>hn (f.own b hb ho)),f.kept b hb hn]
  own b hb ho:=f.own b hb (g.own b (Nat.lt_of_lt_of_le hb f.size) ho)
  low o ho:=by rw[g.low o ho,f.low o ho]
  fS o ho:=by rw[g.fS o (Nat.lt_of_lt_of_le ho f.next),f.fS o ho]
  born o ho hn:=g.born o (Nat.lt_of_lt_of_le ho f.next) (f.born o ho hn)
  calm:=f.calm.trans g.calm
theorem Gl.frame {U aQ:Mu}{lo:Nat}{h h':ah}{w w':World}(g:Gl U lo h w)(f:Frame lo U h w aQ h' w'):Gl aQ lo h' w':=
 g.step f.size f.kept fun o x b a C hl hx hm hb=>f.own b hb ⟨o,x,a,C,hl,hx,hm⟩
theorem Rel.Ju {U aQ:Mu}{lo:Nat}{h h':ah}{w w':World}(r:Rel U lo h w)
 (bg:∀o x,h'.get o=some x→∃b a C,aQ o=some (b,a,C)∧fD aQ w' b a C x)
 (inj:∀o o' x x' b a C a' C',lo≤o→h'.get o=some x→h'.get o'=some x'→aQ o=some (b,a,C)→aQ o'=some (b,a',C')→o=o')
 (nE:∀o x,aQ o=some x→o<h'.next)
 (eI:∀o x b a C,lo≤o→h'.get o=some x→aQ o=some (b,a,C)→∀off,w'.frozen? ⟨b,off,none⟩=false)
 (bI:lo≤h'.next) (f:Frame lo U h w aQ h' w'):Rel aQ lo h' w'∧Frame lo U h w aQ h' w':=⟨⟨bg,inj,nE,eI,bI,r.jE.frame f⟩,f⟩
theorem AV {w w':World}{b off:Nat}(h:w'.heap[b]?=w.heap[b]?):w'.cell? ⟨b,off,none⟩=w.cell? ⟨b,off,none⟩:=by
 simp[World.cell?,h]
theorem x9 {w w':World}{b off:Nat}(h:w'.heap[b]?=w.heap[b]?):w'.frozen? ⟨b,off,none⟩=w.frozen? ⟨b,off,none⟩:=by
 simp[World.frozen?,h]
theorem fR.mono {U ν:Mu}(hle:U.le ν){es:List (Value×Value)}{entries:Array MapEntry}{clock:Nat}(h:fR U es entries clock):fR ν es entries clock:=by
 obtain⟨l,h1,h0,h2,h3,h4,h5⟩:=h
 exact⟨l,h1,h0,h2,fun i p e hp he=>⟨(h3 i p e hp he).1,(h3 i p e hp he).2.mono hle⟩,h4,h5⟩
theorem fD.mono {U ν:Mu}(hle:U.le ν){w:World}{b a C:Nat}{x:a7}(h:fD U w b a C x):fD ν w b a C x:=by
 cases x with
 |cells s cs=>exact⟨h.1,fun i v hv=>let ⟨v',h1,h2⟩:=h.2.1 i v hv;⟨v',h1,h2.mono hle⟩,h.2.2⟩
 |map es=>obtain⟨h1,entries,clock,h2,h3⟩:=h;exact⟨h1,entries,clock,h2,h3.mono hle⟩
 |emap es k born=>obtain⟨h1,entries,clock,h2,h3,h4⟩:=h;exact⟨h1,entries,clock,h2,h3.mono hle,h4⟩
 |loop L jump=>obtain⟨h1,r,h2,h3,h4,h5,h6,h7,h8⟩:=h;exact⟨h1,r,h2,h3,h4,h5,h6,h7,h8.mono hle⟩
theorem fD.qW {U:Mu}{w:World}{b a C:Nat}{x:a7}(h:fD U w b a C x):b<w.heap.size:=by
 cases x with
 |cells s cs=>exact h.1
 |map es=>
  obtain⟨_,entries,clock,h2,_⟩:=h
  rcases Nat.lt_or_ge b w.heap.size with h'|h'
  ·exact h'
  simp[Array.getElem?_eq_none h'] at h2
 |emap es k born=>
  obtain⟨_,entries,clock,h2,_⟩:=h
  rcases Nat.lt_or_ge b w.heap.size with h'|h'
  ·exact h'
  simp[Array.getElem?_eq_none h'] at h2
 |loop L jump=>
  obtain⟨_,r,h2,_⟩:=h
  rcases Nat.lt_or_ge b w.heap.size with h'|h'
  ·exact h'
  simp[Array.getElem?_eq_none h'] at h2
theorem fD.kept {U:Mu}{w w':World}{b a C:Nat}{x:a7}(h:fD U w b a C x)(hb:w'.heap[b]?=w.heap[b]?):fD U w' b a C x:=by
 have aY:b<w'.heap.size:=by
  have h0:=h.qW
  rcases Nat.lt_or_ge b w'.heap.size with h'|h'
  ·exact h'
  rw[Array.getElem?_eq_none h',Array.getElem?_eq_getElem h0] at hb;simp at hb
 cases x with
 |cells s cs=>
  refine⟨aY,fun i v hv=>?_,fun hs=>⟨(h.2.2 hs).1,fun i hi=>?_⟩⟩
  ·obtain⟨v',h1,h2⟩:=h.2.1 i v hv
   exact⟨v',by rw[AV hb];exact h1,h2⟩
  obtain⟨v',h1⟩:=(h.2.2 hs).2 i hi
  exact⟨v',by rw[AV hb];exact h1⟩
 |map es=>obtain⟨h1,entries,clock,h2,h3⟩:=h;exact⟨h1,entries,clock,by rw[hb];exact h2,h3⟩
 |emap es k born=>obtain⟨h1,entries,clock,h2,h3⟩:=h;exact⟨h1,entries,clock,by rw[hb];exact h2,h3⟩
 |loop L jump=>obtain⟨h1,r,h2,h3⟩:=h;exact⟨h1,r,by rw[hb];exact h2,h3⟩
theorem Rel.sub {U:Mu}{lo eX:Nat}{h h':ah}{w:World}(r:Rel U lo h w)(hn:h.next≤h'.next)(hs:∀o x,h'.get o=some x→h.get o=some x)(cC:lo≤eX)(hl:eX≤h'.next):Rel U eX h' w where
  bI:=hl
  jE:=r.jE.same rfl fun o x h1 h2=>⟨Nat.le_trans cC h1,x,hs o x h2⟩
  bg o x hx:=r.bg o x (hs o x hx)
  inj o o' x x' b a C a' C' hl hx tt:=r.inj o o' x x' b a C a' C' (Nat.le_trans cC hl) (hs o x hx) (hs o' x' tt)
  nE o x hx:=Nat.lt_of_lt_of_le (r.nE o x hx) hn
  eI o x b a C hl hx:=r.eI o x b a C (Nat.le_trans cC hl) (hs o x hx)
theorem Rel.drew {U:Mu}{lo:Nat}{h:ah}{w:World}(r:Rel U lo h w):Rel U lo h w.drew where
  bg o x hx:=let ⟨b,a,C,h1,h2⟩:=r.bg o x hx;⟨b,a,C,h1,h2.kept rfl⟩
  inj:=r.inj
  nE:=r.nE
  eI:=r.eI
  bI:=r.bI
  jE:=r.jE.same rfl fun o x h1 h2=>⟨h1,x,h2⟩
theorem Frame.drew (lo:Nat)(U:Mu)(h:ah)(w:World):Frame lo U h w U h w.drew:=⟨Mu.le_refl U,Nat.le_refl _,Nat.le_refl _,fun _ _ _=>rfl,fun _ _ h=>h,fun _ _=>rfl,fun _ _=>rfl,fun _ _ h=>h,⟨rfl,rfl,rfl,fun _=>by first|exact Nat.le_refl _|exact Nat.le_add_right _ _|exact Nat.le_succ _⟩⟩
end Go.Am
end
section
namespace Go.Am
variable [bG]
def Mu.put (U:Mu)(o:Nat)(x:Nat×Nat×Nat):Mu:=fun p=>if p=o then some x else U p
theorem Mu.cz (U:Mu)(o:Nat)(x:Nat×Nat×Nat):U.put o x o=some x:=by simp[Mu.put]
theorem Mu.iX {U:Mu}{o p:Nat}(x:Nat×Nat×Nat)(h:p≠o):U.put o x p=U p:=by simp[Mu.put,h]
theorem Rel.Ob {U:Mu}{lo:Nat}{h:ah}{w:World}(r:Rel U lo h w){o:Nat}(ho:h.next≤o):U o=none:=by
 cases hx:U o with
 |none=>rfl
 |some x=>have:=r.nE o x hx;omega
theorem Rel.AX {U:Mu}{lo:Nat}{h:ah}{w:World}(r:Rel U lo h w)(x:Nat×Nat×Nat):U.le (U.put h.next x):=by
 intro o y hy
 have:o≠h.next:=by
  intro ho;subst ho
  rw[r.Ob (Nat.le_refl _)] at hy;simp at hy
 rw[Mu.iX _ this];exact hy
theorem heap_alloc (w:World)(o:Obj):(w.alloc o).heap=w.heap.push o:=rfl
theorem heap_alloc_old (w:World)(o:Obj){b:Nat}(hb:b<w.heap.size):(w.alloc o).heap[b]?=w.heap[b]?:=by
 have:b≠w.heap.size:=by omega
 rw[heap_alloc,Array.getElem?_push];simp[this]
theorem Jv {U:Mu}{lo:Nat}{h:ah}{w:World}(r:Rel U lo h w)(ob:Obj)(C:Nat)(x:a7)
  (hx:fD (U.put h.next (w.heap.size,0,C)) (w.alloc ob) w.heap.size 0 C x) (hf:∀off,(w.alloc ob).frozen? ⟨w.heap.size,off,none⟩=false) :
  Rel (U.put h.next (w.heap.size,0,C)) lo (h.alloc x) (w.alloc ob)∧Frame lo U h w (U.put h.next (w.heap.size,0,C)) (h.alloc x) (w.alloc ob):=by
 have hle:=r.AX (w.heap.size,0,C)
 have hold:∀o y,h.get o=some y→o≠h.next:=fun o y hy=>by have:=ah.fJ hy;omega
 have hblk:∀o y b a C',h.get o=some y→U o=some (b,a,C')→b<w.heap.size:=fun o y b a C' hy hm=>by
  obtain⟨b',a',oL,h1,h2⟩:=r.bg o y hy
  rw[hm] at h1;injection h1 with h1;injection h1 with h1 _;subst h1
  exact h2.qW
 constructor
 ·constructor
  ·intro o y hy
   rw[ah.ij] at hy
   by_cases ho:o=h.next
   ·subst ho
    simp at hy;subst hy
    exact⟨_,_,_,Mu.cz _ _ _,hx⟩
   simp[ho] at hy
   obtain⟨b,a,C',h1,h2⟩:=r.bg o y hy
   exact⟨b,a,C',by rw[Mu.iX _ ho];exact h1,(h2.mono hle).kept (heap_alloc_old _ _ h2.qW)⟩
  ·intro o o' y y' b a C' a' oL hl hy oM hm eu
   rw[ah.ij] at hy oM
   by_cases ho:o=h.next
   ·by_cases lE:o'=h.next
    ·rw[ho,lE]
    simp[lE] at oM
    rw[Mu.iX _ lE] at eu
    have:=hblk o' y' _ _ _ oM eu
    subst ho;rw[Mu.cz] at hm;injection hm with hm;injection hm with hm _;omega
   simp[ho] at hy
   rw[Mu.iX _ ho] at hm
   have h1:=hblk o y _ _ _ hy hm
   by_cases lE:o'=h.next
   ·subst lE;rw[Mu.cz] at eu;injection eu with eu;injection eu with eu _;omega
   simp[lE] at oM
   rw[Mu.iX _ lE] at eu
   exact r.inj o o' y y' b a C' a' oL hl hy oM hm eu
  ·intro o y hy
   by_cases ho:o=h.next
   ·subst ho;simp
   rw[Mu.iX _ ho] at hy
   have:=r.nE o y hy
   simp;omega
  ·intro o y b a C' hl hy hm off
   rw[ah.ij] at hy
   by_cases ho:o=h.next
   ·subst ho
    rw[Mu.cz] at hm;injection hm with hm;injection hm with hm _;subst hm
    exact hf off
   simp[ho] at hy
   rw[Mu.iX _ ho] at hm
   rw[x9 (heap_alloc_old _ _ (hblk o y _ _ _ hy hm))]
   exact r.eI o y b a C' hl hy hm off
  ·have:=r.bI;simp;omega
  refine r.jE.step (by simp) (fun b hb _=>heap_alloc_old _ _ hb) fun o y b a C' hl hy hm hb=>?_
  rw[ah.ij] at hy
  by_cases ho:o=h.next
  ·subst ho;rw[Mu.cz] at hm;injection hm with hm;injection hm with hm _;omega
  simp[ho] at hy
  rw[Mu.iX _ ho] at hm
  exact⟨o,y,a,C',hl,hy,hm⟩
 refine⟨hle,by simp,by simp,fun b hb _=>heap_alloc_old _ _ hb,fun b hb=>?_,fun o ho=>?_,fun o ho=>Mu.iX _ (by omega),fun o ho hn=>by rw[ah.ij,if_neg (by omega)];exact hn,⟨rfl,rfl,rfl,fun _=>by first|exact Nat.le_refl _|exact Nat.le_add_right _ _|exact Nat.le_succ _⟩⟩
 ·rintro⟨o,y,a,C',hl,hy,hm⟩
  rw[ah.ij] at hy
  by_cases ho:o=h.next
  ·subst ho;rw[Mu.cz] at hm;injection hm with hm;injection hm with hm _;omega
  simp[ho] at hy
  rw[Mu.iX _ ho] at hm
  exact⟨o,y,a,C',hl,hy,hm⟩
 rw[ah.ij]
 have:=r.bI
 have:o≠h.next:=by omega
 simp[this]
theorem Oc {U:Mu}{lo:Nat}{h:ah}{w:World}(r:Rel U lo h w)(arr:Array Value)(ty:TypeId)(s C:Nat)(cs:List Value)
  (hc:∀(i:Nat) v,cs[i]?=some v→∃v',arr[i]?=some v'∧aj U v v') (hs:0<s→cs.length≤C*s∧C*s≤arr.size) :
  ∃aQ,aQ h.next=some (w.heap.size,0,C)∧Rel aQ lo (h.alloc (.cells s cs)) (w.alloc (.cells arr ty))∧Frame lo U h w aQ (h.alloc (.cells s cs)) (w.alloc (.cells arr ty)):=by
 refine⟨U.put h.next (w.heap.size,0,C),Mu.cz _ _ _,Jv r _ C _ ?_ (fun off=>by simp)⟩
 refine⟨by simp,fun i v hv=>?_,fun h0=>⟨(hs h0).1,fun i hi=>?_⟩⟩
 ·obtain⟨v',h1,h2⟩:=hc i v hv
  exact⟨v',by simpa using h1,h2.mono (r.AX _)⟩
 have dJ:i<arr.size:=Nat.lt_of_lt_of_le hi (hs h0).2
 exact⟨arr[i],by simp[dJ]⟩
theorem U1 {U:Mu}{lo:Nat}{h:ah}{w:World}(r:Rel U lo h w) :
  ∃aQ,aQ h.next=some (w.heap.size,0,0)∧Rel aQ lo (h.alloc (.map [])) (w.alloc (.map #[] 0))∧Frame lo U h w aQ (h.alloc (.map [])) (w.alloc (.map #[] 0)):=by
 refine⟨U.put h.next (w.heap.size,0,0),Mu.cz _ _ _,Jv r _ 0 _ ?_ (fun off=>?_)⟩
 ·refine⟨rfl,#[],0,by rw[heap_alloc];simp,⟨[],.nil,by simp,rfl,fun i p e h=>by simp at h,by simp,fun e h=>by simp at h⟩⟩
 simp only[World.frozen?,heap_alloc];simp
theorem Jw {U:Mu}{lo:Nat}{h:ah}{w w':World}(r:Rel U lo h w){o:Nat}{x:a7}(hx:h.get o=some x)(hl:lo≤o){b a C:Nat}(hm:U o=some (b,a,C))(y:a7)
  (fp:w'.heap.size=w.heap.size) (hk:∀b',b'≠b→w'.heap[b']?=w.heap[b']?) (hy:fD U w' b a C y) (rR:∀off,w'.frozen? ⟨b,off,none⟩=false) (uC:Calm w w') :
  Rel U lo (h.put o (some y)) w'∧Frame lo U h w U (h.put o (some y)) w':=by
 have aY:=ah.fJ hx
 have ev:∀p z b' a' C',h.get p=some z→U p=some (b',a',C')→p≠o→b'≠b:=fun p z b' a' C' hz eu hp hb=>by
  subst hb;exact hp (r.inj o p x z b' a C a' C' hl hx hz hm eu).symm
 constructor
 ·constructor
  ·intro p z hz
   rw[ah.dH _ _ _ _ aY] at hz
   by_cases hp:p=o
   ·subst hp;simp at hz;subst hz;exact⟨b,a,C,hm,hy⟩
   simp[hp] at hz
   obtain⟨b',a',C',h1,h2⟩:=r.bg p z hz
   exact⟨b',a',C',h1,h2.kept (hk b' (ev p z b' a' C' hz h1 hp))⟩
  ·intro p p' z z' b' a' C' wZ oL uD hz jT cq gC
   rw[ah.dH _ _ _ _ aY] at hz jT
   by_cases hp:p=o
   ·by_cases qX:p'=o
    ·rw[hp,qX]
    simp[qX] at jT;subst hp
    exact r.inj p p' x z' b' a' C' wZ oL uD hx jT cq gC
   simp[hp] at hz
   by_cases qX:p'=o
   ·subst qX;exact r.inj p p' z x b' a' C' wZ oL uD hz hx cq gC
   simp[qX] at jT
   exact r.inj p p' z z' b' a' C' wZ oL uD hz jT cq gC
  ·exact fun p z hz=>r.nE p z hz
  ·intro p z b' a' C' oh hz eu off
   rw[ah.dH _ _ _ _ aY] at hz
   by_cases hp:p=o
   ·subst hp;rw[hm] at eu;injection eu with eu;injection eu with eu _;subst eu;exact rR off
   simp[hp] at hz
   rw[x9 (hk b' (ev p z b' a' C' hz eu hp))]
   exact r.eI p z b' a' C' oh hz eu off
  ·exact r.bI
  refine r.jE.step (by omega) (fun b' _ hn=>hk b' (fun hb=>hn (hb▸⟨o,x,a,C,hl,hx,hm⟩))) fun p z b' a' C' oh hz eu _=>?_
  rw[ah.dH _ _ _ _ aY] at hz
  by_cases hp:p=o
  ·subst hp;exact⟨p,x,a',C',oh,hx,eu⟩
  simp[hp] at hz;exact⟨p,z,a',C',oh,hz,eu⟩
 refine⟨Mu.le_refl U,by omega,by simp,fun b' _ hn=>hk b' (fun hb=>hn (hb▸⟨o,x,a,C,hl,hx,hm⟩)),fun b' _=>?_,fun p hp=>?_,fun _ _=>rfl,fun p hp hn=>by rw[ah.dH _ _ _ _ aY,if_neg (by intro h;subst h;rw[hx] at hn;cases hn)];exact hn,uC⟩
 ·rintro⟨p,z,a',C',oh,hz,eu⟩
  rw[ah.dH _ _ _ _ aY] at hz
  by_cases hp:p=o
  ·subst hp;exact⟨p,x,a',C',oh,hx,eu⟩
  simp[hp] at hz;exact⟨p,z,a',C',oh,hz,eu⟩
 rw[ah.dH _ _ _ _ aY]
 have:p≠o:=by omega
 simp[this]
theorem heap_setCell_other (w:World)(a:Addr)(v:Value){b:Nat}(hb:b≠a.block):(w.setCell a v).heap[b]?=w.heap[b]?:=by
 have:a.block≠b:=fun h=>hb h.symm
 simp[World.setCell,Array.getElem?_modify,this]
theorem Jx (b:Nat):∀(vs:List Value) (o:Nat) (w:World) {b':Nat},b'≠b→(w.setCells b o vs).heap[b']?=w.heap[b']?
 |[],_,_,_,_=>rfl
 |v::r,o,w,b',hb=>by
  show ((w.setCell ⟨b,o,none⟩ v).setCells b (o+1) r).heap[b']?=_
  rw[Jx b r (o+1) _ hb,heap_setCell_other _ _ _ hb]
theorem Er (b:Nat):∀(vs:List Value) (o:Nat) (w:World),(w.setCells b o vs).heap.size=w.heap.size
 |[],_,_=>rfl
 |v::r,o,w=>by
  show ((w.setCell ⟨b,o,none⟩ v).setCells b (o+1) r).heap.size=_
  rw[Er b r (o+1) _];simp
def fq (cs:List Value)(off:Nat)(vs:List Value):List Value:=cs.take off++vs++cs.drop (off+vs.length)
theorem Jy (cs:List Value)(off:Nat)(vs:List Value)(h:off+vs.length≤cs.length):(fq cs off vs).length=cs.length:=by
 simp[fq];omega
theorem Ho (cs:List Value)(off:Nat)(vs:List Value)(h:off+vs.length≤cs.length)(i:Nat) :
  (fq cs off vs)[i]?=if off≤i∧i<off+vs.length then vs[i - off]? else cs[i]?:=by
 unfold fq
 by_cases h1:i<off
 ·have:¬(off≤i∧i<off+vs.length):=by omega
  simp only[this,if_false]
  rw[List.append_assoc,List.getElem?_append_left (by simp;omega),List.getElem?_take];simp[h1]
 by_cases h2:i<off+vs.length
 ·have:off≤i∧i<off+vs.length:=by omega
  simp only[this,and_self,if_true]
  rw[List.append_assoc,List.getElem?_append_right (by simp;omega),List.getElem?_append_left (by simp;omega)]
  congr 1
  simp;omega
 have:¬(off≤i∧i<off+vs.length):=by omega
 simp only[this,if_false]
 rw[List.getElem?_append_right (by simp;omega),List.getElem?_drop]
 congr 1
 simp;omega
theorem Jz (b:Nat):∀(vs:List Value) (o:Nat) (w:World),Calm w (w.setCells b o vs)
 |[],_,w=>.refl w
 |v::r,o,w=>Calm.trans (by unfold World.setCell;split<;>exact⟨rfl,rfl,rfl,fun _=>Nat.le_refl _⟩:Calm w (w.setCell ⟨b,o,none⟩ v)) (Jz b r (o+1) _)
theorem C4 {U:Mu}{lo:Nat}{h:ah}{w:World}(r:Rel U lo h w){o s:Nat}{cs:List Value}(hx:h.get o=some (.cells s cs))(hl:lo≤o){b a C:Nat}(hm:U o=some (b,a,C))
  (off:Nat) (vs kJ:List Value) (hv:br U vs kJ) (hlen:off+vs.length≤cs.length) :
  Rel U lo (h.put o (some (.cells s (fq cs off vs)))) (w.setCells b (a+off) kJ)∧Frame lo U h w U (h.put o (some (.cells s (fq cs off vs)))) (w.setCells b (a+off) kJ):=by
 obtain⟨b',a',C',h1,h2⟩:=r.bg o _ hx
 rw[hm] at h1;injection h1 with h1;injection h1 with h1 nF;injection nF with nF AY;subst h1 nF AY
 obtain⟨hb,oN,qY⟩:=h2
 have j8:∀j,j<kJ.length→(w.cell? ⟨b,a+off+j,none⟩).isSome=true:=fun j hj=>by
  have mY:off+j<cs.length:=by have:=hv.1;omega
  obtain⟨v',h3,_⟩:=oN (off+j) cs[off+j] (by simp[mY])
  rw[show a+off+j=a+(off+j) by omega,h3];rfl
 refine Jw r hx hl hm _ (Er _ _ _ _) (fun b' oO=>Jx _ _ _ _ oO) ?_ (fun mD=>by rw[World.frozen?_setCells];exact r.eI o _ b a C hl hx hm mD) (Jz _ _ _ _)
 refine⟨by rw[Er];exact hb,fun i v hi=>?_,fun h0=>?_⟩
 ·rw[Ho _ _ _ hlen] at hi
  by_cases dm:off≤i∧i<off+vs.length
  ·simp only[dm,and_self,if_true] at hi
   obtain⟨v',h3,h4⟩:=hv.2 _ v hi
   have hj:i - off<kJ.length:=by have:=hv.1;omega
   refine⟨v',?_,h4⟩
   have:=World.cell?_setCells_in b kJ (a+off) w j8 (i - off) hj
   rw[show a+off+(i - off)=a+i by omega] at this
   rw[this]
   rw[List.getElem?_eq_getElem hj] at h3
   exact h3
  simp only[dm,if_false] at hi
  obtain⟨v',h3,h4⟩:=oN i v hi
  refine⟨v',?_,h4⟩
  rw[World.cell?_setCells_out b kJ (a+off) w _ (fun _ _=>by have:=hv.1;simp;omega)]
  exact h3
 rw[Jy _ _ _ hlen]
 refine⟨(qY h0).1,fun i hi=>?_⟩
 obtain⟨v',h3⟩:=(qY h0).2 i hi
 by_cases dm:off≤i∧i<off+kJ.length
 ·have hj:i - off<kJ.length:=by omega
  have:=World.cell?_setCells_in b kJ (a+off) w j8 (i - off) hj
  rw[show a+off+(i - off)=a+i by omega] at this
  exact⟨_,this⟩
 refine⟨v',?_⟩
 rw[World.cell?_setCells_out b kJ (a+off) w _ (fun _ _=>by simp;omega)]
 exact h3
abbrev aI:=List Value
def tu:Value→Bool
 |.bool _|.int _ _|.string _|.nilFunc|.nilIface|.pointer none|.map none=>true
 |.slice none 0 0=>true
 |_=>false
def kK:Value→Bool
 |.agg cs=>cs.toList.all tu
 |.tuple cs=>cs.toList.all tu
 |v=>tu v
theorem aj.Od {U:Mu}{v:Value}(h:tu v=true):aj U v v:=by
 unfold tu at h
 split at h<;>first|exact .bool _|exact .int _ _|exact .string _|exact .nilFunc|exact .nilIface|exact .lC|exact .lD|exact .dK|cases h
theorem br.Oe {U:Mu}{l:List Value}(h:l.all tu=true):br U l l:=
 ⟨rfl,fun i v hv=>⟨v,hv,.Od (by rw[List.all_eq_true] at h;exact h v (List.mem_of_getElem? hv))⟩⟩
theorem aj.yb {U:Mu}{v:Value}(h:kK v=true):aj U v v:=by
 unfold kK at h
 split at h
 ·have:=aj.j7 (br.Oe (U:=U) h);simpa using this
 ·have:=aj.p9 (br.Oe (U:=U) h);simpa using this
 exact .Od h
def cP (ts:aI):Operand→Option Value
 |.tmp t=>some (ts.getD t Go.undef)
 |.const v=>bif kK v then some v else none
 |.func f=>some (.func (.func f) #[] #[])
 |.global _=>none
def dj (U:Mu)(ts:aI)(tmps:Array Value):Prop:=br U ts tmps.toList
theorem dj.mono {U ν:Mu}(hle:U.le ν){ts:aI}{tmps:Array Value}(h:dj U ts tmps):dj ν ts tmps:=br.mono hle h
theorem dj.getD {U:Mu}{ts:aI}{tmps:Array Value}(h:dj U ts tmps)(t:Nat):aj U (ts.getD t Go.undef) (tmps.getD t Go.undef):=by
 by_cases ht:t<ts.length
 ·obtain⟨v',h1,h2⟩:=h.2 t ts[t] (by simp[ht])
  have:t<tmps.size:=by have:=h.1;simp at this;omega
  simp[this] at h1
  simp[List.getD,ht,Array.getD,this,h1,h2]
 have:¬t<tmps.size:=by have:=h.1;simp at this;omega
 simp[List.getD,ht,Array.getD,this]
 exact .undef
theorem fE {U:Mu}{ts:aI}{a:Act}(h:dj U ts a.tmps){x:Operand}{v:Value}(hv:cP ts x=some v):aj U v (a.eval x):=by
 cases x with
 |tmp t=>simp only[cP,az] at hv;subst hv;exact h.getD t
 |const u=>
  simp only[cP] at hv
  cases hs:kK u with
  |true=>simp[hs] at hv;subst hv;exact .yb hs
  |false=>simp[hs] at hv
 |func f=>simp only[cP,az] at hv;subst hv;exact .func f #[] #[] #[] #[] rfl rfl (fun i h=>by simp at h) (fun i h=>by simp at h)
 |global g=>simp[cP] at hv
def cW (P:Program)(t:TypeId):Option Nat:=(P.info? t).map (·.size)
def oP (P:Program)(t:TypeId):Option (List Value):=
 match (P.info? t).bind (·.zero) with
 |some v=>bif kK v then some v.cells.toList else none
 |none=>none
def bB (P:Program)(t:TypeId):Option Bool:=
 match P.underlying t with
 |some (.struct _)|some (.array _ _)=>some true
 |some _=>some false
 |none=>none
theorem mE {P:Program}{t:TypeId}{n:Nat}(h:cW P t=some n)(w:World):(sizeOf t).run P w=.ok n w:=by
 unfold cW at h
 cases hi:P.info? t with
 |none=>simp[hi] at h
 |some i=>simp[hi] at h;subst h;simp[sizeOf,typeInfo,hi]
theorem yc {P:Program}{t:TypeId}{z:List Value}(h:oP P t=some z)(w:World):∃v,(zeroValue t).run P w=.ok v w∧v.cells.toList=z∧kK v=true:=by
 unfold oP at h
 cases hi:P.info? t with
 |none=>simp[hi] at h
 |some i=>
  simp only[hi,Option.bind_some] at h
  cases hz:i.zero with
  |none=>simp[hz] at h
  |some v=>
   simp only[hz] at h
   cases hs:kK v with
   |false=>simp[hs] at h
   |true=>simp[hs] at h;exact⟨v,by simp[zeroValue,typeInfo,hi,hz],h,hs⟩
theorem C5 {P:Program}{t:TypeId}{b:Bool}(h:bB P t=some b)(w:World):(isAgg t).run P w=.ok b w:=by
 unfold bB at h
 split at h
 ·rename_i hu;simp at h;subst h;simp[isAgg,run_underlying hu]
 ·rename_i hu;simp at h;subst h;simp[isAgg,run_underlying hu]
 ·rename_i d h1 h2 hu
  simp at h;subst h
  cases d<;>simp_all[isAgg,run_underlying hu]
 simp at h
theorem AZ {U:Mu}{v:Value}(h:kK v=true):br U v.cells.toList v.cells.toList:=(aj.yb h).cells
def ef (P:Program)(lo:Nat)(s:Sem Value)(U:Mu)(h:ah)(w:World)(v:Value)(h':ah):Prop:=
 ∃v' w' aQ,s.run P w=.ok v' w'∧aj aQ v v'∧Rel aQ lo h' w'∧Frame lo U h w aQ h' w'
theorem ef.same {P:Program}{lo:Nat}{s:Sem Value}{U:Mu}{h:ah}{w:World}{v v':Value}(r:Rel U lo h w)(hr:s.run P w=.ok v' w)(hv:aj U v v'):ef P lo s U h w v h:=
 ⟨v',w,U,hr,hv,r,Frame.refl _ _ _ _⟩
theorem JA {P:Program}{lo:Nat}{U:Mu}{h:ah}{w:World}(r:Rel U lo h w)(t:TypeId)(arr:Array Value)(cs:List Value)(hc:br U cs arr.toList) :
  ∃aQ,(newRow t arr).run P w=.ok ⟨w.heap.size,0,none⟩ (w.alloc (.cells arr t))∧aQ h.next=some (w.heap.size,0,0)∧Rel aQ lo (h.alloc (.cells 0 cs)) (w.alloc (.cells arr t))∧
   Frame lo U h w aQ (h.alloc (.cells 0 cs)) (w.alloc (.cells arr t)):=by
 obtain⟨aQ,h1,h2,h3⟩:=Oc r arr t 0 0 cs (fun i v hv=>by obtain⟨v',h1,h2⟩:=hc.2 i v hv;exact⟨v',by simpa using h1,h2⟩) (fun h=>by omega)
 exact⟨aQ,rfl,h1,h2,h3⟩
theorem Of {P:Program}{lo:Nat}{U:Mu}{h:ah}{w:World}(r:Rel U lo h w)(t:TypeId)(v v':Value)(hv:aj U v v') :
  ef P lo (do pure (.pointer (some (← newVar t v')))) U h w (.pointer (some ⟨h.next,0,none⟩)) (h.alloc (.cells 0 v.cells.toList)):=by
 obtain⟨aQ,h1,h2,h3,h4⟩:=JA (P:=P) r t v'.cells v.cells.toList hv.cells
 exact⟨_,_,aQ,by simp[newVar,h1],.ptr _ 0 _ 0 0 h2,h3,h4⟩
def C6 (P:Program)(h:ah)(t:TypeId):Option (Value×ah):=
 match oP P t with
 |some z=>some (.pointer (some ⟨h.next,0,none⟩),h.alloc (.cells 0 z))
 |none=>none
theorem U2 {P:Program}{lo:Nat}{U:Mu}{h:ah}{w:World}(r:Rel U lo h w){t:TypeId}{v:Value}{h':ah}(ha:C6 P h t=some (v,h')) :
  ef P lo (Instr.alloc t true (.tuple #[])) U h w v h':=by
 unfold C6 at ha
 cases hz:oP P t with
 |none=>simp[hz] at ha
 |some z=>
  simp only[hz,az,bO] at ha
  obtain⟨rfl,rfl⟩:=ha
  obtain⟨zv,h1,h2,h3⟩:=yc hz w
  obtain⟨v',w',aQ,h4,h5⟩:=Of (P:=P) r t zv zv (.yb h3)
  rw[h2] at h5
  exact⟨v',w',aQ,by simpa[Instr.alloc,h1] using h4,h5⟩
def rS (h:ah)(v:Value):Value×ah:=(.pointer (some ⟨h.next,0,none⟩),h.alloc (.cells 0 v.cells.toList))
theorem U3 {P:Program}{lo:Nat}{U:Mu}{h:ah}{w:World}(r:Rel U lo h w)(t:TypeId){v v':Value}(hv:aj U v v') :
 ef P lo (Instr.box t v') U h w (rS h v).1 (rS h v).2:=Of r t v v' hv
def rT (P:Program)(h:ah)(t:TypeId)(p:Value):Option Value:=
 match p with
 |.pointer (some ⟨o,off,none⟩)=>
  match h.get o with
  |some (.cells _ cs)=>
   match bB P t with
   |some true=>
    match cW P t with
    |some n=>bif Nat.ble (off+n) cs.length then some (.agg ((cs.drop off).take n).toArray) else none
    |none=>none
   |some false=>cs[off]?
   |none=>none
  |_=>none
 |_=>none
theorem mZ {U:Mu}{lo:Nat}{h:ah}{w:World}(r:Rel U lo h w){o b a C:Nat}{x:a7}(hx:h.get o=some x)(hm:U o=some (b,a,C)):fD U w b a C x:=by
 obtain⟨b',a',C',h1,h2⟩:=r.bg o x hx
 rw[hm] at h1;injection h1 with h1;injection h1 with h1 nF;injection nF with nF AY;subst h1 nF AY
 exact h2
theorem rU (b a n:Nat):(⟨b,a,none⟩:Addr).add n=⟨b,a+n,none⟩:=by unfold Addr.add;split<;>simp_all
theorem Hp {U:Mu}{w:World}{b a C s:Nat}{cs:List Value}(ho:fD U w b a C (.cells s cs))(off n:Nat)(hn:off+n≤cs.length) :
  ∃ar:List Value,br U ((cs.drop off).take n) ar∧ar.length=n∧∀j v,ar[j]?=some v→w.cell? ((⟨b,a+off,none⟩:Addr).add j)=some v:=by
 obtain⟨_,oN,_⟩:=ho
 have hex:∀i,i<cs.length→∃v',w.cell? ⟨b,a+i,none⟩=some v'∧∀v,cs[i]?=some v→aj U v v':=fun i hi=>by
  obtain⟨v',h1,h2⟩:=oN i cs[i] (by simp[hi])
  exact⟨v',h1,fun v hv=>by simp[hi] at hv;subst hv;exact h2⟩
 refine⟨(List.range n).map fun j=>(w.cell? ⟨b,a+off+j,none⟩).getD Go.undef,⟨by simp;omega,fun i v hv=>?_⟩,by simp,fun j v hj=>?_⟩
 ·have hi:i<n:=by
   rcases Nat.lt_or_ge i n with h|h
   ·exact h
   rw[List.getElem?_eq_none (by simp;omega)] at hv;simp at hv
  obtain⟨v',h1,h2⟩:=hex (off+i) (by omega)
  refine⟨v',by simp[hi,show a+off+i=a+(off+i) by omega,h1],h2 v ?_⟩
  rw[List.getElem?_take,if_pos hi,List.getElem?_drop] at hv
  exact hv
 have hi:j<n:=by
  rcases Nat.lt_or_ge j n with h|h
  ·exact h
  rw[List.getElem?_eq_none (by simp;omega)] at hj;simp at hj
 obtain⟨v',h1,h2⟩:=hex (off+j) (by omega)
 simp[hi] at hj
 rw[rU,← hj,show a+off+j=a+(off+j) by omega,h1]
 rfl
theorem JB {P:Program}{lo:Nat}{U:Mu}{h:ah}{w:World}(r:Rel U lo h w){t:TypeId}{p p' v:Value}(hp:aj U p p')(ha:rT P h t p=some v) :
  ef P lo (Instr.loadAt t p') U h w v h:=by
 unfold rT at ha
 split at ha
 ·rename_i o off
  cases hp with
  |ptr _ _ b a C hm=>
   split at ha
   ·rename_i s cs hx
    have ho:=mZ r hx hm
    split at ha
    ·rename_i hg
     split at ha
     ·rename_i n hn
      cases hle:Nat.ble (off+n) cs.length with
      |false=>simp[hle] at ha
      |true=>
       simp only[hle,aM,az] at ha;subst ha
       obtain⟨ar,h1,h2,h3⟩:=Hp ho off n (by simpa using hle)
       refine .same r (v':=.agg ar.toArray) ?_ (.j7 h1)
       have hl:=run_loadCells_list (P:=P) w _ ar h3
       rw[h2] at hl
       simp[Instr.loadAt,Instr.sureAddr,loadVar,C5 hg,mE hn,hl]
     simp at ha
    ·rename_i hg
     obtain⟨v',h1,h2⟩:=ho.2.1 off v ha
     exact .same r (v':=v') (by simp[Instr.loadAt,Instr.sureAddr,loadVar,C5 hg,h1]) h2
    simp at ha
   simp at ha
 simp at ha
def C7 (P:Program)(lo:Nat)(h:ah)(t:TypeId)(p v:Value):Option ah:=
 match p with
 |.pointer (some ⟨o,off,none⟩)=>
  match h.get o,cW P t with
  |some (.cells s cs),some n=>
   bif Nat.ble lo o&&Nat.beq v.cells.toList.length n&&v.cells.toList.all (·.oneCell')&&Nat.ble (off+n) cs.length then
    some (h.put o (some (.cells s (fq cs off v.cells.toList)))) else none
  |_,_=>none
 |_=>none
theorem Og {U:Mu}{l l':List Value}(h:br U l l')(ha:l.all (·.oneCell')=true):∀v∈l',v.oneCell'=true:=by
 intro v hv
 obtain⟨i,hi⟩:=List.getElem?_of_mem hv
 have aY:i<l.length:=by
  have:=h.1
  rcases Nat.lt_or_ge i l.length with h'|h'
  ·exact h'
  rw[List.getElem?_eq_none (by omega)] at hi;simp at hi
 obtain⟨v',h1,h2⟩:=h.2 i l[i] (by simp[aY])
 rw[hi] at h1;injection h1 with h1;subst h1
 rw[h2.U0]
 rw[List.all_eq_true] at ha
 exact ha _ (List.getElem_mem aY)
theorem Hq {P:Program}{lo:Nat}{U:Mu}{h:ah}{w:World}(r:Rel U lo h w){o s:Nat}{cs:List Value}(hx:h.get o=some (.cells s cs))(hl:lo≤o){b a C:Nat}(hm:U o=some (b,a,C))
  (off:Nat) (vs kJ:List Value) (hv:br U vs kJ) (yd:vs.all (·.oneCell')=true) (hlen:off+vs.length≤cs.length) :
  (storeCells ⟨b,a+off,none⟩ kJ).run P w=.ok () (w.setCells b (a+off) kJ):=by
 have ho:=mZ r hx hm
 have:=run_storeCells_cells (P:=P) b (a+off) kJ 0 w (fun j hj=>by
   have mY:off+j<cs.length:=by have:=hv.1;omega
   obtain⟨v',h3,_⟩:=ho.2.1 (off+j) cs[off+j] (by simp[mY])
   rw[show a+off+0+j=a+(off+j) by omega,h3];rfl)
  (fun j hj=>r.eI o _ b a C hl hx hm _) (Og hv yd)
 simpa using this
theorem U4 {P:Program}{lo:Nat}{U:Mu}{h:ah}{w:World}(r:Rel U lo h w){t:TypeId}{p p' v v':Value}{h':ah}(hp:aj U p p')(hv:aj U v v')(ha:C7 P lo h t p v=some h') :
  ∃w',(Instr.storeAt t p' v').run P w=.ok () w'∧Rel U lo h' w'∧Frame lo U h w U h' w':=by
 unfold C7 at ha
 split at ha
 ·rename_i o off
  cases hp with
  |ptr _ _ b a C hm=>
   split at ha
   ·rename_i s cs n hx hn
    cases hc:(Nat.ble lo o&&Nat.beq v.cells.toList.length n&&v.cells.toList.all (·.oneCell')&&Nat.ble (off+n) cs.length) with
    |false=>rw[hc] at ha;simp at ha
    |true=>
     rw[hc] at ha
     simp only[aM,az] at ha;subst ha
     simp only[bV] at hc
     obtain⟨⟨⟨h1,h2⟩,h3⟩,h4⟩:=hc
     have h1:lo≤o:=by simpa using h1
     have h2:v.cells.toList.length=n:=by simpa using h2
     have h4:off+n≤cs.length:=by simpa using h4
     obtain⟨h5,h6⟩:=C4 r hx h1 hm off v.cells.toList v'.cells.toList hv.cells (by omega)
     refine⟨_,?_,h5,h6⟩
     have dB:=Hq (P:=P) r hx h1 hm off _ _ hv.cells h3 (by omega)
     have fp:v'.cells.size=n:=by have:=hv.cells.1;simp at this h2;omega
     simp[Instr.storeAt,Instr.sureAddr,storeVar,mE hn,fp,dB]
   simp at ha
 simp at ha
def dc (P:Program)(s:TypeId)(f:Nat):Option (TypeId×Nat×Nat):=
 match P.underlying s with
 |some (.struct fields)=>
  match fields.toList[f]? with
  |some fd=>match cW P fd.type with
   |some n=>some (fd.type,fd.offset,n)
   |none=>none
  |none=>none
 |_=>none
theorem Oh {P:Program}{s:TypeId}{f:Nat}{ty:TypeId}{off n:Nat}(h:dc P s f=some (ty,off,n)) :
  ∃fields fd,P.underlying s=some (.struct fields)∧fields[f]?=some fd∧fd.type=ty∧fd.offset=off∧cW P fd.type=some n:=by
 unfold dc at h
 split at h
 ·rename_i fields hu
  split at h
  ·rename_i fd hf
   split at h
   ·rename_i m hm
    simp only[az,bO] at h
    obtain⟨h1,h2,h3⟩:=h
    exact⟨fields,fd,hu,by simpa using hf,h1,h2,by rw[hm,h3]⟩
   simp at h
  simp at h
 simp at h
def C8 (P:Program)(s:TypeId)(p:Value)(f:Nat):Option Value:=
 match p,dc P s f with
 |.pointer (some ⟨o,off,none⟩),some (_,fo,n)=>bif Nat.beq n 0 then none else some (.pointer (some ⟨o,off+fo,none⟩))
 |_,_=>none
theorem U5 {P:Program}{U:Mu}{w:World}{s:TypeId}{f:Nat}{p p' v:Value}(hp:aj U p p')(ha:C8 P s p f=some v) :
  ∃v',(Instr.fieldAt s p' f).run P w=.ok v' w∧aj U v v':=by
 unfold C8 at ha
 split at ha
 ·rename_i o off ty fo n hf
  obtain⟨fields,fd,h1,h2,h3,h4,h5⟩:=Oh hf
  cases hn:Nat.beq n 0 with
  |true=>simp[hn] at ha
  |false=>
   simp only[hn,bq,az] at ha;subst ha
   cases hp with
   |ptr _ _ b a C hm=>
    have na:n≠0:=by intro h;subst h;simp at hn
    refine⟨_,?_,.ptr o (off+fo) b a C hm⟩
    simp[Instr.fieldAt,run_underlying h1,h2,Instr.sureAddr,fieldPlace,mE h5,na,rU,h4,Nat.add_assoc]
 simp at ha
def fT (P:Program)(t:TypeId):Option (TypeId×Nat):=
 match P.underlying t with
 |some (.slice e)=>match cW P e with
  |some n=>some (e,n)
  |none=>none
 |_=>none
theorem tz {P:Program}{t e:TypeId}{n:Nat}(h:fT P t=some (e,n)):P.underlying t=some (.slice e)∧cW P e=some n:=by
 unfold fT at h
 split at h
 ·rename_i e' hu
  split at h
  ·rename_i m hm
   simp only[az,bO] at h
   obtain⟨rfl,rfl⟩:=h
   exact⟨hu,hm⟩
  simp at h
 simp at h
def ik (P:Program)(t:TypeId):Option (Nat×TypeId×Nat):=
 match P.underlying t with
 |some (.array len e)=>match cW P e with
  |some n=>some (len,e,n)
  |none=>none
 |_=>none
theorem Oi {P:Program}{t e:TypeId}{len n:Nat}(h:ik P t=some (len,e,n)):P.underlying t=some (.array len e)∧cW P e=some n:=by
 unfold ik at h
 split at h
 ·rename_i l' e' hu
  split at h
  ·rename_i m hm
   simp only[az,bO] at h
   obtain⟨rfl,rfl,rfl⟩:=h
   exact⟨hu,hm⟩
  simp at h
 simp at h
def within (i:Int)(n:Nat):Option Nat:=
 match i with
 |.ofNat k=>bif Nat.blt k n then some k else none
 |.negSucc _=>none
theorem JC {i:Int}{n k:Nat}(h:within i n=some k):i=(k:Int)∧k<n:=by
 unfold within at h
 split at h
 ·rename_i j
  cases hj:Nat.blt j n with
  |false=>simp[hj] at h
  |true=>simp[hj] at h;subst h;rw[Nat.blt_eq] at hj;exact⟨rfl,hj⟩
 simp at h
def ye (P:Program)(t:TypeId)(x i:Value):Option Value:=
 match x,i with
 |.slice (some ⟨o,off,none⟩) len _,.int _ n=>
  match fT P t,within n len with
  |some (_,sz),some k=>some (.pointer (some ⟨o,off+k*sz,none⟩))
  |_,_=>none
 |.pointer (some ⟨o,off,none⟩),.int _ n=>
  match ik P t with
  |some (len,_,sz)=>
   match within n len with
   |some k=>some (.pointer (some ⟨o,off+k*sz,none⟩))
   |none=>none
  |none=>none
 |_,_=>none
theorem U6 {P:Program}{U:Mu}{w:World}{t:TypeId}{x x' i i' v:Value}(hx:aj U x x')(hi:aj U i i')(ha:ye P t x i=some v) :
  ∃v',(Instr.indexAt t x' i').run P w=.ok v' w∧aj U v v':=by
 unfold ye at ha
 split at ha
 ·rename_i o off len k kd n
  cases hi with
  |int=>
  split at ha
  ·rename_i e sz kk h1 h2
   obtain⟨h3,h4⟩:=tz h1
   obtain⟨rfl,h6⟩:=JC h2
   simp only[az] at ha;subst ha
   cases hx with
   |slice _ _ _ _ b a C hm hl hk=>
    refine⟨_,?_,.ptr o (off+kk*sz) b a C hm⟩
    simp[Instr.indexAt,asIntOf,run_underlying h3,mE h4,rU,h6,Nat.add_assoc]
   |bS=>omega
   |cg=>omega
  simp at ha
 ·rename_i o off kd n
  cases hi with
  |int=>
  split at ha
  ·rename_i len e sz h1
   obtain⟨h3,h4⟩:=Oi h1
   split at ha
   ·rename_i kk h2
    obtain⟨rfl,h6⟩:=JC h2
    simp only[az] at ha;subst ha
    cases hx with
    |ptr _ _ b a C hm=>
     refine⟨_,?_,.ptr o (off+kk*sz) b a C hm⟩
     simp[Instr.indexAt,asIntOf,run_underlying h3,Instr.sureAddr,mE h4,rU,h6,Nat.add_assoc]
   simp at ha
  simp at ha
 simp at ha
def apart (P:Program)(t:TypeId)(cs:List Value)(off n:Nat):Option Value:=
 match bB P t with
 |some true=>bif Nat.ble (off+n) cs.length then some (.agg ((cs.drop off).take n).toArray) else none
 |some false=>cs[off]?
 |none=>none
theorem Es {P:Program}{U:Mu}{w:World}{t:TypeId}{cs ar:Array Value}{off n:Nat}{v:Value}(hc:br U cs.toList ar.toList)(hn:cW P t=some n)(ha:apart P t cs.toList off n=some v) :
  ∃v',(part t ar off).run P w=.ok v' w∧aj U v v':=by
 unfold apart at ha
 split at ha
 ·rename_i hg
  cases hle:Nat.ble (off+n) cs.toList.length with
  |false=>rw[hle] at ha;simp at ha
  |true=>
   rw[hle] at ha
   simp only[aM,az] at ha;subst ha
   refine⟨_,?_,.j7 ((hc.drop off).take n)⟩
   have he:ar.extract off (off+n)=((ar.toList.drop off).take n).toArray:=by
    apply Array.ext'
    simp[List.extract_eq_take_drop]
   simp[part,C5 hg,mE hn,he]
 ·rename_i hg
  obtain⟨v',h1,h2⟩:=hc.2 off v ha
  have nF:ar[off]?=some v':=by simpa using h1
  exact⟨v',by simp[part,C5 hg,nF],h2⟩
 simp at ha
def Et (P:Program)(t:TypeId)(x:Value)(f:Nat):Option Value:=
 match x,dc P t f with
 |.agg cs,some (ty,off,n)=>apart P ty cs.toList off n
 |_,_=>none
theorem U7 {P:Program}{U:Mu}{w:World}{t:TypeId}{f:Nat}{x x' v:Value}(hx:aj U x x')(ha:Et P t x f=some v) :
  ∃v',(Instr.field t x' f).run P w=.ok v' w∧aj U v v':=by
 unfold Et at ha
 split at ha
 ·rename_i cs ty off n hf
  obtain⟨fields,fd,h1,h2,h3,h4,h5⟩:=Oh hf
  obtain⟨ar,rfl,hc⟩:=hx.C3
  obtain⟨v',h6,h7⟩:=Es (w:=w) hc (h3▸h5) ha
  exact⟨v',by simp[Instr.field,run_underlying h1,h2,asAgg,h3,h4,h6],h7⟩
 simp at ha
def A0 (P:Program)(t:TypeId)(x i:Value):Option Value:=
 match x,i with
 |.agg cs,.int _ n=>
  match ik P t with
  |some (len,e,sz)=>
   match within n len with
   |some k=>apart P e cs.toList (k*sz) sz
   |none=>none
  |none=>none
 |.string s,.int _ n=>
  match P.underlying t,n with
  |some .string,.ofNat k=>match s.data.toList[k]? with
   |some b=>some (.int .u8 b.toNat)
   |none=>none
  |_,_=>none
 |_,_=>none
theorem U8 {P:Program}{U:Mu}{w:World}{t:TypeId}{x x' i i' v:Value}(hx:aj U x x')(hi:aj U i i')(ha:A0 P t x i=some v) :
  ∃v',(Instr.index t x' i').run P w=.ok v' w∧aj U v v':=by
 unfold A0 at ha
 split at ha
 ·rename_i cs kd n
  cases hi with
  |int=>
  split at ha
  ·rename_i len e sz h1
   obtain⟨h3,h4⟩:=Oi h1
   split at ha
   ·rename_i kk h2
    obtain⟨rfl,h6⟩:=JC h2
    obtain⟨ar,rfl,hc⟩:=hx.C3
    obtain⟨v',h7,h8⟩:=Es (w:=w) hc h4 ha
    exact⟨v',by simp[Instr.index,asIntOf,run_underlying h3,mE h4,h6,h7],h8⟩
   simp at ha
  simp at ha
 ·rename_i s kd n
  cases hi with
  |int=>
  cases hx with
  |string=>
  split at ha
  ·rename_i k hu
   split at ha
   ·rename_i b hb
    simp only[az] at ha;subst ha
    have h1:s[k]?=some b:=by
     have aY:k<s.data.toList.length:=by
      rcases Nat.lt_or_ge k s.data.toList.length with h|h
      ·exact h
      rw[List.getElem?_eq_none h] at hb;cases hb
     have rV:k<s.size:=by rw[ByteArray.size,← Array.length_toList];exact aY
     rw[getElem?_pos s k rV]
     rw[List.getElem?_eq_getElem aY] at hb
     injection hb with hb
     rw[← hb]
     rfl
    refine⟨.int .u8 b.toNat,?_,.int .u8 b.toNat⟩
    have h0:(0:Int)≤Int.ofNat k:=Int.natCast_nonneg k
    have h2:(Int.ofNat k).toNat=k:=rfl
    simp only[Instr.index,asIntOf,Sem.run_bind,Sem.run_pure,Result.andThen_ok,run_underlying hu,h0,if_true,h2,h1]
   simp at ha
  simp at ha
 simp at ha
def Eu (x:Value)(i:Nat):Option Value:=
 match x with
 |.tuple vs=>vs.toList[i]?
 |_=>none
theorem U9 {P:Program}{U:Mu}{w:World}{i:Nat}{x x' v:Value}(hx:aj U x x')(ha:Eu x i=some v) :
  ∃v',(Instr.extract x' i).run P w=.ok v' w∧aj U v v':=by
 unfold Eu at ha
 split at ha
 ·obtain⟨ar,rfl,hc⟩:=hx.Oa
  obtain⟨v',h1,h2⟩:=hc.2 i v ha
  have nF:ar[i]?=some v':=by simpa using h1
  exact⟨v',by simp[Instr.extract,nF],h2⟩
 simp at ha
def tA (place:Nat→Option (Nat×Nat)):List Value→List (Nat×Value)→Option (List Value)
 |cells,[]=>some cells
 |cells,(i,v)::rest=>
  match place i with
  |none=>none
  |some (off,size)=>
   bif Nat.beq v.cells.toList.length size&&Nat.ble (off+v.cells.toList.length) cells.length then tA place (fq cells off v.cells.toList) rest else none
theorem Va (vs:List Value):∀(k off:Nat) (arr:Array Value),off+k+vs.length≤arr.size→
  ((vs.zipIdx k).foldl (fun cs (x:Value×Nat)=>cs.setIfInBounds (off+x.2) x.1) arr).toList=fq arr.toList (off+k) vs:=by
 induction vs with
 |nil=>intro k off arr h;simp[fq]
 |cons v r ih=>
  intro k off arr h
  simp only[List.length_cons] at h
  simp only[List.zipIdx_cons,List.foldl_cons]
  rw[ih (k+1) off _ (by simp;omega)]
  apply List.ext_getElem?
  intro j
  rw[Ho _ _ _ (by simp;omega),Ho _ _ _ (by simp;omega)]
  simp only[Array.toList_setIfInBounds,List.length_cons]
  by_cases h1:j=off+k
  ·subst h1
   have e1:¬(off+(k+1)≤off+k∧off+k<off+(k+1)+r.length):=by omega
   have e2:off+k≤off+k∧off+k<off+k+(r.length+1):=by omega
   simp only[e1,e2,and_self,if_true,if_false]
   rw[List.getElem?_set_self (by simp;omega)]
   simp
  rw[List.getElem?_set_ne (by omega)]
  by_cases h2:off+(k+1)≤j∧j<off+(k+1)+r.length
  ·have e2:off+k≤j∧j<off+k+(r.length+1):=by omega
   simp only[h2,e2,and_self,if_true]
   rw[show j - (off+k)=(j - (off+(k+1)))+1 by omega,List.getElem?_cons_succ]
  have e2:¬(off+k≤j∧j<off+k+(r.length+1)):=by omega
  simp only[h2,e2,if_false]
def uE (U:Mu)(l l':List (Nat×Value)):Prop:=l.map (·.1)=l'.map (·.1)∧br U (l.map (·.2)) (l'.map (·.2))
theorem Vb {U:Mu}{cs ar vs kJ:List Value}{off:Nat}(hc:br U cs ar)(hv:br U vs kJ):br U (fq cs off vs) (fq ar off kJ):=by
 unfold fq
 rw[← hv.1]
 exact((hc.take off).append hv).append (hc.drop _)
theorem Hr {U:Mu}(place:Nat→Option (Nat×Nat)):∀(l l':List (Nat×Value)) (cs:List Value) (arr:Array Value) (out:List Value),
  uE U l l'→br U cs arr.toList→tA place cs l=some out→∃eY,Instr.fill place arr l'=some eY∧br U out eY.toList:=by
 intro l
 induction l with
 |nil=>
  intro l' cs arr out hl hc ha
  have:l'=[]:=by have:=hl.1;simp at this;exact this
  subst this
  simp only[tA,az] at ha;subst ha
  exact⟨arr,rfl,hc⟩
 |cons p rest ih=>
  intro l' cs arr out hl hc ha
  obtain⟨i,v⟩:=p
  cases l' with
  |nil=>have:=hl.1;simp at this
  |cons p' Ev=>
   obtain⟨i',v'⟩:=p'
   have h1:=hl.1
   simp only[List.map_cons,List.cons.injEq] at h1
   obtain⟨rfl,h1⟩:=h1
   obtain⟨u,l2,hu,hv,h2⟩:=br.dw (by simpa using hl.2)
   simp only[List.cons.injEq] at hu
   obtain⟨rfl,rfl⟩:=hu
   simp only[tA] at ha
   cases hp:place i with
   |none=>simp[hp] at ha
   |some q=>
    obtain⟨off,size⟩:=q
    simp only[hp] at ha
    cases uF:(Nat.beq v.cells.toList.length size&&Nat.ble (off+v.cells.toList.length) cs.length) with
    |false=>rw[uF] at ha;simp at ha
    |true=>
     rw[uF] at ha
     simp only[aM] at ha
     simp only[bV] at uF
     have e1:v.cells.toList.length=size:=by simpa using uF.1
     have e2:off+v.cells.toList.length≤cs.length:=by simpa using uF.2
     have uG:v'.cells.toList.length=v.cells.toList.length:=hv.cells.1.symm
     have eG:arr.toList.length=cs.length:=hc.1.symm
     have hz:(v'.cells.zipIdx.foldl (fun cs (x:Value×Nat)=>cs.setIfInBounds (off+x.2) x.1) arr).toList=fq arr.toList off v'.cells.toList:=by
      have:=Va v'.cells.toList 0 off arr (by simp at uG eG e2 ⊢;omega)
      rw[← Array.foldl_toList,Array.toList_zipIdx]
      simpa using this
     have hs:v'.cells.size=size:=by simp at uG e1 ⊢;omega
     have fU:¬(off+v'.cells.size > arr.size):=by simp at eG e2 uG;omega
     obtain⟨eY,h3,h4⟩:=ih Ev _ (v'.cells.zipIdx.foldl (fun cs (x:Value×Nat)=>cs.setIfInBounds (off+x.2) x.1) arr) out ⟨h1,h2⟩ (by rw[hz];exact Vb hc hv.cells) ha
     refine⟨eY,?_,h4⟩
     simp only[Instr.fill,hp]
     rw[if_neg (by simp[hs];omega)]
     exact h3
def C9 (P:Program):List Field→Option (List (Nat×Nat))
 |[]=>some []
 |f::fs=>match cW P f.type,C9 P fs with
  |some n,some r=>some ((f.offset,n)::r)
  |_,_=>none
theorem run_places {P:Program}{w:World}:∀ {fs:List Field} {l:List (Nat×Nat)},C9 P fs=some l→
  (fs.mapM (fun f=>(sizeOf f.type >>= fun s=>pure (f.offset,s):Sem (Nat×Nat)))).run P w=.ok l w
 |[],l,h=>by simp only[C9,az] at h;subst h;simp only[List.mapM_nil,Sem.run_pure]
 |f::fs,l,h=>by
  simp only[C9] at h
  split at h
  ·rename_i n r h1 h2
   simp only[az] at h;subst h
   simp only[List.mapM_cons,Sem.run_bind,mE h1,Result.andThen_ok,Sem.run_pure,run_places h2]
  simp at h
def Da (P:Program)(t:TypeId)(parts:List (Nat×Value)):Option Value:=
 match oP P t,P.underlying t with
 |some z,some (.struct fields)=>
  match C9 P fields.toList with
  |some l=>(tA (l[·]?) z parts).map fun cs=>.agg cs.toArray
  |none=>none
 |some z,some (.array _ e)=>
  match cW P e with
  |some n=>(tA (fun i=>some (i*n,n)) z parts).map fun cs=>.agg cs.toArray
  |none=>none
 |_,_=>none
theorem Vc {P:Program}{U:Mu}{w:World}{t:TypeId}{parts:List (Nat×Value)}{cj:Array (Nat×Value)}{v:Value}(hp:uE U parts cj.toList)(ha:Da P t parts=some v) :
  ∃v',(Instr.build t cj).run P w=.ok v' w∧aj U v v':=by
 unfold Da at ha
 split at ha
 ·rename_i z fields hz hu
  obtain⟨zv,h1,h2,h3⟩:=yc hz w
  split at ha
  ·rename_i l hl
   cases hf:tA (l[·]?) z parts with
   |none=>rw[hf] at ha;simp at ha
   |some cs=>
    rw[hf] at ha;simp at ha;subst ha
    obtain⟨out,h4,h5⟩:=Hr (U:=U) (l[·]?) parts cj.toList z zv.cells cs hp (h2▸AZ h3) hf
    have il:=run_places (w:=w) hl
    have qa:(fields.mapM (fun f=>(sizeOf f.type >>= fun s=>pure (f.offset,s):Sem (Nat×Nat)))).run P w=.ok l.toArray w:=by
     rw[Array.mapM_eq_mapM_toList,Sem.run_map,il,Result.andThen_ok]
    refine⟨.agg out,?_,.agg _ _ ?_ ?_⟩
    ·have Vd:Instr.fill (fun i=>l.toArray[i]?) zv.cells cj.toList=some out:=by simpa using h4
     simp only[Instr.build,Sem.run_bind,h1,Result.andThen_ok,run_underlying hu,qa,Vd,Sem.run_pure]
    ·exact((p8 (cs:=cs.toArray)).1 (by simpa using h5)).1
    exact((p8 (cs:=cs.toArray)).1 (by simpa using h5)).2
  simp at ha
 ·rename_i z len e hz hu
  obtain⟨zv,h1,h2,h3⟩:=yc hz w
  split at ha
  ·rename_i n hn
   cases hf:tA (fun i=>some (i*n,n)) z parts with
   |none=>rw[hf] at ha;simp at ha
   |some cs=>
    rw[hf] at ha;simp at ha;subst ha
    obtain⟨out,h4,h5⟩:=Hr (U:=U) (fun i=>some (i*n,n)) parts cj.toList z zv.cells cs hp (h2▸AZ h3) hf
    refine⟨.agg out,?_,.agg _ _ ?_ ?_⟩
    ·simp[Instr.build,h1,run_underlying hu,mE hn,h4]
    ·exact((p8 (cs:=cs.toArray)).1 (by simpa using h5)).1
    exact((p8 (cs:=cs.toArray)).1 (by simpa using h5)).2
  simp at ha
 simp at ha
def cR (z:List Value):Nat→List Value
 |0=>[]
 |n+1=>z++cR z n
theorem Hs (z:List Value):∀n,(cR z n).length=n*z.length
 |0=>by simp[cR]
 |n+1=>by simp[cR,Hs z n,Nat.succ_mul];omega
theorem Oj (z:List Value):∀(n i:Nat),i<n*z.length→(cR z n)[i]?=z[i % z.length]?
 |0,i,h=>by simp at h
 |n+1,i,h=>by
  have hz:0<z.length:=by
   rcases Nat.eq_zero_or_pos z.length with h0|h0
   ·rw[h0] at h;simp at h
   exact h0
  by_cases hi:i<z.length
  ·rw[cR,List.getElem?_append_left hi,Nat.mod_eq_of_lt hi]
  rw[cR,List.getElem?_append_right (by omega),Oj z n (i - z.length) (by rw[Nat.succ_mul] at h;omega)]
  rw[Nat.mod_eq_sub_mod (by omega:i≥z.length)]
theorem range_zero (z:Array Value)(n:Nat):((Array.range (n*z.size)).map fun i=>z[i % z.size]!).toList=cR z.toList n:=by
 apply List.ext_getElem?
 intro i
 by_cases hi:i<n*z.size
 ·rw[Oj _ _ _ (by simpa using hi)]
  have hz:0<z.size:=by
   rcases Nat.eq_zero_or_pos z.size with h0|h0
   ·rw[h0] at hi;simp at hi
   exact h0
  have hm:i % z.size<z.size:=Nat.mod_lt _ hz
  simp[hi,hm]
 rw[List.getElem?_eq_none (by simp;omega),List.getElem?_eq_none (by rw[Hs];simp;omega)]
theorem Db {U:Mu}{z z':List Value}(h:br U z z'):∀n,br U (cR z n) (cR z' n)
 |0=>br.nil U
 |n+1=>h.append (Db h n)
def Dc (P:Program)(h:ah)(t:TypeId)(len:Nat)(parts:List (Nat×Value)):Option (Value×ah):=
 match fT P t with
 |some (e,n)=>
  match oP P e with
  |some z=>
   bif Nat.beq z.length n&&Nat.ble (len*n) 16777216&&Nat.blt 0 n then
    match tA (fun i=>some (i*n,n)) (cR z len) parts with
    |some cs=>some (.slice (some ⟨h.next,0,none⟩) len len,h.alloc (.cells 0 cs))
    |none=>none
   else none
  |none=>none
 |none=>none
theorem nG {C k:Nat}(h:k<ay):gj C k=k:=by simp[gj,h]
theorem Ve {P:Program}{lo:Nat}{U:Mu}{h:ah}{w:World}(r:Rel U lo h w){t:TypeId}{len:Nat}{parts:List (Nat×Value)}{cj:Array (Nat×Value)}{v:Value}{h':ah}
  (hp:uE U parts cj.toList) (ha:Dc P h t len parts=some (v,h')):ef P lo (Instr.buildSlice t len cj) U h w v h':=by
 unfold Dc at ha
 split at ha
 ·rename_i e n he
  obtain⟨hu,hn⟩:=tz he
  split at ha
  ·rename_i z hz
   obtain⟨zv,h1,h2,h3⟩:=yc hz w
   cases hc:(Nat.beq z.length n&&Nat.ble (len*n) 16777216&&Nat.blt 0 n) with
   |false=>rw[hc] at ha;simp at ha
   |true=>
    rw[hc] at ha
    simp only[aM] at ha
    simp only[bV] at hc
    obtain⟨⟨gZ,fV⟩,im⟩:=hc
    have gZ:z.length=n:=by simpa using gZ
    have fV:len*n≤16777216:=by simpa using fV
    have im:0<n:=by rw[Nat.blt_eq] at im;exact im
    split at ha
    ·rename_i cs hf
     simp only[az,bO] at ha
     obtain⟨rfl,rfl⟩:=ha
     have zN:zv.cells.size=n:=by rw[← gZ,← h2];simp
     have hlen:len≤16777216:=Nat.le_trans (Nat.le_mul_of_pos_right len im) fV
     have qb:br U (cR z len) ((Array.range (len*n)).map (zv.cells[· % zv.cells.size]!)).toList:=by
      have:=range_zero zv.cells len
      rw[zN] at this ⊢
      rw[this,h2]
      exact Db (h2▸AZ h3) len
     obtain⟨out,h4,h5⟩:=Hr (U:=U) (fun i=>some (i*n,n)) parts cj.toList (cR z len) _ cs hp qb hf
     obtain⟨aQ,h6,h7,h8,h9⟩:=JA (P:=P) r e out cs h5
     have fK:len=gj 0 len:=by rw[nG];unfold ay;omega
     refine⟨.slice (some ⟨w.heap.size,0,none⟩) len len,_,aQ,?_,?_,h8,h9⟩
     ·have fW:¬(len*n > 2 ^ 24):=by omega
      by_cases h0:len*n=0
      ·have mh:len=0:=by
        rcases Nat.mul_eq_zero.1 h0 with h|h
        ·exact h
        omega
       subst mh
       have nb:Array.range 0=#[]:=rfl
       rw[Nat.zero_mul,nb] at h4
       simp only[List.map_toArray,List.map_nil] at h4
       simp[Instr.buildSlice,run_underlying hu,mE hn,nb,h4,h6]
      simp[Instr.buildSlice,run_underlying hu,mE hn,fW,h0,h1,h4,h6]
     have:=aj.slice h.next 0 len len w.heap.size 0 0 h7 (Nat.le_of_eq fK) (by unfold dI;omega)
     rwa [← fK] at this
    simp at ha
  simp at ha
 simp at ha
def Dd (P:Program)(h:ah)(t:TypeId)(l c:Value):Option (Value×ah):=
 match l,c,fT P t with
 |.int .i64 (.ofNat l),.int .i64 (.ofNat c),some (e,n)=>
  match oP P e,(P.info? e).map (·.bytes) with
  |some z,some bytes=>
   bif Nat.beq z.length n&&Nat.ble l c&&Nat.ble (bytes*c) 281474976710656&&Nat.blt 0 n&&Nat.ble c 281474976710656 then
    some (.slice (some ⟨h.next,0,none⟩) l c,h.alloc (.cells 0 (cR z c)))
   else none
  |_,_=>none
 |_,_,_=>none
theorem Ht {n:Nat}(h:n≤281474976710656):IntKind.i64.wrap (n:Int)=n:=by
 simp[IntKind.wrap,IntKind.signed,IntKind.bits]
 omega
theorem Vf {P:Program}{lo:Nat}{U:Mu}{h:ah}{w:World}(r:Rel U lo h w){t:TypeId}{l l' c c':Value}{v:Value}{h':ah}
  (hl:aj U l l') (gq:aj U c c') (ha:Dd P h t l c=some (v,h')):ef P lo (Instr.makeSlice t l' c') U h w v h':=by
 unfold Dd at ha
 split at ha
 ·rename_i l c e n he
  cases hl with
  |int=>
  cases gq with
  |int=>
  obtain⟨hu,hn⟩:=tz he
  split at ha
  ·rename_i z bytes hz hb
   obtain⟨zv,h1,h2,h3⟩:=yc hz w
   cases hc:(Nat.beq z.length n&&Nat.ble l c&&Nat.ble (bytes*c) 281474976710656&&Nat.blt 0 n&&Nat.ble c 281474976710656) with
   |false=>rw[hc] at ha;simp at ha
   |true=>
    rw[hc] at ha
    simp only[aM,az,bO] at ha
    obtain⟨rfl,rfl⟩:=ha
    simp only[bV] at hc
    obtain⟨⟨⟨⟨gZ,fV⟩,im⟩,A1⟩,A2⟩:=hc
    have gZ:z.length=n:=by simpa using gZ
    have fV:l≤c:=by simpa using fV
    have im:bytes*c≤281474976710656:=by simpa using im
    have A1:0<n:=by rw[Nat.blt_eq] at A1;exact A1
    have A2:c≤281474976710656:=by simpa using A2
    have zN:zv.cells.size=n:=by rw[← gZ,← h2];simp
    have Hu:IntKind.i64.wrap (c:Int)=c:=Ht A2
    have qc:IntKind.i64.wrap (l:Int)=l:=Ht (by omega)
    have qb:br U (cR z c) ((Array.range (c*n)).map (zv.cells[· % zv.cells.size]!)).toList:=by
     have:=range_zero zv.cells c
     rw[zN] at this ⊢
     rw[this,h2]
     exact Db (h2▸AZ h3) c
    obtain⟨aQ,h6,h7,h8,h9⟩:=JA (P:=P) r e _ _ qb
    have fK:c=gj 0 c:=by rw[nG];unfold ay;omega
    refine⟨.slice (some ⟨w.heap.size,0,none⟩) l c,_,aQ,?_,?_,h8,h9⟩
    ·cases hi:P.info? e with
     |none=>simp[hi] at hb
     |some i=>
      simp only[hi,Option.map_some,az] at hb
      subst hb
      have Ew:(typeInfo e).run P w=.ok i w:=by simp[typeInfo,hi]
      have Ex:¬((281474976710656:Int)<(i.bytes:Int)*(c:Int)):=by
       have:((i.bytes*c:Nat):Int)≤((281474976710656:Nat):Int):=Int.ofNat_le.2 im
       rw[Int.natCast_mul] at this
       exact Int.not_lt.2 this
      have zO:¬((c:Int)<(l:Int)):=by omega
      by_cases h0:c*n=0
      ·have zP:c=0:=by
        rcases Nat.mul_eq_zero.1 h0 with h|h
        ·exact h
        omega
       subst zP
       have mh:l=0:=by omega
       subst mh
       have nb:Array.range 0=#[]:=rfl
       have w6:IntKind.i64.wrap 0=0:=by decide
       rw[Nat.zero_mul,nb] at h6
       simp only[Array.map_empty] at h6
       simp[Instr.makeSlice,run_underlying hu,asInt,asIntOf,Ew,mE hn,w6,nb,h6]
      simp[Instr.makeSlice,run_underlying hu,asInt,asIntOf,Ew,mE hn,Hu,qc,zO,h0,h1,h6]
      rintro ((hh|hh)|hh)
      ·omega
      ·exact absurd hh Ex
      omega
    have:=aj.slice h.next 0 l c w.heap.size 0 0 h7 (by rw[← fK];exact fV) (by unfold dI;omega)
    rwa [← fK] at this
  simp at ha
 simp at ha
def jF (op:BinOp)(k:IntKind)(a b:Int):Option Value:=
 match op with
 |.add=>some (.int k (k.wrap (a+b)))
 |.sub=>some (.int k (k.wrap (a - b)))
 |.mul=>some (.int k (k.wrap (a*b)))
 |.quo=>bif decide (b=0) then none else some (.int k (k.wrap (a.tdiv b)))
 |.rem=>bif decide (b=0) then none else some (.int k (a.tmod b))
 |.and=>some (.int k (k.wrap (BitVec.ofInt k.bits a &&& BitVec.ofInt k.bits b).toNat))
 |.or=>some (.int k (k.wrap (BitVec.ofInt k.bits a ||| BitVec.ofInt k.bits b).toNat))
 |.xor=>some (.int k (k.wrap (BitVec.ofInt k.bits a ^^^ BitVec.ofInt k.bits b).toNat))
 |.andNot=>some (.int k (k.wrap (BitVec.ofInt k.bits a &&& ~~~ BitVec.ofInt k.bits b).toNat))
 |.eql=>some (.bool (a==b))
 |.neq=>some (.bool (a != b))
 |.lss=>some (.bool (decide (a<b)))
 |.leq=>some (.bool (decide (a≤b)))
 |.gtr=>some (.bool (decide (a > b)))
 |.geq=>some (.bool (decide (a≥b)))
 |_=>none
def qZ (op:BinOp)(k:IntKind)(a b:Int):Option Value:=
 match op with
 |.shl=>bif decide (b<0) then none else some (.int k (k.wrap (a*2 ^ min b.toNat k.bits)))
 |.shr=>bif decide (b<0) then none else some (.int k (a.fdiv (2 ^ min b.toNat k.bits)))
 |_=>none
def A3 (P:Program)(t:TypeId)(a b:Value):Option Bool:=
 match P.underlying t,a,b with
 |some (.int _),.int k x,.int k' y=>bif decide (k=k') then some (x==y) else none
 |some .bool,.bool x,.bool y=>some (x==y)
 |some .string,.string x,.string y=>some (x.toList==y.toList)
 |_,_,_=>none
def tC (P:Program)(xs ys:List Value):List Field→Option Bool
 |[]=>some true
 |f::fs=>
  bif f.name == "_" then tC P xs ys fs else
  match cW P f.type with
  |some n=>
   match apart P f.type xs f.offset n,apart P f.type ys f.offset n with
   |some a,some b=>
    match A3 P f.type a b with
    |some true=>tC P xs ys fs
    |some false=>some false
    |none=>none
   |_,_=>none
  |none=>none
def dC (P:Program)(t:TypeId)(a b:Value):Option Bool:=
 match a,b with
 |.bool x,.bool y=>match P.underlying t with|some .bool=>some (x==y)|_=>none
 |.pointer none,.pointer none=>match P.underlying t with|some (.pointer _)=>some true|_=>none
 |.pointer none,.pointer (some _)=>match P.underlying t with|some (.pointer _)=>some false|_=>none
 |.pointer (some _),.pointer none=>match P.underlying t with|some (.pointer _)=>some false|_=>none
 |.slice none _ _,.slice none _ _=>match P.underlying t with|some (.slice _)=>some true|_=>none
 |.slice none _ _,.slice (some _) _ _=>match P.underlying t with|some (.slice _)=>some false|_=>none
 |.slice (some _) _ _,.slice none _ _=>match P.underlying t with|some (.slice _)=>some false|_=>none
 |.agg xs,.agg ys=>
  match P.underlying t with
  |some (.struct fs)=>bif P.stoodInHeld t||P.eqGuardType P.depth t then none else tC P xs.toList ys.toList fs.toList
  |_=>none
 |_,_=>none
def Ey (op:BinOp)(x y:ByteArray):Option Value:=
 match op with
 |.eql=>some (.bool (x.toList==y.toList))
 |.neq=>some (.bool !(x.toList==y.toList))
 |.lss=>some (.bool (Op.bytesLess x.toList y.toList))
 |.add=>bif Nat.ble (x.size+y.size) 4611686018427387904 then some (.string (x++y)) else none
 |_=>none
def nc (P:Program)(op:BinOp)(t:TypeId)(a b:Value):Option Value:=
 match op,a,b with
 |.shl,.int k x,.int _ y=>qZ .shl k x y
 |.shr,.int k x,.int _ y=>qZ .shr k x y
 |op,.int k x,.int k' y=>bif decide (k=k') then jF op k x y else none
 |op,.string x,.string y=>Ey op x y
 |.eql,x,y=>(dC P t x y).map .bool
 |.neq,x,y=>(dC P t x y).map fun r=>.bool !r
 |_,_,_=>none
theorem Vg {P:Program}{w:World}{op:BinOp}{t:TypeId}{k:IntKind}{x y:Int}{v:Value}(h:jF op k x y=some v) :
    (binOp op t (.int k x) (.int k y)).run P w=.ok v w:=by
  cases op<;>simp only[jF,az,reduceCtorEq] at h
  all_goals first
    |(subst h;simp[binOp,Op.intArith,Op.intBits,Op.intCmp];done)
    | (cases hb : decide (y = 0) with
       |true=>rw[hb] at h;simp at h
       |false=>rw[hb] at h;simp at h;simp at hb;subst h;simp[binOp,Op.intDiv,hb])
theorem Ol {P:Program}{w:World}{U:Mu}{t:TypeId}{d:Nat}{a b a' b':Value}{r:Bool}(ha:aj U a a')(hb:aj U b b')(h:A3 P t a b=some r) :
  (Op.equalIn (d+1) t a' b').run P w=.ok r w:=by
 unfold A3 at h
 split at h
 ·rename_i k0 k x k' y hu
  cases ha;cases hb
  cases hk:decide (k=k') with
  |false=>rw[hk] at h;simp at h
  |true=>rw[hk] at h;simp at h hk;subst hk h;exact run_equalIn_int w d t k k0 x y hu
 ·rename_i hu;cases ha;cases hb;simp at h;subst h;exact run_equalIn_bool' w d t _ _ hu
 ·rename_i hu;cases ha;cases hb;simp at h;subst h;exact run_equalIn_string w d t _ _ hu
 simp at h
theorem JD {P:Program}{w:World}{U:Mu}{d:Nat}{xs ys bl dv:Array Value}(hx:br U xs.toList bl.toList)(hy:br U ys.toList dv.toList):∀ {fs:List Field} {r:Bool},
  tC P xs.toList ys.toList fs=some r→(Op.eqFields (d+1) bl dv fs).run P w=.ok r w
 |[],r,h=>by simp[tC] at h;subst h;simp[Op.eqFields]
 |f::fs,r,h=>by
  simp only[tC] at h
  cases hn:(f.name == "_") with
  |true=>
   rw[hn] at h
   simp only[aM] at h
   have na:f.name = "_" := by simpa using hn
   simp only[Op.eqFields,na,ne_eq,not_true,if_false]
   exact JD hx hy h
  |false=>
   rw[hn] at h
   simp only[bq] at h
   have na:f.name ≠ "_" := by simpa using hn
   simp only[Op.eqFields,na,ne_eq,not_false_eq_true,if_true]
   split at h
   ·rename_i n fp
    split at h
    ·rename_i a b h1 h2
     obtain⟨a',h3,h4⟩:=Es (w:=w) hx fp h1
     obtain⟨b',h5,h6⟩:=Es (w:=w) hy fp h2
     split at h
     ·rename_i h7
      have h8:=Ol (P:=P) (w:=w) (d:=d) h4 h6 h7
      simp only[Sem.run_bind,h3,h5,h8,Result.andThen_ok,Bool.not_true,Bool.false_eq_true,if_false]
      exact JD hx hy h
     ·rename_i h7
      simp only[az] at h;subst h
      have h8:=Ol (P:=P) (w:=w) (d:=d) h4 h6 h7
      simp only[Sem.run_bind,h3,h5,h8,Result.andThen_ok,Bool.not_false,if_true,Sem.run_pure]
     simp at h
    simp at h
   simp at h
theorem A4 {P:Program}{w:World}{t:TypeId}{x y:Value}{r:Result Bool}(h:∀d,(Op.equalIn (d+1) t x y).run P w=r):(Op.equal t x y).run P w=r:=h 9999
theorem JE {P:Program}{w:World}{U:Mu}{t:TypeId}{a b a' b':Value}{r:Bool}(ha:aj U a a')(hb:aj U b b')(h:dC P t a b=some r) :
    (Op.equal t a' b').run P w=.ok r w∧(∀op x y,(eqGuard op t x y a' b').run P w=.ok () w)∧
      (∀op,(∀k x k' y,¬(a'=.int k x∧b'=.int k' y))∧(∀x y,¬(a'=.string x∧b'=.string y))∧(op=BinOp.eql→binOp op t a' b'=(do pure (.bool (← Op.equal t a' b'))))∧(op=BinOp.neq→binOp op t a' b'=(do pure (.bool (!(← Op.equal t a' b')))))):=by
  have iY:∀(op:BinOp) (x y:Operand) (u v:Value),(∀xs ys,¬(u=.agg xs∧v=.agg ys))→¬(u=.nilIface∧v=.nilIface)→(eqGuard op t x y u v).run P w=.ok () w:=by
    intro op x y u v h1 h2
    cases op<;>simp only[eqGuard]<;>simp
    all_goals (cases u<;>cases v<;>simp_all)
  unfold dC at h
  split at h
  · cases ha;cases hb
    split at h
    · rename_i hu;simp at h;subst h
      exact⟨A4 fun d=>run_equalIn_bool' w d t _ _ hu,fun op x y=>iY op x y _ _ (by simp) (by simp),fun op=>⟨by simp,by simp,by rintro rfl;rfl,by rintro rfl;rfl⟩⟩
    simp at h
  · cases ha;cases hb
    split at h
    · rename_i hu;simp at h;subst h
      exact⟨A4 fun d=>by simp[Op.equalIn,run_underlying hu],fun op x y=>iY op x y _ _ (by simp) (by simp),fun op=>⟨by simp,by simp,by rintro rfl;rfl,by rintro rfl;rfl⟩⟩
    simp at h
  · cases ha;cases hb
    split at h
    · rename_i hu;simp at h;subst h
      exact⟨A4 fun d=>by simp[Op.equalIn,run_underlying hu],fun op x y=>iY op x y _ _ (by simp) (by simp),fun op=>⟨by simp,by simp,by rintro rfl;rfl,by rintro rfl;rfl⟩⟩
    simp at h
  · cases ha;cases hb
    split at h
    · rename_i hu;simp at h;subst h
      exact⟨A4 fun d=>by simp[Op.equalIn,run_underlying hu],fun op x y=>iY op x y _ _ (by simp) (by simp),fun op=>⟨by simp,by simp,by rintro rfl;rfl,by rintro rfl;rfl⟩⟩
    simp at h
  · cases ha;cases hb
    split at h
    · rename_i hu;simp at h;subst h
      exact⟨A4 fun d=>by simp[Op.equalIn,run_underlying hu],fun op x y=>iY op x y _ _ (by simp) (by simp),fun op=>⟨by simp,by simp,by rintro rfl;rfl,by rintro rfl;rfl⟩⟩
    simp at h
  · cases ha
    cases hb<;>
    (split at h
     · rename_i hu;simp at h;subst h
       exact⟨A4 fun d=>by simp[Op.equalIn,run_underlying hu],fun op x y=>iY op x y _ _ (by simp) (by simp),fun op=>⟨by simp,by simp,by rintro rfl;rfl,by rintro rfl;rfl⟩⟩
     simp at h)
  · cases hb
    cases ha<;>
    (split at h
     · rename_i hu;simp at h;subst h
       exact⟨A4 fun d=>by simp[Op.equalIn,run_underlying hu],fun op x y=>iY op x y _ _ (by simp) (by simp),fun op=>⟨by simp,by simp,by rintro rfl;rfl,by rintro rfl;rfl⟩⟩
     simp at h)
  · rename_i xs ys
    obtain⟨bl,rfl,hx⟩:=ha.C3
    obtain⟨dv,rfl,hy⟩:=hb.C3
    split at h
    · rename_i fs hu
      cases hc:(P.stoodInHeld t||P.eqGuardType P.depth t) with
      |true=>rw[hc] at h;simp at h
      | false =>
        rw[hc] at h
        simp only[bq] at h
        simp only[Bool.or_eq_false_iff] at hc
        have yf:P.fieldsOf t=fs:=by simp[Program.fieldsOf,hu]
        refine⟨?_,fun op x y=>run_eqGuard_agg w op t x y bl dv hc.2,fun op=>⟨by simp,by simp,by rintro rfl;rfl,by rintro rfl;rfl⟩⟩
        have hq:=run_equalIn_agg w 9999 t bl dv (by rw[yf];exact hu) hc.1
        rw[yf,JD (d:=9998) hx hy h] at hq
        exact hq
    simp at h
  simp at h
theorem Vh {P:Program}{U:Mu}{w:World}{op:BinOp}{t:TypeId}{x y:Operand}{a a' b b' v:Value}(ha:aj U a a')(hb:aj U b b')(h:nc P op t a b=some v) :
    ∃v',(do eqGuard op t x y a' b';binOp op t a' b':Sem Value).run P w=.ok v' w∧aj U v v':=by
  have gi:∀(op:BinOp) (k k':IntKind) (m n:Int),(eqGuard op t x y (.int k m) (.int k' n)).run P w=.ok () w:=by
    intro op k k' m n;cases op<;>simp[eqGuard]
  have gs:∀(op:BinOp) (m n:ByteArray),(eqGuard op t x y (.string m) (.string n)).run P w=.ok () w:=by
    intro op m n;cases op<;>simp[eqGuard]
  unfold nc at h
  split at h
  · cases ha;cases hb
    rename_i k m _ n
    simp only[qZ] at h
    cases hc:decide (n<0) with
    |true=>rw[hc] at h;simp at h
    | false =>
      rw[hc] at h;simp only[bq,az] at h;subst h
      have Hv:¬n<0:=by simpa using hc
      exact⟨_,by simp[gi,binOp,Op.shift,Hv],.int _ _⟩
  · cases ha;cases hb
    rename_i k m _ n
    simp only[qZ] at h
    cases hc:decide (n<0) with
    |true=>rw[hc] at h;simp at h
    | false =>
      rw[hc] at h;simp only[bq,az] at h;subst h
      have Hv:¬n<0:=by simpa using hc
      exact⟨_,by simp[gi,binOp,Op.shift,Hv],.int _ _⟩
  · cases ha;cases hb
    rename_i k m k' n _ _
    cases hk:decide (k=k') with
    |false=>rw[hk] at h;simp at h
    | true =>
      rw[hk] at h;simp only[aM] at h;simp at hk;subst hk
      have:=Vg (P:=P) (w:=w) (t:=t) h
      refine⟨v,by simp[gi,this],?_⟩
      cases op<;>simp only[jF,az,reduceCtorEq] at h
      all_goals first
        |(subst h;first|exact .int _ _|exact .bool _)
        | (cases hb : decide (n = 0) with
           |true=>rw[hb] at h;simp at h
           |false=>rw[hb] at h;simp at h;subst h;exact .int _ _)
  · cases ha;cases hb
    rename_i m n
    cases op<;>simp only[Ey,az,reduceCtorEq] at h
    all_goals first
      |(subst h;exact⟨_,by simp[gs,binOp,Op.stringOp],.bool _⟩)
      | (cases hc : Nat.ble (m.size + n.size) 4611686018427387904 with
         |false=>rw[hc] at h;simp at h
         | true =>
           rw[hc] at h;simp only[aM,az] at h;subst h
           have Hv:m.size+n.size≤4611686018427387904:=by simpa using hc
           have iq:¬(((m.size+n.size:Nat):Int) > IntKind.i64.max):=by
             have:IntKind.i64.max=9223372036854775807:=by decide
             rw[this];omega
           exact⟨.string (m++n),by simp only[Sem.run_bind,gs,Result.andThen_ok,binOp,Op.stringOp];rw[if_neg iq];rfl,.string _⟩)
  · rename_i h1 h2
    cases hq:dC P t a b with
    |none=>rw[hq] at h;simp at h
    | some r =>
      rw[hq] at h;simp at h;subst h
      obtain⟨e1,e2,e3⟩:=JE (w:=w) ha hb hq
      refine⟨.bool r,?_,.bool r⟩
      rw[Sem.run_bind,e2,Result.andThen_ok,(e3 .eql).2.2.1 rfl]
      simp[e1]
  · rename_i h1 h2
    cases hq:dC P t a b with
    |none=>rw[hq] at h;simp at h
    | some r =>
      rw[hq] at h;simp at h;subst h
      obtain⟨e1,e2,e3⟩:=JE (w:=w) ha hb hq
      refine⟨.bool !r,?_,.bool _⟩
      rw[Sem.run_bind,e2,Result.andThen_ok,(e3 .neq).2.2.2 rfl]
      simp[e1]
  simp at h
def qe (op:UnOp)(x:Value):Option Value:=
 match op,x with
 |.neg,.int k n=>some (.int k (k.wrap (0 - n)))
 |.not,.bool b=>some (.bool !b)
 |_,_=>none
theorem Vi {P:Program}{U:Mu}{w:World}{op:UnOp}{a a' v:Value}(ha:aj U a a')(h:qe op a=some v):∃v',(Op.unary op a').run P w=.ok v' w∧aj U v v':=by
 unfold qe at h
 split at h
 ·cases ha;simp only[az] at h;subst h;exact⟨_,by simp[Op.unary,Op.intArith],.int _ _⟩
 ·cases ha;simp only[az] at h;subst h;exact⟨_,by simp[Op.unary],.bool _⟩
 simp at h
def qf (P:Program)(s d:TypeId)(x:Value):Option Value:=
 match P.underlying s,P.underlying d,x with
 |some (.int _),some (.int k),.int _ n=>some (.int k (k.wrap n))
 |some .string,some .string,.string s=>some (.string s)
 |_,_,_=>none
theorem Vj {P:Program}{U:Mu}{w:World}{s d:TypeId}{a a' v:Value}(ha:aj U a a')(h:qf P s d a=some v):∃v',(convert s d a').run P w=.ok v' w∧aj U v v':=by
 unfold qf at h
 split at h
 ·rename_i h1 h2
  cases ha;simp only[az] at h;subst h
  exact⟨_,by simp[convert,run_underlying h1,run_underlying h2,Conv.intToInt],.int _ _⟩
 ·rename_i h1 h2
  cases ha;simp only[az] at h;subst h
  exact⟨_,by simp[convert,run_underlying h1,run_underlying h2],.string _⟩
 simp at h
def De (x:Value):Option Value:=
 match x with
 |.pointer (some a)=>some (.pointer (some a))
 |.func (.func f) a b=>some (.func (.func f) a b)
 |_=>none
def j9 (v:Value)(y:Nat):Option Nat:=
 match v with
 |.int _ (.ofNat i)=>bif Nat.ble i y then some i else none
 |_=>none
theorem Hw {P:Program}{U:Mu}{w:World}{v v':Value}{y i:Nat}(hv:aj U v v')(h:j9 v y=some i)(y':Nat)(hy:y≤y')(c:BoundsCode) :
  (Instr.sliceBound v' y' c).run P w=.ok i w∧i≤y:=by
 unfold j9 at h
 split at h
 ·rename_i k j
  cases hv
  cases hj:Nat.ble j y with
  |false=>rw[hj] at h;simp at h
  |true=>
   rw[hj] at h;simp only[aM,az] at h;subst h
   have mY:j≤y:=by simpa using hj
   have h1:(0:Int)≤(Int.ofNat j)∧Int.ofNat j≤(y':Int):=by
    constructor
    ·exact Int.natCast_nonneg j
    exact Int.ofNat_le.2 (Nat.le_trans mY hy)
   refine⟨?_,mY⟩
   simp only[Instr.sliceBound,Sem.run_bind,asIntOf,Sem.run_pure,Result.andThen_ok]
   rw[if_pos h1];rfl
 simp at h
def bM (known:Nat):Option Value→Option (Option Nat)
 |some v=>(j9 v known).map some
 |none=>some none
def bH (len known:Nat):Option Value→Option Nat→Option Nat
 |some v,some m=>j9 v m
 |some v,none=>j9 v known
 |none,none=>some len
 |none,some _=>none
def bL (h:Nat):Option Value→Option Nat
 |some v=>j9 v h
 |none=>some 0
def qg (len known:Nat)(lo hi mx:Option Value):Option (Nat×Nat×Option Nat):=
 match bM known mx with
 |none=>none
 |some m=>
  match bH len known hi m with
  |none=>none
  |some h=>
   match bL h lo with
   |none=>none
   |some l=>some (l,h,m)
def cM (cap:Nat)(sl:Bool):Option Value→Sem Nat
 |some v=>Instr.sliceBound v cap (if sl then .slice3Acap else .slice3Alen)
 |none=>pure cap
def cH (len m:Nat)(sl:Bool)(mx:Option Value):Option Value→Sem Nat
 |some v=>match mx with
  |some _=>Instr.sliceBound v m .slice3B
  |none=>Instr.sliceBound v m (if sl then .sliceAcap else .sliceAlen)
 |none=>match mx with
  |some _=>stuck "Slice: max without high"
  |none=>pure len
def cL (h:Nat)(mx:Option Value):Option Value→Sem Nat
 |some v=>Instr.sliceBound v h (if mx.isSome then .slice3C else .sliceB)
 |none=>pure 0
theorem Vk (sl:Bool)(len cap:Nat)(lo hi mx:Option Value) :
  Instr.sliceBounds sl len cap lo hi mx=(cM cap sl mx >>= fun m=>cH len m sl mx hi >>= fun h=>cL h mx lo >>= fun l=>pure (l,h,m)):=by
 unfold Instr.sliceBounds
 cases mx<;>cases hi<;>cases lo<;>rfl
def A5 (U:Mu):Option Value→Option Value→Prop
 |none,none=>True
 |some v,some v'=>aj U v v'
 |_,_=>False
theorem A6 {P:Program}{U:Mu}{w:World}{len known:Nat}{lo hi mx eX dJ iZ:Option Value}{l h:Nat}{m:Option Nat}(cC:A5 U lo eX)(gG:A5 U hi dJ)(iq:A5 U mx iZ)
  (ha:qg len known lo hi mx=some (l,h,m)) (cap:Nat) (hc:known≤cap) (hl:len≤known) (sl:Bool) :
  (Instr.sliceBounds sl len cap eX dJ iZ).run P w=.ok (l,h,m.getD cap) w∧l≤h∧h≤known∧(∀x,m=some x→h≤x∧x≤known):=by
 unfold qg at ha
 cases hm:bM known mx with
 |none=>simp[hm] at ha
 |some m0=>
  simp only[hm] at ha
  cases hh:bH len known hi m0 with
  |none=>simp[hh] at ha
  |some h0=>
   simp only[hh] at ha
   cases da:bL h0 lo with
   |none=>simp[da] at ha
   |some l0=>
    simp only[da,az,bO] at ha
    obtain⟨rfl,rfl,rfl⟩:=ha
    have mF:(cM cap sl iZ).run P w=.ok (m0.getD cap) w∧(∀x,m0=some x→x≤known)∧(m0.isSome=iZ.isSome):=by
     cases mx with
     |none=>
      cases iZ with
      |none=>simp only[bM,az] at hm;subst hm;exact⟨rfl,by simp,rfl⟩
      |some v'=>exact iq.elim
     |some v=>
      cases iZ with
      |none=>exact iq.elim
      |some v'=>
       simp only[bM] at hm
       cases hb:j9 v known with
       |none=>rw[hb] at hm;simp at hm
       |some x=>
        rw[hb] at hm;simp only[Option.map_some,az] at hm;subst hm
        have hr:=fun c=>(Hw (P:=P) (w:=w) (show aj U v v' from iq) hb cap hc c)
        exact⟨(hr _).1,fun y hy=>by simp only[az] at hy;subst hy;exact(hr .index).2,rfl⟩
    obtain⟨cq,gC,Ez⟩:=mF
    have Vl:(cH len (m0.getD cap) sl iZ dJ).run P w=.ok h0 w∧h0≤known∧(∀x,m0=some x→h0≤x):=by
     cases hi with
     |none=>
      cases dJ with
      |some v'=>exact gG.elim
      |none=>
       cases m0 with
       |some x=>simp[bH] at hh
       |none=>
        simp only[bH,az] at hh;subst hh
        cases iZ with
        |some v'=>simp at Ez
        |none=>exact⟨rfl,hl,by simp⟩
     |some v=>
      cases dJ with
      |none=>exact gG.elim
      |some v'=>
       cases m0 with
       |some x=>
        cases iZ with
        |none=>simp at Ez
        |some u=>
         have hr:=Hw (P:=P) (w:=w) (show aj U v v' from gG) hh x (Nat.le_refl _) .slice3B
         exact⟨hr.1,Nat.le_trans hr.2 (gC x rfl),fun y hy=>by simp only[az] at hy;subst hy;exact hr.2⟩
       |none=>
        cases iZ with
        |some u=>simp at Ez
        |none=>
         have hr:=fun c=>Hw (P:=P) (w:=w) (show aj U v v' from gG) hh cap hc c
         exact⟨(hr _).1,(hr .index).2,by simp⟩
    obtain⟨Vm,Vn,Vo⟩:=Vl
    have cE:(cL h0 iZ eX).run P w=.ok l0 w∧l0≤h0:=by
     cases lo with
     |none=>
      cases eX with
      |some v'=>exact cC.elim
      |none=>simp only[bL,az] at da;subst da;exact⟨rfl,Nat.zero_le _⟩
     |some v=>
      cases eX with
      |none=>exact cC.elim
      |some v'=>
       have hr:=fun c=>Hw (P:=P) (w:=w) (show aj U v v' from cC) da h0 (Nat.le_refl _) c
       exact⟨(hr _).1,(hr .index).2⟩
    refine⟨?_,cE.2,Vn,fun x hx=>⟨Vo x hx,gC x hx⟩⟩
    rw[Vk,Sem.run_bind,cq,Result.andThen_ok,Sem.run_bind,Vm,Result.andThen_ok,Sem.run_bind,cE.1,Result.andThen_ok,Sem.run_pure]
def kv (P:Program)(t:TypeId)(x:Value)(lo hi mx:Option Value):Option Value:=
 match x with
 |.slice none 0 0=>
  match fT P t,qg 0 0 lo hi mx with
  |some _,some _=>some (.slice none 0 0)
  |_,_=>none
 |.slice (some ⟨o,off,none⟩) len k=>
  match fT P t with
  |some (_,sz)=>
   bif Nat.blt k ay then
    match qg len k lo hi mx with
    |some (l,h,m)=>
     let m':=m.getD k
     some (.slice (some ⟨o,bif Nat.beq m' l then off else off+l*sz,none⟩) (h - l) (m' - l))
    |none=>none
   else bif Nat.blt k dI then
    match qg len len lo hi mx with
    |some (l,h,some m)=>bif Nat.blt m ay then some (.slice (some ⟨o,bif Nat.beq m l then off else off+l*sz,none⟩) (h - l) (m - l)) else none
    |some (l,h,none)=>
     bif Nat.beq l 0 then some (.slice (some ⟨o,off,none⟩) h k)
     else bif Nat.beq h l then some (.slice (some ⟨o,off,none⟩) 0 dI)
     else bif Nat.blt (k+l) dI then some (.slice (some ⟨o,off+l*sz,none⟩) (h - l) (k+l)) else none
    |none=>none
   else
    match qg 0 0 lo hi mx with
    |some (_,_,none)=>some (.slice (some ⟨o,off,none⟩) 0 dI)
    |some (_,_,some _)=>some (.slice (some ⟨o,off,none⟩) 0 0)
    |none=>none
  |none=>none
 |_=>none
theorem jU (a b:Nat):(Nat.beq a b=true∧a=b)∨(Nat.beq a b=false∧a≠b):=by
 cases h:Nat.beq a b with
 |true=>exact .inl ⟨rfl,by simpa using h⟩
 |false=>exact .inr ⟨rfl,by intro e;subst e;simp at h⟩
theorem A7 {P:Program}{w:World}{t e:TypeId}{n:Nat}(hu:P.underlying t=some (.slice e))(hn:cW P e=some n)(p:Option Addr)(len cap:Nat)(lo hi mx:Option Value){l h m:Nat}
  (hb:(Instr.sliceBounds true len cap lo hi mx).run P w=.ok (l,h,m) w) :
  (Instr.sliceAt t (.slice p len cap) lo hi mx).run P w=.ok (.slice (if m=l then p else p.map (·.add (l*n))) (h - l) (m - l)) w:=by
 simp only[Instr.sliceAt,Sem.run_bind,run_underlying hu,Result.andThen_ok,Instr.slice,hb,mE hn,Sem.run_pure]
theorem Vp {P:Program}{U:Mu}{w:World}{t:TypeId}{x x':Value}{lo hi mx eX dJ iZ:Option Value}{v:Value}(hx:aj U x x')(cC:A5 U lo eX)(gG:A5 U hi dJ)(iq:A5 U mx iZ)
  (ha:kv P t x lo hi mx=some v):∃v',(Instr.sliceAt t x' eX dJ iZ).run P w=.ok v' w∧aj U v v':=by
 unfold kv at ha
 split at ha
 ·split at ha
  ·rename_i e q jv hb
   obtain⟨e1,n⟩:=e
   obtain⟨hu,hn⟩:=tz jv
   obtain⟨l,h,m⟩:=q
   cases hx
   obtain⟨h1,h2,h3,h4⟩:=A6 (P:=P) (w:=w) cC gG iq hb 0 (Nat.le_refl _) (Nat.le_refl _) true
   simp only[az] at ha;subst ha
   have hm:m.getD 0=0:=by
    cases m with
    |none=>rfl
    |some x=>have:=(h4 x rfl).2;simp;omega
   have hh:h=0:=by omega
   have hl:l=0:=by omega
   subst hh hl
   rw[hm] at h1
   exact⟨_,A7 hu hn none 0 0 eX dJ iZ h1,by simp;exact .dK⟩
  simp at ha
 ·rename_i o off len k
  split at ha
  ·rename_i e sz jv
   obtain⟨hu,hn⟩:=tz jv
   cases hk:Nat.blt k ay with
   |true=>
    have jw:k<ay:=by rw[Nat.blt_eq] at hk;exact hk
    rw[hk] at ha
    simp only[aM] at ha
    split at ha
    ·rename_i l h m hb
     simp only[az] at ha;subst ha
     cases hx with
     |slice _ _ _ _ b a C hm hl dL=>
      rw[nG jw] at hl ⊢
      obtain⟨h1,h2,h3,h4⟩:=A6 (P:=P) (w:=w) cC gG iq hb k (Nat.le_refl _) hl true
      refine⟨_,A7 hu hn _ _ _ _ _ _ h1,?_⟩
      have Df:m.getD k≤k∧h≤m.getD k:=by
       cases m with
       |none=>exact⟨Nat.le_refl _,h3⟩
       |some x=>exact⟨(h4 x rfl).2,(h4 x rfl).1⟩
      have aY:m.getD k - l<ay:=by omega
      rcases jU (m.getD k) l with⟨hq,b8⟩|⟨hq,b8⟩
      ·rw[hq]
       simp only[b8,if_true,aM]
       have:=aj.slice o off (h - l) (l - l) b a C hm (by rw[nG (by omega)];omega) (by unfold dI;unfold ay at *;omega)
       rwa [nG (by omega)] at this
      rw[hq]
      simp only[b8,if_false,bq,Option.map_some,rU]
      have:=aj.slice o (off+l*sz) (h - l) (m.getD k - l) b a C hm (by rw[nG aY];omega) (by unfold dI;unfold ay at *;omega)
      rwa [nG aY,← Nat.add_assoc] at this
     |bS=>unfold dI ay at jw;omega
     |cg p p'=>
      obtain⟨h1,h2,h3,h4⟩:=A6 (P:=P) (w:=w) cC gG iq hb 0 (Nat.le_refl _) (Nat.le_refl _) true
      refine⟨_,A7 hu hn _ _ _ _ _ _ h1,?_⟩
      have hm:m.getD 0=0:=by
       cases m with
       |none=>rfl
       |some x=>have:=(h4 x rfl).2;simp;omega
      have hh:h=0:=by omega
      have hl:l=0:=by omega
      subst hh hl
      simp only[hm,if_true]
      exact .cg _ _
    simp at ha
   |false=>
    rw[hk] at ha
    simp only[bq] at ha
    have jw:¬k<ay:=by intro h;rw[← Nat.blt_eq,hk] at h;cases h
    cases ja:Nat.blt k dI with
    |true=>
     rw[ja] at ha
     simp only[aM] at ha
     have A8:k<dI:=by rw[Nat.blt_eq] at ja;exact ja
     cases hx with
     |bS=>omega
     |cg=>unfold ay at jw;omega
     |slice _ _ _ _ b a C hm hl dL=>
      split at ha
      ·rename_i l h m hb
       cases yg:Nat.blt m ay with
       |false=>rw[yg] at ha;simp at ha
       |true=>
       rw[yg] at ha
       simp only[aM,az] at ha;subst ha
       have hmi:m<ay:=by rw[Nat.blt_eq] at yg;exact yg
       obtain⟨h1,h2,h3,h4⟩:=A6 (P:=P) (w:=w) cC gG iq hb (gj C k) hl (Nat.le_refl _) true
       refine⟨_,A7 hu hn _ _ _ _ _ _ h1,?_⟩
       obtain⟨h5,h6⟩:=h4 m rfl
       simp only[Option.getD_some]
       have eJ:gj C k=C - (k - ay):=by simp[gj,jw]
       have lF:m - l<ay:=by omega
       ·rcases jU m l with⟨hq,b8⟩|⟨hq,b8⟩
        ·rw[hq]
         simp only[b8,if_true,aM]
         have:=aj.slice o off (h - l) (l - l) b a C hm (by rw[nG (by omega)];omega) (by unfold dI;unfold ay at *;omega)
         rwa [nG (by omega)] at this
        rw[hq]
        simp only[b8,if_false,bq,Option.map_some,rU]
        have:=aj.slice o (off+l*sz) (h - l) (m - l) b a C hm (by rw[nG lF];omega) (by unfold dI;unfold ay at *;omega)
        rwa [nG lF,← Nat.add_assoc] at this
      ·rename_i l h hb
       obtain⟨h1,h2,h3,h4⟩:=A6 (P:=P) (w:=w) cC gG iq hb (gj C k) hl (Nat.le_refl _) true
       have eR:=A7 hu hn (some ⟨b,a+off,none⟩) len (gj C k) eX dJ iZ h1
       simp only[Option.getD_none] at eR
       have eJ:gj C k=C - (k - ay):=by simp[gj,jw]
       rcases jU l 0 with⟨hq,b8⟩|⟨hq,b8⟩
       ·rw[hq] at ha
        simp only[aM,az] at ha;subst ha b8
        refine⟨_,eR,?_⟩
        have:=aj.slice o off h k b a C hm (by omega) dL
        simp only[Nat.zero_mul,Option.map_some,rU,Nat.add_zero,ite_self,Nat.sub_zero]
        exact this
       rw[hq] at ha
       simp only[bq] at ha
       rcases jU h l with⟨hr,oQ⟩|⟨hr,oQ⟩
       ·rw[hr] at ha
        simp only[aM,az] at ha;subst ha oQ
        refine⟨_,eR,?_⟩
        rw[Nat.sub_self]
        split
        ·exact .bS _ _ _
        exact .bS _ _ _
       rw[hr] at ha
       simp only[bq] at ha
       cases hz:Nat.blt (k+l) dI with
       |false=>rw[hz] at ha;simp at ha
       |true=>
        rw[hz] at ha
        simp only[aM,az] at ha;subst ha
        refine⟨_,eR,?_⟩
        rw[if_neg (by omega)]
        simp only[Option.map_some,rU]
        have fV:gj C (k+l)=gj C k - l:=by
         rw[eJ];unfold gj;rw[if_neg (by omega)];omega
        have:=aj.slice o (off+l*sz) (h - l) (k+l) b a C hm (by rw[fV];omega) (by rw[Nat.blt_eq] at hz;exact hz)
        rwa [fV,← Nat.add_assoc] at this
      simp at ha
    |false=>
     rw[ja] at ha
     simp only[bq] at ha
     have A8:¬k<dI:=by intro h;rw[← Nat.blt_eq,ja] at h;cases h
     cases hx with
     |slice _ _ _ _ b a C hm hl dL=>omega
     |cg=>unfold dI at A8;omega
     |bS p p' c=>
      split at ha
      ·rename_i l h hb
       simp only[az] at ha;subst ha
       obtain⟨h1,h2,h3,h4⟩:=A6 (P:=P) (w:=w) cC gG iq hb c (Nat.zero_le _) (Nat.le_refl _) true
       have eR:=A7 hu hn (some p') 0 c eX dJ iZ h1
       have hh:h=0:=by omega
       have hl:l=0:=by omega
       subst hh hl
       refine⟨_,eR,?_⟩
       simp only[Option.getD_none,Nat.sub_zero]
       split
       ·exact .bS _ _ _
       exact .bS _ _ _
      ·rename_i l h m hb
       simp only[az] at ha;subst ha
       obtain⟨h1,h2,h3,h4⟩:=A6 (P:=P) (w:=w) cC gG iq hb c (Nat.zero_le _) (Nat.le_refl _) true
       have eR:=A7 hu hn (some p') 0 c eX dJ iZ h1
       have hm:=(h4 m rfl).2
       have hh:h=0:=by omega
       have hl:l=0:=by omega
       have mF:m=0:=by omega
       subst hh hl mF
       refine⟨_,eR,?_⟩
       simp only[Option.getD_some,Nat.sub_zero,if_true]
       exact .cg _ _
      simp at ha
  simp at ha
 simp at ha
def oq (h:ah)(n:Nat)(x:Value)(m:Nat):Option (List Value):=
 bif Nat.beq m 0 then some [] else
 match x with
 |.slice (some ⟨o,off,none⟩) _ _=>
  match h.get o with
  |some (.cells _ cs)=>bif Nat.ble (off+m*n) cs.length then some ((cs.drop off).take (m*n)) else none
  |_=>none
 |_=>none
def jG:Value→Option Nat
 |.slice _ l _=>some l
 |_=>none
theorem JF {P:Program}{U:Mu}{w:World}{x x':Value}{m:Nat}(hx:aj U x x')(h:jG x=some m):(Builtin.lenOf x').run P w=.ok m w∧∃p c,x'=.slice p m c:=by
 unfold jG at h
 split at h
 ·simp only[az] at h;subst h
  cases hx<;>exact⟨rfl,_,_,rfl⟩
 simp at h
theorem Hx {P:Program}{lo:Nat}{U:Mu}{h:ah}{w:World}(r:Rel U lo h w){n m:Nat}{x x':Value}{xs:List Value}(hx:aj U x x'){p:Option Addr}{l c:Nat}(fL:x'=.slice p l c)(Hy:m≤l)(hs:oq h n x m=some xs) :
  ∃bl:List Value,(∀w2:World,(∀a,w2.cell? a=w.cell? a)→(Builtin.firstCells n m x').run P w2=.ok bl.toArray w2)∧br U xs bl∧xs.length=m*n:=by
 unfold oq at hs
 rcases jU m 0 with⟨hq,b8⟩|⟨hq,b8⟩
 ·rw[hq] at hs;simp only[aM,az] at hs;subst hs b8
  refine⟨[],fun w2 _=>?_,br.nil U,by simp⟩
  subst fL
  cases p<;>simp[Builtin.firstCells,loadCells,loadCellsFrom]
 rw[hq] at hs
 simp only[bq] at hs
 split at hs
 ·rename_i o off l0 k0
  split at hs
  ·rename_i s cs ho
   cases hle:Nat.ble (off+m*n) cs.length with
   |false=>rw[hle] at hs;simp at hs
   |true=>
    rw[hle] at hs;simp only[aM,az] at hs;subst hs
    have JG:off+m*n≤cs.length:=by simpa using hle
    cases hx with
    |slice _ _ _ _ b a C hm hl dL=>
     obtain⟨ar,h1,h2,h3⟩:=Hp (mZ r ho hm) off (m*n) JG
     refine⟨ar,fun w2 eO=>?_,h1,by simp;omega⟩
     have eR:=run_loadCells_list (P:=P) w2 _ ar (fun j v hj=>by rw[eO];exact h3 j v hj)
     rw[h2] at eR
     simpa[Builtin.firstCells] using eR
    |bS=>simp only[Value.slice.injEq] at fL;omega
    |cg=>simp only[Value.slice.injEq] at fL;omega
  simp at hs
 simp at hs
theorem Vq (nH fS:Nat)(h:fS<nH):Builtin.nextslicecap nH fS≤2*nH+192:=by
 have grow:∀(rounds c:Nat),c≤2*nH+192→Builtin.growBy nH rounds c≤2*nH+192:=by
  intro rounds
  induction rounds with
  |zero=>intro c hc;simpa[Builtin.growBy] using hc
  |succ r ih=>
   intro c hc
   simp only[Builtin.growBy]
   split
   ·exact hc
   exact ih _ (by omega)
 unfold Builtin.nextslicecap
 split
 ·omega
 split
 ·omega
 exact grow 4 fS (by omega)
section
variable {P:Program} {w:World} {sT xT ty e:TypeId} {i:TypeInfo} {d0:TypeId} {x:Value} {base:Option Addr} {cr ft m:Nat} {new:List Value}
theorem eh (hu:P.underlying sT=some (.slice e))(hi:P.info? e=some i)(hx:P.underlying xT=some (.slice d0))(hl:(Builtin.lenOf x).run P w=.ok m w)
  (hf:(Builtin.firstCells i.size m x).run P w=.ok new.toArray w) (hn:cr+m≤ft) :
  (Builtin.append_ #[sT,xT] ty #[.slice base cr ft,x]).run P w =
   (match base with|some a=>(storeCells (a.add (cr*i.size)) new).run P w|none=>.ok () w).andThen fun _ w'=>.ok (.slice base (cr+m) ft) w':=by
 cases base with
 |none=>simp[Builtin.append_,run_underlying hu,run_underlying hx,sizeOf,typeInfo,hi,hl,hn,hf]
 |some a=>simp[Builtin.append_,run_underlying hu,run_underlying hx,sizeOf,typeInfo,hi,hl,hn,hf]
theorem ka {z:Value}{gH:List Value}(hu:P.underlying sT=some (.slice e))(hi:P.info? e=some i)(hz:i.zero=some z)(hx:P.underlying xT=some (.slice d0))(hl:(Builtin.lenOf x).run P w=.ok m w)
  (yf:(Builtin.firstCells i.size cr (.slice base cr ft)).run P w.drew=.ok gH.toArray w.drew) (hf:(Builtin.firstCells i.size m x).run P w.drew=.ok new.toArray w.drew)
  (hn:ft<cr+m) (Om:cr+m≤17592186044416) (On:(2*(cr+m)+192)*i.bytes≤281474976710656) :
  (Builtin.append_ #[sT,xT] ty #[.slice base cr ft,x]).run P w =
   .ok (.slice (some ⟨w.heap.size,0,none⟩) (cr+m) (grownCap w (cr+m) ft e))
    (w.drew.alloc (.cells (gH.toArray++new.toArray++Builtin.zeroCells z.cells (grownCap w (cr+m) ft e - (cr+m))) e)):=by
 have na:¬(cr+m≤ft):=by omega
 have JH:¬(9223372036854775807<((cr:Int)+(m:Int))):=by omega
 have JI:¬(281474976710656<Builtin.nextslicecap (cr+m) ft*i.bytes):=by
  have:=Nat.mul_le_mul_right i.bytes (Vq (cr+m) ft hn)
  omega
 simp[Builtin.append_,run_underlying hu,run_underlying hx,sizeOf,typeInfo,zeroValue,hi,hz,hl,na,JH,JI,Question.forced,hf,yf,newRow,grownCap]
 congr 2
 apply Array.ext'
 simp[List.append_assoc]
end
theorem grownCap_ge (w:World)(nH fS:Nat)(e:TypeId):nH≤grownCap w nH fS e:=by
 simp[grownCap,Question.cut]
def oR (P:Program)(lo:Nat)(h:ah)(sT xT:TypeId)(s x:Value):Option (Value×ah):=
 match fT P sT,fT P xT,jG x with
 |some (e,n),some _,some m=>
  match oP P e,(P.info? e).map (·.bytes),oq h n x m with
  |some z,some bytes,some xs=>
   bif !(Nat.beq z.length n&&Nat.blt 0 n&&xs.all (·.oneCell')) then none else
   match s with
   |.slice none 0 0=>
    bif Nat.beq m 0 then some (.slice none 0 0,h) else
    bif Nat.ble m 17592186044416&&Nat.ble ((2*m+192)*bytes) 281474976710656 then some (.slice (some ⟨h.next,0,none⟩) m ay,h.alloc (.cells n xs)) else none
   |.slice (some ⟨o,off,none⟩) l k=>
    bif Nat.beq m 0 then some (.slice (some ⟨o,off,none⟩) l k,h) else
    bif Nat.blt k ay then
     bif Nat.ble (l+m) k then
      match h.get o with
      |some (.cells s cs)=>
       bif Nat.ble lo o&&Nat.ble (off+(l+m)*n) cs.length then
        some (.slice (some ⟨o,off,none⟩) (l+m) k,h.put o (some (.cells s (fq cs (off+l*n) xs)))) else none
      |_=>none
     else
      match oq h n s l with
      |some gH=>
       bif Nat.ble (l+m) 17592186044416&&Nat.ble ((2*(l+m)+192)*bytes) 281474976710656 then
        some (.slice (some ⟨h.next,0,none⟩) (l+m) ay,h.alloc (.cells n (gH++xs))) else none
      |none=>none
    else bif Nat.blt k dI then
     match h.get o with
     |some (.cells s cs)=>
      bif !(Nat.ble lo o&&Nat.beq off ((k - ay)*n)&&Nat.beq s n&&Nat.ble (l+m) 17592186044416&&Nat.ble ((2*(l+m)+192)*bytes) 281474976710656) then none else
      bif Nat.ble (off+(l+m)*n) cs.length then
       some (.slice (some ⟨o,off,none⟩) (l+m) k,h.put o (some (.cells s (fq cs (off+l*n) xs))))
      else bif Nat.ble (off+l*n) cs.length then
       some (.slice (some ⟨h.next,0,none⟩) (l+m) ay,(h.put o none).alloc (.cells n ((cs.drop off).take (l*n)++xs)))
      else none
     |_=>none
    else none
   |_=>none
  |_,_,_=>none
 |_,_,_=>none
theorem Vr {U:Mu}{lo:Nat}{h:ah}{w:World}(r:Rel U lo h w){o:Nat}(ho:lo≤o)(aY:o<h.next):Rel U lo (h.put o none) w∧Frame lo U h w U (h.put o none) w:=by
 have oS:∀p x,(h.put o none).get p=some x→h.get p=some x:=fun p x hx=>by
  rw[ah.dH _ _ _ _ aY] at hx
  by_cases hp:p=o
  ·simp[hp] at hx
  simpa[hp] using hx
 refine⟨r.sub (Nat.le_refl _) oS (Nat.le_refl _) r.bI,⟨Mu.le_refl U,Nat.le_refl _,Nat.le_refl _,fun _ _ _=>rfl,fun b _=>?_,fun p hp=>?_,fun _ _=>rfl,fun p hp hn=>?_,.refl w⟩⟩
 ·rintro⟨p,x,a,C,h1,h2,h3⟩;exact⟨p,x,a,C,h1,oS p x h2,h3⟩
 ·rw[ah.dH _ _ _ _ aY]
  have:p≠o:=by omega
  simp[this]
 rw[ah.dH _ _ _ _ aY]
 by_cases h1:p=o
 ·simp[h1]
 simpa[h1] using hn
theorem Vs {U:Mu}{lo:Nat}{h:ah}{w w':World}(r:Rel U lo h w){o:Nat}{x:a7}(hx:h.get o=some x)(hl:lo≤o){b a C:Nat}(hm:U o=some (b,a,C))(y:a7)(a' C':Nat)
  (fp:w'.heap.size=w.heap.size) (hk:∀b',b'≠b→w'.heap[b']?=w.heap[b']?) (hy:∀ν,U.le ν→fD ν w' b a' C' y) (rR:∀off,w'.frozen? ⟨b,off,none⟩=false) (uC:Calm w w') :
  ∃aQ,aQ h.next=some (b,a',C')∧Rel aQ lo ((h.put o none).alloc y) w'∧Frame lo U h w aQ ((h.put o none).alloc y) w':=by
 have aY:=ah.fJ hx
 have hle:=r.AX (b,a',C')
 have fX:∀p z,((h.put o none).alloc y).get p=some z→(p=h.next∧z=y)∨(p≠h.next∧p≠o∧h.get p=some z):=fun p z hz=>by
  rw[ah.ij] at hz
  simp only[ah.Hn] at hz
  by_cases hp:p=h.next
  ·simp[hp] at hz;exact .inl ⟨hp,hz.symm⟩
  simp only[hp,if_false] at hz
  rw[ah.dH _ _ _ _ aY] at hz
  by_cases qX:p=o
  ·simp[qX] at hz
  simp only[qX,if_false] at hz;exact .inr ⟨hp,qX,hz⟩
 have ev:∀p z b' wZ oL,h.get p=some z→U p=some (b',wZ,oL)→p≠o→b'≠b:=fun p z b' wZ oL hz eu hp hb=>by
  subst hb;exact hp (r.inj o p x z b' a C wZ oL hl hx hz hm eu).symm
 refine⟨U.put h.next (b,a',C'),Mu.cz _ _ _,Rel.Ju r ?_ ?_ ?_ ?_ ?_ ⟨hle,by omega,by simp,fun b' _ hn=>hk b' (fun hb=>hn (hb▸⟨o,x,a,C,hl,hx,hm⟩)),?_,?_,fun p hp=>Mu.iX _ (by omega),fun p hp hn=>?_,uC⟩⟩
 ·intro p z hz
  rcases fX p z hz with⟨rfl,rfl⟩|⟨h1,h2,h3⟩
  ·exact⟨b,a',C',Mu.cz _ _ _,hy _ hle⟩
  obtain⟨b',wZ,oL,h4,h5⟩:=r.bg p z h3
  exact⟨b',wZ,oL,by rw[Mu.iX _ h1];exact h4,(h5.mono hle).kept (hk b' (ev p z b' wZ oL h3 h4 h2))⟩
 ·intro p p' z z' b' a1 C1 a2 C2 uD hz jT cq gC
  rcases fX p z hz with⟨rfl,rfl⟩|⟨h1,h2,h3⟩
  ·rcases fX p' z' jT with⟨rfl,rfl⟩|⟨nF,EA,Hz⟩
   ·rfl
   rw[Mu.iX _ nF] at gC
   rw[Mu.cz] at cq;injection cq with cq;injection cq with cq _;subst cq
   exact absurd rfl (ev p' z' _ _ _ Hz gC EA)
  rw[Mu.iX _ h1] at cq
  rcases fX p' z' jT with⟨rfl,rfl⟩|⟨nF,EA,Hz⟩
  ·rw[Mu.cz] at gC;injection gC with gC;injection gC with gC _;subst gC
   exact absurd rfl (ev p z _ _ _ h3 cq h2)
  rw[Mu.iX _ nF] at gC
  exact r.inj p p' z z' b' a1 C1 a2 C2 uD h3 Hz cq gC
 ·intro p z hz
  by_cases hp:p=h.next
  ·subst hp;simp
  rw[Mu.iX _ hp] at hz
  have:=r.nE p z hz
  simp;omega
 ·intro p z b' a1 C1 uD hz cq off
  rcases fX p z hz with⟨rfl,rfl⟩|⟨h1,h2,h3⟩
  ·rw[Mu.cz] at cq;injection cq with cq;injection cq with cq _;subst cq;exact rR off
  rw[Mu.iX _ h1] at cq
  rw[x9 (hk b' (ev p z b' a1 C1 h3 cq h2))]
  exact r.eI p z b' a1 C1 uD h3 cq off
 ·have:=r.bI;simp;omega
 ·intro b' oO
  rintro⟨p,z,a1,C1,uD,hz,cq⟩
  rcases fX p z hz with⟨rfl,rfl⟩|⟨h1,h2,h3⟩
  ·rw[Mu.cz] at cq;injection cq with cq;injection cq with cq _;subst cq;exact⟨o,x,a,C,hl,hx,hm⟩
  rw[Mu.iX _ h1] at cq;exact⟨p,z,a1,C1,uD,h3,cq⟩
 ·intro p hp
  rw[ah.ij,ah.Hn]
  have h1:p≠h.next:=by have:=r.bI;omega
  have h2:p≠o:=by omega
  simp only[h1,if_false]
  rw[ah.dH _ _ _ _ aY]
  simp[h2]
 rw[ah.ij,ah.Hn,if_neg (by omega),ah.dH _ _ _ _ aY]
 by_cases h1:p=o
 ·simp[h1]
 simpa[h1] using hn
theorem Vt {P:Program}{e:TypeId}{z:List Value}{i:TypeInfo}(hz:oP P e=some z)(hi:P.info? e=some i):∃zv,i.zero=some zv∧zv.cells.toList=z∧kK zv=true:=by
 unfold oP at hz
 simp only[hi,Option.bind_some] at hz
 cases h0:i.zero with
 |none=>simp[h0] at hz
 |some v=>
  simp only[h0] at hz
  cases hs:kK v with
  |false=>simp[hs] at hz
  |true=>simp[hs] at hz;exact⟨v,rfl,hz,hs⟩
theorem Oo:ay<dI:=by decide
theorem JJ (h:dI<ay):False:=absurd h (by decide)
theorem Vu (h:¬0<ay):False:=h (by decide)
theorem Oq (C:Nat):gj C ay=C:=by unfold gj;rw[if_neg (Nat.lt_irrefl _),Nat.sub_self,Nat.sub_zero]
theorem Vv {P:Program}{lo:Nat}{U:Mu}{h:ah}{w:World}(r:Rel U lo h w){sT xT ty:TypeId}{s s' x x' v:Value}{h':ah}(hs:aj U s s')(hx:aj U x x')
  (ha:oR P lo h sT xT s x=some (v,h')):ef P lo (Builtin.append_ #[sT,xT] ty #[s',x']) U h w v h':=by
 unfold oR at ha
 split at ha
 ·rename_i e n q m jv Vw hlen
  obtain⟨d0,n0⟩:=q
  obtain⟨hu,hn⟩:=tz jv
  obtain⟨HA,_⟩:=tz Vw
  obtain⟨hl,px,cx,q7⟩:=JF (P:=P) (w:=w) hx hlen
  split at ha
  ·rename_i z bytes xs hz hb qh
   cases hi:P.info? e with
   |none=>simp[hi] at hb
   |some i=>
   simp only[hi,Option.map_some,az] at hb
   have dm:i.size=n:=by simpa[cW,hi] using hn
   obtain⟨zv,Vx,Dg,zN⟩:=Vt hz hi
   cases zP:(Nat.beq z.length n&&Nat.blt 0 n&&xs.all (·.oneCell')) with
   |false=>rw[zP] at ha;simp at ha
   |true=>
   rw[zP] at ha
   simp only[Bool.not_true,bq] at ha
   simp only[bV] at zP
   obtain⟨⟨gZ,fV⟩,im⟩:=zP
   have gZ:z.length=n:=by simpa using gZ
   have fV:0<n:=by rw[Nat.blt_eq] at fV;exact fV
   obtain⟨bl,hf,eS,w7⟩:=Hx (P:=P) r hx q7 (Nat.le_refl _) qh
   have jV:(Builtin.firstCells i.size m x').run P w=.ok bl.toArray w:=by rw[dm];exact hf w (fun _=>rfl)
   have Vy:(Builtin.firstCells i.size m x').run P w.drew=.ok bl.toArray w.drew:=by rw[dm];exact hf w.drew (fun _=>rfl)
   have more:∀(base:Option Addr) (cr ft:Nat) (gH jH:List Value) (hh:ah),s'=.slice base cr ft→br U gH jH→gH.length=cr*n→
     (Builtin.firstCells i.size cr (.slice base cr ft)).run P w.drew=.ok jH.toArray w.drew→ft<cr+m→cr+m≤17592186044416→(2*(cr+m)+192)*bytes≤281474976710656→
     Rel U lo hh w→Frame lo U h w U hh w→
     ef P lo (Builtin.append_ #[sT,xT] ty #[s',x']) U h w (.slice (some ⟨hh.next,0,none⟩) (cr+m) ay) (hh.alloc (.cells n (gH++xs))):=by
    intro base cr ft gH jH hh EB ho A9 yf fK Om On rr ff
    subst EB
    have eR:=ka (P:=P) (w:=w) (sT:=sT) (xT:=xT) (ty:=ty) hu hi Vx HA hl yf Vy fK Om (by rw[hb];exact On)
    generalize hC:grownCap w (cr+m) ft e=C at eR
    have EC:cr+m≤C:=by rw[← hC];exact grownCap_ge w (cr+m) ft e
    have Vz:zv.cells.size=n:=by rw[← gZ,← Dg];simp
    have JK:bl.length=m*n:=by rw[← eS.1];exact w7
    have JL:jH.length=cr*n:=by rw[← ho.1];exact A9
    have nI:(jH.toArray++bl.toArray++Builtin.zeroCells zv.cells (C - (cr+m))).toList=jH++bl++cR z (C - (cr+m)):=by
     have:=range_zero zv.cells (C - (cr+m))
     rw[Dg] at this
     simp only[Array.toList_append,Builtin.zeroCells,this]
    obtain⟨aQ,h1,h2,h3⟩:=Oc rr.drew (jH.toArray++bl.toArray++Builtin.zeroCells zv.cells (C - (cr+m))) e n C (gH++xs)
     (fun j u hj=>by
      obtain⟨u',h1,h2⟩:=(ho.append eS).2 j u hj
      refine⟨u',?_,h2⟩
      rw[← Array.getElem?_toList,nI,List.getElem?_append_left ?_]
      ·exact h1
      rcases Nat.lt_or_ge j (jH++bl).length with h|h
      ·exact h
      rw[List.getElem?_eq_none h] at h1;simp at h1)
     (fun _=>by
      have fp:(jH.toArray++bl.toArray++Builtin.zeroCells zv.cells (C - (cr+m))).size=C*n:=by
       rw[← Array.length_toList,nI]
       simp only[List.length_append,Hs,JL,JK,gZ]
       rw[← Nat.add_mul,← Nat.add_mul]
       congr 1;omega
      refine⟨?_,by rw[fp];exact Nat.le_refl _⟩
      simp only[List.length_append,A9,w7]
      rw[← Nat.add_mul]
      exact Nat.mul_le_mul_right n EC)
    refine⟨_,_,aQ,eR,?_,h2,ff.trans ((Frame.drew lo U hh w).trans h3)⟩
    have ED:gj C ay=C:=Oq C
    have:=aj.slice hh.next 0 (cr+m) ay w.heap.size 0 C h1 (by rw[ED];exact EC) Oo
    rwa [ED] at this
   have idle:m=0→∀(base:Option Addr) (cr ft:Nat),s'=.slice base cr ft→cr≤ft→(Builtin.append_ #[sT,xT] ty #[s',x']).run P w=.ok s' w:=by
    intro hm base cr ft EB hle
    subst EB
    have uH:bl=[]:=by
     have:bl.length=0:=by rw[← eS.1,w7,hm];simp
     exact List.eq_nil_of_length_eq_zero this
    subst uH
    rw[eh (P:=P) (w:=w) (sT:=sT) (xT:=xT) (ty:=ty) hu hi HA hl jV (by omega)]
    cases base<;>simp[storeCells,hm]
   have fits:∀(o off l k b a C so:Nat) (cs:List Value),s'=.slice (some ⟨b,a+off,none⟩) l (gj C k)→U o=some (b,a,C)→h.get o=some (.cells so cs)→lo≤o→off+(l+m)*n≤cs.length→l+m≤gj C k→k<dI→
     ef P lo (Builtin.append_ #[sT,xT] ty #[s',x']) U h w (.slice (some ⟨o,off,none⟩) (l+m) k) (h.put o (some (.cells so (fq cs (off+l*n) xs)))):=by
    intro o off l k b a C so cs EB hm ho cC rW fK dL
    subst EB
    have uI:off+l*n+xs.length≤cs.length:=by rw[w7];rw[Nat.add_mul] at rW;omega
    obtain⟨h5,h6⟩:=C4 r ho cC hm (off+l*n) xs bl eS uI
    have dB:=Hq (P:=P) r ho cC hm (off+l*n) xs bl eS im uI
    refine⟨.slice (some ⟨b,a+off,none⟩) (l+m) (gj C k),w.setCells b (a+(off+l*n)) bl,U,?_,?_,h5,h6⟩
    ·rw[eh (P:=P) (w:=w) (sT:=sT) (xT:=xT) (ty:=ty) hu hi HA hl jV fK]
     simp only[rU,dm]
     rw[show a+off+l*n=a+(off+l*n) by omega,dB,Result.andThen_ok]
    exact .slice o off (l+m) k b a C hm fK dL
   split at ha
   · -- nil
    cases hs
    rcases jU m 0 with⟨hq,b8⟩|⟨hq,b8⟩
    ·rw[hq] at ha;simp only[aM,az,bO] at ha;obtain⟨rfl,rfl⟩:=ha
     exact .same r (idle b8 none 0 0 rfl (Nat.le_refl _)) .dK
    rw[hq] at ha;simp only[bq] at ha
    cases hc:(Nat.ble m 17592186044416&&Nat.ble ((2*m+192)*bytes) 281474976710656) with
    |false=>rw[hc] at ha;simp at ha
    |true=>
     rw[hc] at ha;simp only[aM,az,bO] at ha;obtain⟨rfl,rfl⟩:=ha
     simp only[bV] at hc
     have e1:m≤17592186044416:=by simpa using hc.1
     have e2:(2*m+192)*bytes≤281474976710656:=by simpa using hc.2
     have:=more none 0 0 [] [] h rfl (br.nil U) (by simp) (by simp[Builtin.firstCells]) (by omega) (by omega) (by simpa using e2) r (Frame.refl _ _ _ _)
     simpa using this
   ·rename_i o off l k
    rcases jU m 0 with⟨hq,b8⟩|⟨hq,b8⟩
    ·rw[hq] at ha;simp only[aM,az,bO] at ha;obtain⟨rfl,rfl⟩:=ha
     have yh:=hs
     cases hs with
     |slice _ _ _ _ b a C hm lj dL=>exact .same r (idle b8 _ _ _ rfl lj) yh
     |bS p p' c=>exact .same r (idle b8 _ _ _ rfl (Nat.zero_le _)) yh
     |cg p p'=>exact .same r (idle b8 _ _ _ rfl (Nat.zero_le _)) yh
    rw[hq] at ha;simp only[bq] at ha
    cases hk:Nat.blt k ay with
    |true=>
     rw[hk] at ha;simp only[aM] at ha
     have jw:k<ay:=by rw[Nat.blt_eq] at hk;exact hk
     cases rW:Nat.ble (l+m) k with
     |true=>
      rw[rW] at ha;simp only[aM] at ha
      have zQ:l+m≤k:=by simpa using rW
      split at ha
      ·rename_i so cs ho
       cases hc:(Nat.ble lo o&&Nat.ble (off+(l+m)*n) cs.length) with
       |false=>rw[hc] at ha;simp at ha
       |true=>
        rw[hc] at ha;simp only[aM,az,bO] at ha;obtain⟨rfl,rfl⟩:=ha
        simp only[bV] at hc
        have e1:lo≤o:=by simpa using hc.1
        have e2:off+(l+m)*n≤cs.length:=by simpa using hc.2
        cases hs with
        |slice _ _ _ _ b a C hm lj dL=>exact fits o off l k b a C so cs rfl hm ho e1 e2 (by rw[nG jw];exact zQ) dL
        |bS p p' c=>exact(JJ jw).elim
        |cg p p'=>omega
      simp at ha
     |false=>
      rw[rW] at ha;simp only[bq] at ha
      have zQ:¬l+m≤k:=by intro hh;have:Nat.ble (l+m) k=true:=(by simpa using hh);rw[rW] at this;cases this
      split at ha
      ·rename_i gH ir
       cases hc:(Nat.ble (l+m) 17592186044416&&Nat.ble ((2*(l+m)+192)*bytes) 281474976710656) with
       |false=>rw[hc] at ha;simp at ha
       |true=>
        rw[hc] at ha;simp only[aM,az,bO] at ha;obtain⟨rfl,rfl⟩:=ha
        simp only[bV] at hc
        have e1:l+m≤17592186044416:=by simpa using hc.1
        have e2:(2*(l+m)+192)*bytes≤281474976710656:=by simpa using hc.2
        have yh:=hs
        cases hs with
        |slice _ _ _ _ b a C hm lj dL=>
         rw[nG jw] at yh
         obtain⟨qi,g1,g2,g3⟩:=Hx (P:=P) r yh rfl (Nat.le_refl _) ir
         rw[nG jw]
         have:=more (some ⟨b,a+off,none⟩) l k gH qi h (by rw[nG jw]) g2 g3 (by rw[dm];exact g1 w.drew (fun _=>rfl)) (by omega) e1 e2 r (Frame.refl _ _ _ _)
         rwa [nG jw] at this
        |bS p p' c=>exact(JJ jw).elim
        |cg p p'=>
         obtain⟨qi,g1,g2,g3⟩:=Hx (P:=P) r yh rfl (Nat.le_refl _) ir
         exact more (some p') 0 0 gH qi h rfl g2 g3 (by rw[dm];exact g1 w.drew (fun _=>rfl)) (by omega) e1 e2 r (Frame.refl _ _ _ _)
      simp at ha
    |false=>
     rw[hk] at ha;simp only[bq] at ha
     have jw:¬k<ay:=by intro hh;rw[← Nat.blt_eq,hk] at hh;cases hh
     cases ja:Nat.blt k dI with
     |false=>rw[ja] at ha;simp at ha
     |true=>
     rw[ja] at ha;simp only[aM] at ha
     have A8:k<dI:=by rw[Nat.blt_eq] at ja;exact ja
     split at ha
     ·rename_i so cs ho
      cases hc:(Nat.ble lo o&&Nat.beq off ((k - ay)*n)&&Nat.beq so n&&Nat.ble (l+m) 17592186044416&&Nat.ble ((2*(l+m)+192)*bytes) 281474976710656) with
      |false=>rw[hc] at ha;simp at ha
      |true=>
       rw[hc] at ha;simp only[Bool.not_true,bq] at ha
       simp only[bV] at hc
       obtain⟨⟨⟨⟨c1,c2⟩,c3⟩,c4⟩,c5⟩:=hc
       have c1:lo≤o:=by simpa using c1
       have c2:off=(k - ay)*n:=by simpa using c2
       have c3:so=n:=by simpa using c3
       have c4:l+m≤17592186044416:=by simpa using c4
       have c5:(2*(l+m)+192)*bytes≤281474976710656:=by simpa using c5
       subst c3
       cases hs with
       |bS p p' c=>omega
       |cg p p'=>exact(Vu jw).elim
       |slice _ _ _ _ b a C hm lj dL=>
        have oT:=mZ r ho hm
        obtain⟨hblk,JN,qY⟩:=oT
        obtain⟨oU,jb⟩:=qY fV
        have fK:gj C k=C - (k - ay):=by simp[gj,jw]
        cases Ba:Nat.ble (off+(l+m)*so) cs.length with
        |true=>
         rw[Ba] at ha;simp only[aM,az,bO] at ha;obtain⟨rfl,rfl⟩:=ha
         have e2:off+(l+m)*so≤cs.length:=by simpa using Ba
         refine fits o off l k b a C so cs rfl hm ho c1 e2 ?_ dL
         rw[fK]
         have:(k - ay+(l+m))*so≤C*so:=by rw[Nat.add_mul];omega
         have:=Nat.le_of_mul_le_mul_right this fV
         omega
        |false=>
         rw[Ba] at ha;simp only[bq] at ha
         cases Bb:Nat.ble (off+l*so) cs.length with
         |false=>rw[Bb] at ha;simp at ha
         |true=>
          rw[Bb] at ha;simp only[aM,az,bO] at ha;obtain⟨rfl,rfl⟩:=ha
          have e2:off+l*so≤cs.length:=by simpa using Bb
          have aY:=ah.fJ ho
          obtain⟨fr,ff⟩:=Vr r c1 aY
          obtain⟨qi,g1,g2,g3⟩:=Hp (mZ r ho hm) off (l*so) e2
          have zR:=run_loadCells_list (P:=P) w.drew _ qi (fun j v hj=>g3 j v hj)
          rw[g2] at zR
          by_cases Bc:l+m≤gj C k
          · -- in place, beyond what was known
           have yj:off+l*so+bl.length≤C*so:=by
            rw[← eS.1,w7]
            have:(k - ay+(l+m))*so≤C*so:=Nat.mul_le_mul_right so (by omega)
            rw[Nat.add_mul,Nat.add_mul] at this
            omega
           have j8:∀j,j<bl.length→(w.cell? ⟨b,a+off+l*so+j,none⟩).isSome=true:=fun j hj=>by
            obtain⟨v',h3⟩:=jb (off+l*so+j) (by omega)
            rw[show a+off+l*so+j=a+(off+l*so+j) by omega,h3];rfl
           have dB:=run_storeCells_cells (P:=P) b (a+off+l*so) bl 0 w (by simpa using j8) (fun j hj=>r.eI o _ b a C c1 ho hm _) (Og eS im)
           simp only[Nat.add_zero] at dB
           have ym:∀j,j<l*so→(w.setCells b (a+off+l*so) bl).cell? ⟨b,a+off+j,none⟩=w.cell? ⟨b,a+off+j,none⟩:=fun j hj=>
            World.cell?_setCells_out b bl _ w _ (fun _ _=>by simp;omega)
           obtain⟨aQ,q1,q2,q3⟩:=Vs r ho c1 hm (.cells so ((cs.drop off).take (l*so)++xs)) (a+off) (C - (k - ay)) (w':=w.setCells b (a+off+l*so) bl)
            (Er _ _ _ _) (fun b' oO=>Jx _ _ _ _ oO)
            (fun ν yn=>by
             refine⟨by rw[Er];exact hblk,fun j u hj=>?_,fun _=>⟨?_,fun j hj=>?_⟩⟩
             ·have EE:((cs.drop off).take (l*so)).length=l*so:=by simp;omega
              by_cases dY:j<l*so
              ·rw[List.getElem?_append_left (by omega)] at hj
               obtain⟨u',t1,t2⟩:=g1.2 j u hj
               refine⟨u',?_,t2.mono yn⟩
               rw[ym j dY]
               have:=g3 j u' t1
               rwa [rU] at this
              rw[List.getElem?_append_right (by omega),EE] at hj
              obtain⟨u',t1,t2⟩:=eS.2 _ u hj
              have Ot:j - l*so<bl.length:=by
               rcases Nat.lt_or_ge (j - l*so) bl.length with h|h
               ·exact h
               rw[List.getElem?_eq_none h] at t1;simp at t1
              refine⟨u',?_,t2.mono yn⟩
              have:=World.cell?_setCells_in b bl (a+off+l*so) w j8 (j - l*so) Ot
              rw[show a+off+l*so+(j - l*so)=a+off+j by omega] at this
              rw[this]
              rw[List.getElem?_eq_getElem Ot] at t1
              exact t1
             ·simp only[List.length_append,List.length_take,List.length_drop,w7]
              rw[Nat.min_eq_left (by omega),← Nat.add_mul]
              exact Nat.mul_le_mul_right so (by omega)
             have VA:off+j<C*so:=by
              rw[Nat.sub_mul] at hj;omega
             obtain⟨v',h3⟩:=jb (off+j) VA
             by_cases VB:l*so≤j∧j<l*so+bl.length
             ·have:=World.cell?_setCells_in b bl (a+off+l*so) w j8 (j - l*so) (by omega)
              rw[show a+off+l*so+(j - l*so)=a+off+j by omega] at this
              exact⟨_,this⟩
             refine⟨v',?_⟩
             rw[World.cell?_setCells_out b bl _ w _ (fun _ _=>by simp;omega)]
             rw[show a+off+j=a+(off+j) by omega]
             exact h3)
            (fun mD=>by rw[World.frozen?_setCells];exact r.eI o _ b a C c1 ho hm mD) (Jz _ _ _ _)
           refine⟨.slice (some ⟨b,a+off,none⟩) (l+m) (gj C k),w.setCells b (a+off+l*so) bl,aQ,?_,?_,q2,q3⟩
           ·rw[eh (P:=P) (w:=w) (sT:=sT) (xT:=xT) (ty:=ty) hu hi HA hl jV Bc]
            simp only[rU,dm]
            rw[dB,Result.andThen_ok]
           have ED:gj (C - (k - ay)) ay=C - (k - ay):=Oq _
           have:=aj.slice h.next 0 (l+m) ay b (a+off) (C - (k - ay)) q1 (by rw[ED];omega) Oo
           rw[ED] at this
           rw[fK]
           exact this
          have:=more (some ⟨b,a+off,none⟩) l (gj C k) ((cs.drop off).take (l*so)) qi (h.put o none) rfl g1 (by simp;omega) (by simpa[Builtin.firstCells,dm] using zR) (by omega) c4 c5 fr ff
          simpa using this
     simp at ha
   simp at ha
  simp at ha
 simp at ha
theorem ef.mk {P:Program}{lo:Nat}{s:Sem Value}{U aQ:Mu}{h h':ah}{w w':World}{v v':Value}(hr:s.run P w=.ok v' w')(hv:aj aQ v v')(r:Rel aQ lo h' w')(f:Frame lo U h w aQ h' w') :
 ef P lo s U h w v h':=⟨v',w',aQ,hr,hv,r,f⟩
def lk (n:Nat):Value:=.int .i64 n
def Dh (P:Program)(lo:Nat)(h:ah)(dT:TypeId)(d x:Value):Option (Value×ah):=
 match fT P dT,jG d,jG x with
 |some (_,n),some dl,some xl=>
  match oq h n x (Nat.min xl dl) with
  |some xs=>
   bif Nat.beq (Nat.min xl dl) 0 then some (lk 0,h) else
   match d with
   |.slice (some ⟨o,off,none⟩) _ _=>
    match h.get o with
    |some (.cells s cs)=>
     bif Nat.ble lo o&&Nat.ble (off+xs.length) cs.length&&xs.all (·.oneCell') then some (lk (Nat.min xl dl),h.put o (some (.cells s (fq cs off xs)))) else none
    |_=>none
   |_=>none
  |none=>none
 |_,_,_=>none
theorem VC {P:Program}{lo:Nat}{U:Mu}{h:ah}{w:World}(r:Rel U lo h w){dT xT ty:TypeId}{d d' x x' v:Value}{h':ah}(hd:aj U d d')(hx:aj U x x')
  (ha:Dh P lo h dT d x=some (v,h')):ef P lo (Builtin.copy_ #[dT,xT] ty #[d',x']) U h w v h':=by
 unfold Dh at ha
 split at ha
 ·rename_i e n dl xl jv zS w7
  obtain⟨hu,hn⟩:=tz jv
  obtain⟨q8,px,cx,q7⟩:=JF (P:=P) (w:=w) hx w7
  obtain⟨_,pd,cd,uJ⟩:=JF (P:=P) (w:=w) hd zS
  split at ha
  ·rename_i xs qh
   obtain⟨bl,hf,eS,hlen⟩:=Hx (P:=P) r hx q7 (Nat.min_le_left _ _) qh
   have jV:(Builtin.firstCells n (Nat.min xl dl) x').run P w=.ok bl.toArray w:=hf w (fun _=>rfl)
   have hlen:xs.length=Nat.min xl dl*n:=hlen
   have hmm:min xl dl=Nat.min xl dl:=rfl
   rcases jU (Nat.min xl dl) 0 with⟨hq,b8⟩|⟨hq,b8⟩
   ·rw[hq] at ha;simp only[aM,az,bO] at ha;obtain⟨rfl,rfl⟩:=ha
    have uH:bl=[]:=by
     have:bl.length=0:=by rw[← eS.1,hlen,b8];simp
     exact List.eq_nil_of_length_eq_zero this
    subst uH
    rw[b8] at jV
    refine .same r (v':=.int .i64 0) ?_ (.int _ _)
    subst uJ
    cases pd<;>simp[Builtin.copy_,run_underlying hu,q8,mE hn,b8,jV,storeCells,goInt]
   rw[hq] at ha;simp only[bq] at ha
   split at ha
   ·rename_i o off l0 k0
    split at ha
    ·rename_i so cs ho
     cases hc:(Nat.ble lo o&&Nat.ble (off+xs.length) cs.length&&xs.all (·.oneCell')) with
     |false=>rw[hc] at ha;simp at ha
     |true=>
      rw[hc] at ha;simp only[aM,az,bO] at ha;obtain⟨rfl,rfl⟩:=ha
      simp only[bV] at hc
      obtain⟨⟨c1,c2⟩,c3⟩:=hc
      have c1:lo≤o:=by simpa using c1
      have c2:off+xs.length≤cs.length:=by simpa using c2
      simp only[jG,az] at zS
      subst zS
      cases hd with
      |slice _ _ _ _ b a C hm hl dL=>
       obtain⟨h5,h6⟩:=C4 r ho c1 hm off xs bl eS c2
       have dB:=Hq (P:=P) r ho c1 hm off xs bl eS c3 c2
       refine .mk (v':=.int .i64 (Nat.min xl l0)) (w':=w.setCells b (a+off) bl) ?_ (.int _ _) h5 h6
       simp[Builtin.copy_,run_underlying hu,q8,mE hn,jV,dB,goInt]
      |bS=>exact(b8 (by simp)).elim
      |cg=>exact(b8 (by simp)).elim
    simp at ha
   simp at ha
  simp at ha
 simp at ha
def mi (P:Program)(h:ah)(t:TypeId)(x:Value):Option Value:=
 match P.underlying t,x with
 |some .string,.string s=>some (lk s.size)
 |some (.slice _),.slice _ n _=>some (lk n)
 |some (.array n _),_=>some (lk n)
 |some (.map _ _),.map none=>some (lk 0)
 |some (.map _ _),.map (some o)=>match h.get o with
  |some (.map es)=>some (lk es.length)
  |_=>none
 |_,_=>none
theorem VD {P:Program}{lo:Nat}{U:Mu}{h:ah}{w:World}(r:Rel U lo h w){t ty:TypeId}{x x' v:Value}(hx:aj U x x')(ha:mi P h t x=some v) :
  ef P lo (Builtin.len_ #[t] ty #[x']) U h w v h:=by
 unfold mi at ha
 split at ha
 ·rename_i hu;simp only[az] at ha;subst ha;cases hx
  exact .same r (by simp[Builtin.len_,run_underlying hu];rfl) (.int _ _)
 ·rename_i hu;simp only[az] at ha;subst ha
  cases hx<;>exact .same r (by simp[Builtin.len_,run_underlying hu];rfl) (.int _ _)
 ·rename_i hu;simp only[az] at ha;subst ha
  exact .same r (by simp[Builtin.len_,run_underlying hu];rfl) (.int _ _)
 ·rename_i hu;simp only[az] at ha;subst ha;cases hx
  exact .same r (by simp[Builtin.len_,run_underlying hu];rfl) (.int _ _)
 ·rename_i hu
  split at ha
  ·rename_i es ho
   simp only[az] at ha;subst ha
   cases hx with
   |map o b C hm=>
    obtain⟨_,entries,clock,h1,l,h2,h3,h4,_⟩:=mZ r ho hm
    have hl:entries.size=es.length:=by rw[← h4];exact h2.length_eq
    refine .same r (v':=.int .i64 es.length) ?_ (.int _ _)
    simp[Builtin.len_,run_underlying hu,getObj,Sem.run,h1,hl,goInt]
  simp at ha
 simp at ha
def yo (P:Program)(t:TypeId)(x:Value):Option Value:=
 match P.underlying t,x with
 |some (.slice _),.slice _ _ k=>bif Nat.blt k ay then some (lk k) else none
 |_,_=>none
theorem VE {P:Program}{U:Mu}{w:World}{t ty:TypeId}{x x' v:Value}(hx:aj U x x')(ha:yo P t x=some v):∃v',(Builtin.cap_ #[t] ty #[x']).run P w=.ok v' w∧aj U v v':=by
 unfold yo at ha
 split at ha
 ·rename_i e p l k hu
  cases hk:Nat.blt k ay with
  |false=>rw[hk] at ha;simp at ha
  |true=>
   rw[hk] at ha;simp only[aM,az] at ha;subst ha
   have jw:k<ay:=by rw[Nat.blt_eq] at hk;exact hk
   cases hx with
   |dK=>exact⟨_,by simp[Builtin.cap_,run_underlying hu];rfl,.int _ _⟩
   |slice _ _ _ _ b a C hm hl dL=>exact⟨_,by simp[Builtin.cap_,run_underlying hu,nG jw];rfl,.int _ _⟩
   |bS=>exact(JJ jw).elim
   |cg=>exact⟨_,by simp[Builtin.cap_,run_underlying hu];rfl,.int _ _⟩
 simp at ha
def w8 (P:Program)(lo:Nat)(h:ah)(t:TypeId)(x:Value):Option ah:=
 match fT P t,x with
 |some _,.slice none _ _=>some h
 |some _,.slice (some _) 0 _=>some h
 |some (e,n),.slice (some ⟨o,off,none⟩) l _=>
  match oP P e,h.get o with
  |some z,some (.cells s cs)=>
   bif Nat.ble lo o&&Nat.beq z.length n&&Nat.ble (off+l*n) cs.length&&z.all (·.oneCell') then some (h.put o (some (.cells s (fq cs off (cR z l))))) else none
  |_,_=>none
 |_,_=>none
theorem Ou {z:List Value}(h:z.all (·.oneCell')=true):∀n,(cR z n).all (·.oneCell')=true
 |0=>rfl
 |n+1=>by rw[cR,List.all_append,h,Ou h n];rfl
theorem Ov {P:Program}{t:TypeId}{q:TypeId×Nat}(h:fT P t=some q):P.underlying t=some (.slice q.1):=(tz (e:=q.1) (n:=q.2) h).1
theorem VG {P:Program}{lo:Nat}{U:Mu}{h:ah}{w:World}(r:Rel U lo h w){t ty:TypeId}{x x':Value}{h':ah}(hx:aj U x x')(ha:w8 P lo h t x=some h') :
  ef P lo (Builtin.clear_ #[t] ty #[x']) U h w Go.undef h':=by
 unfold w8 at ha
 split at ha
 ·rename_i jv
  have hu:=Ov jv
  simp only[az] at ha;subst ha
  cases hx
  exact .same r (v':=Go.undef) (by simp[Builtin.clear_,run_underlying hu,Go.undef]) .undef
 ·rename_i jv
  have hu:=Ov jv
  simp only[az] at ha;subst ha
  cases hx<;>exact .same r (v':=Go.undef) (by simp[Builtin.clear_,run_underlying hu,Go.undef]) .undef
 ·rename_i e n o off l k dp jv
  obtain⟨hu,hn⟩:=tz jv
  split at ha
  ·rename_i z s cs hz ho
   cases hc:(Nat.ble lo o&&Nat.beq z.length n&&Nat.ble (off+l*n) cs.length&&z.all (·.oneCell')) with
   |false=>rw[hc] at ha;simp at ha
   |true=>
    rw[hc] at ha;simp only[aM,az] at ha;subst ha
    simp only[bV] at hc
    obtain⟨⟨⟨c1,c2⟩,c3⟩,c4⟩:=hc
    have c1:lo≤o:=by simpa using c1
    have c2:z.length=n:=by simpa using c2
    have c3:off+l*n≤cs.length:=by simpa using c3
    obtain⟨zv,h1,h2,h3⟩:=yc hz w
    have mh:l≠0:=fun h=>dp h
    cases hx with
    |slice _ _ _ _ b a C hm hl dL=>
     have rX:br U (cR z l) (cR z l):=Db (h2▸AZ h3) l
     have hlen:off+(cR z l).length≤cs.length:=by rw[Hs,c2];exact c3
     obtain⟨h5,h6⟩:=C4 r ho c1 hm off _ _ rX hlen
     have dB:=Hq (P:=P) r ho c1 hm off _ _ rX (Ou c4 l) hlen
     have HB:(Builtin.zeroCells zv.cells l).toList=cR z l:=by
      have:=range_zero zv.cells l
      rw[h2] at this;exact this
     refine .mk (v':=Go.undef) (w':=w.setCells b (a+off) (cR z l)) ?_ .undef h5 h6
     cases l with
     |zero=>exact(mh rfl).elim
     |succ l=>simp[Builtin.clear_,run_underlying hu,h1,HB,dB,Go.undef]
    |bS=>exact(mh rfl).elim
    |cg=>exact(mh rfl).elim
  simp at ha
 simp at ha
def rY (mx:Bool):Value→Value→Option Value
 |.int k x,.int _ y=>some (.int k (bif mx then (if y > x then y else x) else (if y<x then y else x)))
 |_,_=>none
def kL (mx:Bool):Value→List Value→Option Value
 |x,[]=>some x
 |x,y::r=>match rY mx x y with
  |some z=>kL mx z r
  |none=>none
theorem Ow {P:Program}{U:Mu}{w:World}:∀ {r r':List Value} {x x' v:Value},aj U x x'→br U r r'→kL true x r=some v→∃v',(r'.foldlM Builtin.max2 x').run P w=.ok v' w∧aj U v v'
 |[],r',x,x',v,hx,hr,h=>by
  have:=hr.iW;subst this
  simp only[kL,az] at h;subst h
  exact⟨x',rfl,hx⟩
 |y::r,r',x,x',v,hx,hr,h=>by
  obtain⟨y',r2,rfl,hy,jb⟩:=hr.dw
  simp only[kL] at h
  split at h
  ·rename_i z hz
   unfold rY at hz
   split at hz
   ·cases hx;cases hy
    simp only[aM,az] at hz;subst hz
    obtain⟨v',h1,h2⟩:=Ow (P:=P) (w:=w) (aj.int _ _) jb h
    exact⟨v',by simp only[List.foldlM_cons,Sem.run_bind,Builtin.max2,Sem.run_pure,Result.andThen_ok];exact h1,h2⟩
   simp at hz
  simp at h
theorem Ox {P:Program}{U:Mu}{w:World}:∀ {r r':List Value} {x x' v:Value},aj U x x'→br U r r'→kL false x r=some v→∃v',(r'.foldlM Builtin.min2 x').run P w=.ok v' w∧aj U v v'
 |[],r',x,x',v,hx,hr,h=>by
  have:=hr.iW;subst this
  simp only[kL,az] at h;subst h
  exact⟨x',rfl,hx⟩
 |y::r,r',x,x',v,hx,hr,h=>by
  obtain⟨y',r2,rfl,hy,jb⟩:=hr.dw
  simp only[kL] at h
  split at h
  ·rename_i z hz
   unfold rY at hz
   split at hz
   ·cases hx;cases hy
    simp only[bq,az] at hz;subst hz
    obtain⟨v',h1,h2⟩:=Ox (P:=P) (w:=w) (aj.int _ _) jb h
    exact⟨v',by simp only[List.foldlM_cons,Sem.run_bind,Builtin.min2,Sem.run_pure,Result.andThen_ok];exact h1,h2⟩
   simp at hz
  simp at h
def uK (kd:IntKind)(n:Int):List (Value×Value)→Option (Option Value)
 |[]=>some none
 |(.int k a,v)::r=>
  bif decide (k=kd) then
   match uK kd n r with
   |none=>none
   |some q=>some (bif decide (a=n) then some v else q)
  else none
 |_=>none
theorem HC {kd:IntKind}{n:Int}:∀ {es:List (Value×Value)} {q:Option Value},uK kd n es=some q→
  (∀p∈es,∃a,p.1=.int kd a)∧(∀v,q=some v→(Value.int kd n,v)∈es)∧(q=none→∀p∈es,p.1≠.int kd n)
 |[],q,h=>by simp only[uK,az] at h;subst h;exact⟨by simp,by simp,by simp⟩
 |(k,v)::r,q,h=>by
  unfold uK at h
  split at h
  ·rename_i heq;cases heq
  ·rename_i k a v' r' heq
   simp only[List.cons.injEq,bO] at heq
   obtain⟨⟨rfl,rfl⟩,rfl⟩:=heq
   cases hk:decide (k=kd) with
   |false=>rw[hk] at h;simp at h
   |true=>
    rw[hk] at h;simp only[aM] at h
    have jw:k=kd:=by simpa using hk
    subst jw
    split at h
    ·simp at h
    rename_i q' b8
    obtain⟨i1,i2,i3⟩:=HC b8
    simp only[az] at h;subst h
    refine⟨?_,?_,?_⟩
    ·intro p hp
     cases List.mem_cons.1 hp with
     |inl e=>subst e;exact⟨a,rfl⟩
     |inr e=>exact i1 p e
    ·intro u hu
     cases ha:decide (a=n) with
     |true=>rw[ha] at hu;simp at hu ha;subst hu ha;simp
     |false=>rw[ha] at hu;simp only[bq] at hu;exact List.mem_cons_of_mem _ (i2 u hu)
    intro hn p hp
    cases ha:decide (a=n) with
    |true=>rw[ha] at hn;simp at hn
    |false=>
     rw[ha] at hn;simp only[bq] at hn
     have JO:a≠n:=by simpa using ha
     cases List.mem_cons.1 hp with
     |inl e=>subst e;simpa using JO
     |inr e=>exact i3 hn p e
  simp at h
theorem findNow_spec {k0 kd:IntKind}{n:Int}:∀(L:List MapEntry) (i:Nat),(∀e∈L,∃a,e.key=.int kd a)→
  (∃j e,L[j]?=some e∧e.key=.int kd n∧Instr.findNow (.int k0) (.int kd n) L i=some (some (i+j,e.val)))∨((∀e∈L,e.key≠.int kd n)∧Instr.findNow (.int k0) (.int kd n) L i=some none)
 |[],i,_=>.inr ⟨by simp,rfl⟩
 |e::L,i,h=>by
  obtain⟨a,ha⟩:=h e (by simp)
  simp only[Instr.findNow,ha,Instr.sameNow,if_true]
  by_cases hn:n=a
  ·subst hn
   simp only[beq_self_eq_true]
   exact .inl ⟨0,e,by simp,ha,by simp⟩
  have:(n==a)=false:=by simpa using hn
  simp only[this]
  rcases findNow_spec (k0:=k0) (kd:=kd) (n:=n) L (i+1) (fun e he=>h e (List.mem_cons_of_mem _ he)) with⟨j,e',h1,h2,h3⟩|⟨h1,h2⟩
  ·exact .inl ⟨j+1,e',by simpa using h1,h2,by rw[h3];simp;omega⟩
  refine .inr ⟨fun e' cX=>?_,h2⟩
  cases List.mem_cons.1 cX with
  |inl JQ=>subst JQ;rw[ha];simp;exact fun h=>hn h.symm
  |inr JQ=>exact h1 e' JQ
def lG (P:Program)(t:TypeId):Option (TypeId×TypeId):=
 match P.underlying t with
 |some (.map k e)=>match P.underlying k with
  |some (.int _)=>some (k,e)
  |_=>none
 |_=>none
theorem JR {P:Program}{t k e:TypeId}(h:lG P t=some (k,e)):P.underlying t=some (.map k e)∧∃k0,P.underlying k=some (.int k0):=by
 unfold lG at h
 split at h
 ·rename_i k' e' hu
  split at h
  ·rename_i k0 hk
   simp only[az,bO] at h
   obtain⟨rfl,rfl⟩:=h
   exact⟨hu,k0,hk⟩
  simp at h
 simp at h
theorem HD {α:Type}{l:List α}(h:l.Nodup){i j:Nat}(hi:i<l.length)(hj:j<l.length)(he:l[i]=l[j]):i=j:=by
 rcases Nat.lt_trichotomy i j with h1|h1|h1
 ·exact absurd he (List.pairwise_iff_getElem.1 h i j hi hj h1)
 ·exact h1
 exact absurd he.symm (List.pairwise_iff_getElem.1 h j i hj hi h1)
theorem EF {P:Program}{w:World}{U:Mu}{es:List (Value×Value)}{entries:Array MapEntry}{clock:Nat}(hM:fR U es entries clock){kT:TypeId}{k0 kd:IntKind}{n:Int}{q:Option Value}(hk:P.underlying kT=some (.int k0))(hq:uK kd n es=some q) :
  (∃v j e,q=some v∧entries[j]?=some e∧e.key=.int kd n∧aj U v e.val∧(Instr.findKey kT (.int kd n) entries.toList).run P w=.ok (some (j,e.val)) w)∨
  (q=none∧(∀e∈entries.toList,e.key≠.int kd n)∧(Instr.findKey kT (.int kd n) entries.toList).run P w=.ok none w):=by
 obtain⟨l,h1,h0,h2,h3,h4,h5⟩:=hM
 obtain⟨i1,i2,i3⟩:=HC hq
 have bo:∀e∈entries.toList,∃p∈es,AU U p e:=fun e he=>by
  obtain⟨j,hj⟩:=List.getElem?_of_mem he
  have mY:entries[j]?=some e:=by simpa using hj
  have dY:j<l.length:=by
   rw[h2]
   rcases Nat.lt_or_ge j entries.size with h|h
   ·exact h
   rw[Array.getElem?_eq_none h] at mY;simp at mY
  exact⟨l[j],h1.mem_iff.1 (List.getElem_mem dY),h3 j l[j] e (by simp[dY]) mY⟩
 have lH:∀e∈entries.toList,∃a,e.key=.int kd a:=fun e he=>by
  obtain⟨p,hp,hr⟩:=bo e he
  obtain⟨a,ha⟩:=i1 p hp
  exact⟨a,by rw[hr.1,ha]⟩
 rcases findNow_spec (k0:=k0) (n:=n) entries.toList 0 lH with⟨j,e,g1,g2,g3⟩|⟨g1,g2⟩
 ·have he:e∈entries.toList:=List.mem_of_getElem? g1
  have yp:entries[j]?=some e:=by simpa using g1
  have dY:j<l.length:=by
   rw[h2]
   rcases Nat.lt_or_ge j entries.size with h|h
   ·exact h
   rw[Array.getElem?_eq_none h] at yp;simp at yp
  have hr:=h3 j l[j] e (by simp[dY]) yp
  have lI:l[j]∈es:=h1.mem_iff.1 (List.getElem_mem dY)
  cases q with
  |none=>exact absurd (hr.1▸g2) (i3 rfl _ lI)
  |some v=>
   have hv:=i2 v rfl
   have uG:(Value.int kd n,v)∈l:=h1.mem_iff.2 hv
   have:l[j]=(Value.int kd n,v):=by
    obtain⟨j2,Bd,nJ⟩:=List.getElem_of_mem uG
    have mj:(l.map (·.1))[j]'(by simpa using dY)=(l.map (·.1))[j2]'(by simpa using Bd):=by
     simp only[List.getElem_map,nJ]
     rw[← hr.1,g2]
    have zT:j=j2:=HD h0 _ _ mj
    subst zT
    exact nJ
   refine .inl ⟨v,j,e,rfl,yp,g2,?_,?_⟩
   ·have:=hr.2;rwa [‹l[j]=_›] at this
   simp only[Instr.findKey,Sem.run_bind,run_underlying hk,Result.andThen_ok,g3,Sem.run_pure,Nat.zero_add]
 refine .inr ⟨?_,g1,?_⟩
 ·cases q with
  |none=>rfl
  |some v=>
   have hv:=i2 v rfl
   have uG:(Value.int kd n,v)∈l:=h1.mem_iff.2 hv
   obtain⟨j2,Bd,nJ⟩:=List.getElem_of_mem uG
   have q9:j2<entries.size:=by omega
   have:=h3 j2 l[j2] entries[j2] (by simp[Bd]) (by simp[q9])
   rw[nJ] at this
   exact absurd this.1 (g1 _ (by simp))
 simp only[Instr.findKey,Sem.run_bind,run_underlying hk,Result.andThen_ok,g2,Sem.run_pure]
def ey (P:Program)(t:TypeId):Option Value:=
 match (P.info? t).bind (·.zero) with
 |some v=>bif kK v then some v else none
 |none=>none
theorem Oy {P:Program}{t:TypeId}{z:Value}(h:ey P t=some z)(w:World):(zeroValue t).run P w=.ok z w∧kK z=true:=by
 unfold ey at h
 cases hi:P.info? t with
 |none=>simp[hi] at h
 |some i=>
  simp only[hi,Option.bind_some] at h
  cases hz:i.zero with
  |none=>simp[hz] at h
  |some v=>
   simp only[hz] at h
   cases hs:kK v with
   |false=>simp[hs] at h
   |true=>simp[hs] at h;subst h;exact⟨by simp[zeroValue,typeInfo,hi,hz],hs⟩
theorem run_checkKey {P:Program}{w:World}{kT:TypeId}{k0 kd:IntKind}{n:Int}(hk:P.underlying kT=some (.int k0))(b:Bool):(Instr.checkKey b 10000 kT (.int kd n)).run P w=.ok () w:=by
 have:∀d,(Instr.checkKey b (d+1) kT (.int kd n)).run P w=.ok () w:=fun d=>by
  simp only[Instr.checkKey,Sem.run_bind,run_underlying hk,Result.andThen_ok,Sem.run_pure]
 exact this 9999
def tD (P:Program)(h:ah)(t:TypeId)(m k:Value)(ok:Bool):Option Value:=
 match lG P t,k with
 |some (_,e),.int kd n=>
  match ey P e with
  |some z=>
   let r:Option (Option Value):=match m with
    |.map none=>some none
    |.map (some o)=>match h.get o with
     |some (.map es)=>uK kd n es
     |_=>none
    |_=>none
   match r with
   |some (some v)=>some (bif ok then .tuple #[v,.bool true] else v)
   |some none=>some (bif ok then .tuple #[z,.bool false] else z)
   |none=>none
  |none=>none
 |_,_=>none
theorem aj.pair {U:Mu}{a b a' b':Value}(ha:aj U a a')(hb:aj U b b'):aj U (.tuple #[a,b]) (.tuple #[a',b']):=by
 have:=aj.p9 (br.cons ha (br.cons hb (br.nil U)))
 simpa using this
theorem VH {P:Program}{lo:Nat}{U:Mu}{h:ah}{w:World}(r:Rel U lo h w){t:TypeId}{m m' k k' v:Value}{ok:Bool}(hm:aj U m m')(hk:aj U k k')(ha:tD P h t m k ok=some v) :
  ef P lo (Instr.lookup t m' k' ok) U h w v h:=by
 unfold tD at ha
 split at ha
 ·rename_i kT e kd n jv
  obtain⟨hu,k0,dL⟩:=JR jv
  cases hk
  split at ha
  ·rename_i z hz
   obtain⟨ll,rZ⟩:=Oy hz w
   have yq:aj U z z:=.yb rZ
   simp only at ha
   split at ha
   ·rename_i v0 hr
    simp only[az] at ha;subst ha
    split at hr
    ·simp at hr
    ·rename_i o
     split at hr
     ·rename_i es ho
      cases hm with
      |map _ b C kM=>
       obtain⟨_,entries,clock,h1,hM⟩:=mZ r ho kM
       rcases EF (P:=P) (w:=w) hM dL hr with⟨v1,j,e1,g1,g2,g3,g4,g5⟩|⟨g1,_⟩
       ·simp only[az] at g1;subst g1
        cases ok with
        |true=>exact .same r (by simp[Instr.lookup,run_underlying hu,getObj,Sem.run,h1,run_checkKey dL,g5]) (.pair g4 (.bool true))
        |false=>exact .same r (by simp[Instr.lookup,run_underlying hu,getObj,Sem.run,h1,run_checkKey dL,g5]) g4
       cases g1
     simp at hr
    simp at hr
   ·rename_i hr
    simp only[az] at ha;subst ha
    split at hr
    ·cases hm
     cases ok with
     |true=>exact .same r (by simp[Instr.lookup,run_underlying hu,run_checkKey dL,Instr.findKey,run_underlying dL,Instr.findNow,ll]) (.pair yq (.bool false))
     |false=>exact .same r (by simp[Instr.lookup,run_underlying hu,run_checkKey dL,Instr.findKey,run_underlying dL,Instr.findNow,ll]) yq
    ·rename_i o
     split at hr
     ·rename_i es ho
      cases hm with
      |map _ b C kM=>
       obtain⟨_,entries,clock,h1,hM⟩:=mZ r ho kM
       rcases EF (P:=P) (w:=w) hM dL hr with⟨v1,j,e1,g1,_⟩|⟨_,_,g5⟩
       ·cases g1
       cases ok with
       |true=>exact .same r (by simp[Instr.lookup,run_underlying hu,getObj,Sem.run,h1,run_checkKey dL,g5,ll]) (.pair yq (.bool false))
       |false=>exact .same r (by simp[Instr.lookup,run_underlying hu,getObj,Sem.run,h1,run_checkKey dL,g5,ll]) yq
     simp at hr
    simp at hr
   simp at ha
  simp at ha
 simp at ha
def jc (n:Int)(v:Value)(p:Value×Value):Value×Value:=
 match p with
 |(.int k a,u)=>bif decide (a=n) then (.int k a,v) else (.int k a,u)
 |p=>p
def oV (n:Int)(p:Value×Value):Bool:=
 match p.1 with
 |.int _ a=>!decide (a=n)
 |_=>true
def Be (P:Program)(lo:Nat)(h:ah)(t:TypeId)(m k v:Value):Option ah:=
 match lG P t,m,k with
 |some _,.map (some o),.int kd n=>
  match h.get o with
  |some (.map es)=>
   bif Nat.ble lo o then
    match uK kd n es with
    |some (some _)=>some (h.put o (some (.map (es.map (jc n v)))))
    |some none=>some (h.put o (some (.map (es++[(.int kd n,v)]))))
    |none=>none
   else none
  |_=>none
 |_,_,_=>none
theorem Oz (d:Nat)(k:IntKind)(n:Int):Instr.sameBits d (.int k n) (.int k n)=true:=by
 cases d<;>simp[Instr.sameBits]
theorem zU {P:Program}{w:World}{b:Nat}{entries eZ:Array MapEntry}{clock jd:Nat}(h:w.heap[b]?=some (.map entries clock)) :
  (setObj b (.map eZ jd)).run P w=.ok () { w with heap:=w.heap.setIfInBounds b (.map eZ jd) }:=by
 simp[setObj,Sem.run,h]
theorem zV {U:Mu}{lo:Nat}{h:ah}{w:World}(r:Rel U lo h w){o:Nat}{es bh:List (Value×Value)}(hx:h.get o=some (.map es))(hl:lo≤o){b C:Nat}(hm:U o=some (b,0,C))
  {entries eZ:Array MapEntry} {clock jd:Nat} (hb:w.heap[b]?=some (.map entries clock)) (hM:fR U bh eZ jd) :
  Rel U lo (h.put o (some (.map bh))) { w with heap:=w.heap.setIfInBounds b (.map eZ jd) }∧Frame lo U h w U (h.put o (some (.map bh))) { w with heap:=w.heap.setIfInBounds b (.map eZ jd) }:=by
 have aY:b<w.heap.size:=by
  rcases Nat.lt_or_ge b w.heap.size with h'|h'
  ·exact h'
  simp[Array.getElem?_eq_none h'] at hb
 refine Jw r hx hl hm (.map bh) (by simp) (fun b' oO=>?_) ⟨rfl,eZ,jd,by simp[aY],hM⟩ (fun off=>?_) ⟨rfl,rfl,rfl,fun _=>by first|exact Nat.le_refl _|exact Nat.le_add_right _ _|exact Nat.le_succ _⟩
 ·have:b≠b':=fun h=>oO h.symm
  simp[this]
 simp[World.frozen?,aY]
theorem VI {P:Program}{lo:Nat}{U:Mu}{h:ah}{w:World}(r:Rel U lo h w){t:TypeId}{m m' k k' v v':Value}{h':ah}(hm:aj U m m')(hk:aj U k k')(hv:aj U v v')
  (ha:Be P lo h t m k v=some h'):∃w',(Instr.mapUpdate t m' k' v').run P w=.ok () w'∧Rel U lo h' w'∧Frame lo U h w U h' w':=by
 unfold Be at ha
 split at ha
 ·rename_i q o kd n jv
  obtain⟨kT,e⟩:=q
  obtain⟨hu,k0,dL⟩:=JR jv
  cases hk
  split at ha
  ·rename_i es ho
   cases cC:Nat.ble lo o with
   |false=>rw[cC] at ha;simp at ha
   |true=>
   rw[cC] at ha;simp only[aM] at ha
   have lJ:lo≤o:=by simpa using cC
   cases hm with
   |map _ b C kM=>
    obtain⟨_,entries,clock,h1,hM⟩:=mZ r ho kM
    split at ha
    ·rename_i v0 hq
     simp only[az] at ha;subst ha
     rcases EF (P:=P) (w:=w) hM dL hq with⟨v1,j,e1,g1,g2,g3,g4,g5⟩|⟨g1,_⟩
     ·have ot:fR U (es.map (jc n v)) (entries.modify j fun e=>{ e with key:=.int kd n,val:=v' }) clock:=by
       obtain⟨l,p1,p0,p2,p3,p4,p5⟩:=hM
       obtain⟨i1,_,_⟩:=HC hq
       have lH:∀p∈l,∃a,p.1=.int kd a:=fun p hp=>i1 p (p1.mem_iff.1 hp)
       have dY:j<l.length:=by
        rw[p2]
        rcases Nat.lt_or_ge j entries.size with h|h
        ·exact h
        rw[Array.getElem?_eq_none h] at g2;simp at g2
       have Bf:∀p,(jc n v p).1=p.1:=by
        intro p;unfold jc;split
        ·rename_i k1 a1 u1;cases decide (a1=n)<;>rfl
        rfl
       refine⟨l.map (jc n v),p1.map _,?_,by simp[p2],?_,?_,?_⟩
       ·rw[List.map_map]
        have:((fun x:Value×Value=>x.1)∘jc n v)=(fun x=>x.1):=funext Bf
        rw[this];exact p0
       ·intro i p e' hp cX
        rw[List.getElem?_map] at hp
        cases jI:l[i]? with
        |none=>rw[jI] at hp;simp at hp
        |some p'=>
         rw[jI] at hp;simp only[Option.map_some,az] at hp;subst hp
         rw[Array.getElem?_modify] at cX
         by_cases e8:j=i
         ·subst e8
          simp only[if_true,g2,Option.map_some,az] at cX;subst cX
          have hr:=p3 j p' e1 jI g2
          have pJ:p'.1=.int kd n:=by rw[← hr.1,g3]
          obtain⟨pk,pv⟩:=p'
          simp only at pJ;subst pJ
          refine⟨?_,?_⟩
          ·simp[jc]
          simpa[jc] using hv
         simp only[e8,if_false] at cX
         have hr:=p3 i p' e' jI cX
         obtain⟨a,ha⟩:=lH p' (List.mem_of_getElem? jI)
         have dp:a≠n:=by
          intro hh;subst hh
          have dx:i<l.length:=by
           rcases Nat.lt_or_ge i l.length with h|h
           ·exact h
           rw[List.getElem?_eq_none h] at jI;simp at jI
          have e2:l[j].1=.int kd a:=by
           have:=p3 j l[j] e1 (by simp[dY]) g2
           rw[← this.1,g3]
          have e3:l[i].1=.int kd a:=by
           rw[List.getElem?_eq_getElem dx] at jI;injection jI with jI;rw[jI,ha]
          exact e8 (HD p0 (i:=j) (j:=i) (by simpa using dY) (by simpa using dx) (by simp[e2,e3]))
         obtain⟨pk,pv⟩:=p'
         simp only at ha;subst ha
         have hd:decide (a=n)=false:=by simpa using dp
         have:jc n v (Value.int kd a,pv)=(Value.int kd a,pv):=by simp[jc,hd]
         rw[this];exact hr
       ·have:((entries.modify j fun e=>{ e with key:=.int kd n,val:=v' }).toList.map (·.born))=entries.toList.map (·.born):=by
         apply List.ext_getElem?
         intro i
         simp only[List.getElem?_map,Array.getElem?_toList,Array.getElem?_modify]
         by_cases e8:j=i
         ·simp[e8]
          cases entries[i]?<;>rfl
         simp[e8]
        rw[this];exact p4
       intro e' cX
       obtain⟨i,hi⟩:=List.getElem?_of_mem cX
       rw[Array.getElem?_toList,Array.getElem?_modify] at hi
       by_cases e8:j=i
       ·subst e8
        simp only[if_true,g2,Option.map_some,az] at hi;subst hi
        exact p5 e1 (by simpa using List.mem_of_getElem? (l:=entries.toList) (by simpa using g2))
       simp only[e8,if_false] at hi
       exact p5 e' (by simpa using List.mem_of_getElem? (l:=entries.toList) (by simpa using hi))
      obtain⟨h5,h6⟩:=zV r ho lJ kM h1 ot
      refine⟨_,?_,h5,h6⟩
      have Bg:(Instr.keyThatStays (((entries[j]?).map (·.key)).getD (.int kd n)) (.int kd n)).run P w=.ok (.int kd n) w:=by
       simp[g2,g3,Instr.keyThatStays,Oz]
      simp only[Instr.mapUpdate,Sem.run_bind,run_underlying hu,Result.andThen_ok]
      have nf:(getObj b).run P w=.ok (.map entries clock) w:=by simp[getObj,Sem.run,h1]
      simp only[Sem.run_bind,nf,Result.andThen_ok,run_checkKey dL,g5,Bg,zU h1]
     cases g1
    ·rename_i hq
     simp only[az] at ha;subst ha
     rcases EF (P:=P) (w:=w) hM dL hq with⟨v1,j,e1,g1,_⟩|⟨_,g4,g5⟩
     ·cases g1
     have ot:fR U (es++[(.int kd n,v)]) (entries.push { key:=.int kd n,val:=v',born:=clock }) (clock+1):=by
      obtain⟨l,p1,p0,p2,p3,p4,p5⟩:=hM
      have JS:∀p∈l,p.1≠.int kd n:=fun p hp=>by
       obtain⟨i,hi⟩:=List.getElem?_of_mem hp
       have dx:i<entries.size:=by
        rw[← p2]
        rcases Nat.lt_or_ge i l.length with h|h
        ·exact h
        rw[List.getElem?_eq_none h] at hi;simp at hi
       have hr:=p3 i p entries[i] hi (by simp[dx])
       rw[← hr.1]
       exact g4 _ (by simp)
      refine⟨l++[(.int kd n,v)],p1.append_right _,?_,by simp[p2],?_,?_,?_⟩
      ·rw[List.map_append,List.nodup_append]
       refine⟨p0,by simp,?_⟩
       intro a ha b hb
       simp at hb;subst hb
       obtain⟨p,hp,rfl⟩:=List.mem_map.1 ha
       exact JS p hp
      ·intro i p e' hp cX
       rw[Array.getElem?_push] at cX
       by_cases hi:i=entries.size
       ·simp only[hi,if_true,az] at cX;subst cX
        rw[List.getElem?_append_right (by omega),hi,p2] at hp
        simp at hp;subst hp
        exact⟨rfl,hv⟩
       simp only[hi,if_false] at cX
       have dx:i<entries.size:=by
        rcases Nat.lt_or_ge i entries.size with h|h
        ·exact h
        rw[Array.getElem?_eq_none h] at cX;simp at cX
       rw[List.getElem?_append_left (by omega)] at hp
       exact p3 i p e' hp cX
      ·simp only[Array.toList_push,List.map_append,List.map_cons,List.map_nil]
       rw[List.pairwise_append]
       refine⟨p4,by simp,?_⟩
       intro a ha b hb
       simp at hb;subst hb
       obtain⟨e',cX,rfl⟩:=List.mem_map.1 ha
       exact p5 e' cX
      intro e' cX
      simp only[Array.toList_push,List.mem_append,List.mem_singleton] at cX
      rcases cX with cX|cX
      ·have:=p5 e' cX;omega
      subst cX;simp
     obtain⟨h5,h6⟩:=zV r ho lJ kM h1 ot
     refine⟨_,?_,h5,h6⟩
     have nf:(getObj b).run P w=.ok (.map entries clock) w:=by simp[getObj,Sem.run,h1]
     simp only[Instr.mapUpdate,Sem.run_bind,run_underlying hu,Result.andThen_ok,nf,run_checkKey dL,g5,zU h1]
    simp at ha
  simp at ha
 simp at ha
def Bh (P:Program)(lo:Nat)(h:ah)(t:TypeId)(m k:Value):Option ah:=
 match lG P t,m,k with
 |some _,.map (some o),.int kd n=>
  match h.get o with
  |some (.map es)=>
   bif Nat.ble lo o then
    match uK kd n es with
    |some _=>some (h.put o (some (.map (es.filter (oV n)))))
    |none=>none
   else none
  |_=>none
 |_,_,_=>none
theorem VJ {l:List (Value×Value)}{kd:IntKind}{n:Int}(hk:∀p∈l,∃a,p.1=.int kd a)(h0:(l.map (·.1)).Nodup){j:Nat}(hj:j<l.length)(he:l[j].1=.int kd n):l.filter (oV n)=l.eraseIdx j:=by
 induction l generalizing j with
 |nil=>simp at hj
 |cons p r ih=>
  obtain⟨pk,pv⟩:=p
  obtain⟨a,ha⟩:=hk (pk,pv) (by simp)
  simp only at ha;subst ha
  simp only[List.map_cons,List.nodup_cons] at h0
  cases j with
  |zero=>
   simp only[List.getElem_cons_zero,Value.int.injEq,true_and] at he
   subst he
   have bo:∀q∈r,oV a q=true:=by
    intro q hq
    obtain⟨b,hb⟩:=hk q (List.mem_cons_of_mem _ hq)
    have:b≠a:=by
     intro hh;subst hh
     exact h0.1 (List.mem_map.2 ⟨q,hq,hb⟩)
    simp[oV,hb,this]
   have h1:oV a (Value.int kd a,pv)=false:=by simp[oV]
   simp only[List.filter_cons,h1,Bool.false_eq_true,if_false,List.eraseIdx_cons_zero]
   exact List.filter_eq_self.2 bo
  |succ j=>
   simp only[List.length_cons,Nat.add_lt_add_iff_right] at hj
   simp only[List.getElem_cons_succ] at he
   have dp:a≠n:=by
    intro hh;subst hh
    exact h0.1 (List.mem_map.2 ⟨r[j],List.getElem_mem hj,he⟩)
   have h1:oV n (Value.int kd a,pv)=true:=by simp[oV,dp]
   simp only[List.filter_cons,h1,if_true,List.eraseIdx_cons_succ]
   rw[ih (fun q hq=>hk q (List.mem_cons_of_mem _ hq)) h0.2 hj he]
theorem VK {P:Program}{lo:Nat}{U:Mu}{h:ah}{w:World}(r:Rel U lo h w){t EG ty:TypeId}{m m' k k':Value}{h':ah}(hm:aj U m m')(hk:aj U k k')
  (ha:Bh P lo h t m k=some h'):ef P lo (Builtin.delete_ #[t,EG] ty #[m',k']) U h w Go.undef h':=by
 unfold Bh at ha
 split at ha
 ·rename_i q o kd n jv
  obtain⟨kT,e⟩:=q
  obtain⟨hu,k0,dL⟩:=JR jv
  cases hk
  split at ha
  ·rename_i es ho
   cases cC:Nat.ble lo o with
   |false=>rw[cC] at ha;simp at ha
   |true=>
   rw[cC] at ha;simp only[aM] at ha
   have lJ:lo≤o:=by simpa using cC
   cases hm with
   |map _ b C kM=>
    obtain⟨_,entries,clock,h1,hM⟩:=mZ r ho kM
    split at ha
    ·rename_i q0 hq
     simp only[az] at ha;subst ha
     have nf:(getObj b).run P w=.ok (.map entries clock) w:=by simp[getObj,Sem.run,h1]
     obtain⟨i1,i2,i3⟩:=HC hq
     rcases EF (P:=P) (w:=w) hM dL hq with⟨v1,j,e1,g1,g2,g3,g4,g5⟩|⟨g1,g4,g5⟩
     ·have ot:fR U (es.filter (oV n)) (entries.eraseIdxIfInBounds j) clock:=by
       obtain⟨l,p1,p0,p2,p3,p4,p5⟩:=hM
       have q9:j<entries.size:=by
        rcases Nat.lt_or_ge j entries.size with h|h
        ·exact h
        rw[Array.getElem?_eq_none h] at g2;simp at g2
       have dY:j<l.length:=by omega
       have lH:∀p∈l,∃a,p.1=.int kd a:=fun p hp=>i1 p (p1.mem_iff.1 hp)
       have Bi:l[j].1=.int kd n:=by
        have:=p3 j l[j] e1 (by simp[dY]) g2
        rw[← this.1,g3]
       have ra:=VJ lH p0 dY Bi
       have jJ:(entries.eraseIdxIfInBounds j).toList=entries.toList.eraseIdx j:=by
        simp[Array.eraseIdxIfInBounds,q9]
       refine⟨l.filter (oV n),p1.filter _,?_,?_,?_,?_,?_⟩
       ·exact p0.sublist ((List.filter_sublist).map _)
       ·rw[ra,List.length_eraseIdx,if_pos dY,p2]
        have:(entries.eraseIdxIfInBounds j).toList.length=entries.size - 1:=by rw[jJ,List.length_eraseIdx,if_pos (by simpa using q9)];simp
        rw[Array.length_toList] at this
        omega
       ·intro i p e' hp cX
        rw[ra,List.getElem?_eraseIdx] at hp
        rw[← Array.getElem?_toList,jJ,List.getElem?_eraseIdx] at cX
        split at hp
        ·rename_i aY;rw[if_pos aY] at cX;exact p3 i p e' hp (by simpa using cX)
        rename_i aY;rw[if_neg aY] at cX;exact p3 (i+1) p e' hp (by simpa using cX)
       ·rw[jJ];exact p4.sublist ((List.eraseIdx_sublist _ _).map _)
       intro e' cX;rw[jJ] at cX;exact p5 e' ((List.eraseIdx_sublist _ _).subset cX)
      obtain⟨h5,h6⟩:=zV r ho lJ kM h1 ot
      refine .mk (v':=Go.undef) ?_ .undef h5 h6
      simp[Builtin.delete_,nf,run_checkKey dL,g5,zU h1,Go.undef,run_underlying hu]
     have ot:fR U (es.filter (oV n)) entries clock:=by
      have:es.filter (oV n)=es:=by
       rw[List.filter_eq_self]
       intro p hp
       obtain⟨a,ha⟩:=i1 p hp
       have:=i3 g1 p hp
       have dp:a≠n:=by intro hh;subst hh;exact this ha
       simp[oV,ha,dp]
      rw[this];exact hM
     obtain⟨h5,h6⟩:=zV r ho lJ kM h1 ot
     refine .mk (v':=Go.undef) ?_ .undef h5 h6
     simp[Builtin.delete_,nf,run_checkKey dL,g5,zU h1,Go.undef,run_underlying hu]
    simp at ha
  simp at ha
 simp at ha
def iu:List Value→List Value→Option Bool
 |[],[]=>some true
 |.int k a::r,.int k' b::s=>bif decide (k=k') then (match iu r s with|some q=>some (decide (a=b)&&q)|none=>none) else none
 |_,_=>none
def gr:List Value→Bool
 |[]=>true
 |.int _ _::r=>gr r
 |_=>false
theorem EH:∀ {l m:List Value} {q:Bool},iu l m=some q→(q=true↔l=m)∧l.length=m.length
 |[],[],q,h=>by simp[iu] at h;simp[h]
 |[],v::m,q,h=>by cases v<;>simp[iu] at h
 |v::l,[],q,h=>by cases v<;>simp[iu] at h
 |v::l,u::m,q,h=>by
  unfold iu at h
  split at h
  ·rename_i h1 h2;cases h1
  ·rename_i k a r k' b s h1 h2
   injection h1 with e1 e2;injection h2 with e3 e4
   subst e1;subst e2;subst e3;subst e4
   cases hk:decide (k=k') with
   |false=>rw[hk] at h;cases h
   |true=>
    rw[hk,aM] at h
    have hk:k=k':=by simpa using hk
    subst hk
    split at h
    ·rename_i q' hq
     obtain⟨i1,i2⟩:=EH hq
     injection h with h;subst h
     refine⟨?_,by simp[i2]⟩
     rw[bV,decide_eq_true_eq,i1]
     constructor
     ·rintro⟨rfl,rfl⟩;rfl
     intro h;injection h with h1 h2;injection h1 with _ h3;exact⟨h3,h2⟩
    cases h
  cases h
theorem OA {U:Mu}:∀ {l l':List Value},br U l l'→gr l=true→l'=l
 |[],l',h,_=>by
  have:=h.1
  exact List.eq_nil_of_length_eq_zero (by simpa using this.symm)
 |.int k a::r,l',h,hi=>by
  cases l' with
  |nil=>have:=h.1;simp at this
  |cons v s=>
   have h0:=h.2 0 (.int k a) rfl
   obtain⟨v',h1,h2⟩:=h0
   simp at h1;subst h1
   cases h2
   have hr:br U r s:=⟨by have:=h.1;simpa using this,fun i x hx=>by
    obtain⟨v',h1,h2⟩:=h.2 (i+1) x (by simpa using hx)
    exact⟨v',by simpa using h1,h2⟩⟩
   rw[OA hr hi]
 |.bool _::_,_,_,hi=>by cases hi
 |.float _ _::_,_,_,hi=>by cases hi
 |.complex _ _ _::_,_,_,hi=>by cases hi
 |.string _::_,_,_,hi=>by cases hi
 |.pointer _::_,_,_,hi=>by cases hi
 |.slice _ _ _::_,_,_,hi=>by cases hi
 |.map _::_,_,_,hi=>by cases hi
 |.agg _::_,_,_,hi=>by cases hi
 |.tuple _::_,_,_,hi=>by cases hi
 |.iface _ _::_,_,_,hi=>by cases hi
 |.func _ _ _::_,_,_,hi=>by cases hi
 |.nilFunc::_,_,_,hi=>by cases hi
 |.nilIface::_,_,_,hi=>by cases hi
 |.chan _::_,_,_,hi=>by cases hi
theorem OB (U:Mu):∀ {l:List Value},gr l=true→br U l l:=fun {l} hi=>by
 refine⟨rfl,fun i v hv=>?_⟩
 induction l generalizing i with
 |nil=>simp at hv
 |cons a r ih=>
  cases a with
  |int k n=>
   cases i with
   |zero=>simp at hv;subst hv;exact⟨_,rfl,.int _ _⟩
   |succ i=>exact ih hi i (by simpa using hv)
  |_=>cases hi
theorem JT:∀ {l m:List Value} {q:Bool},iu l m=some q→gr l=true∧gr m=true
 |[],[],q,h=>⟨rfl,rfl⟩
 |[],v::m,q,h=>by cases v<;>simp[iu] at h
 |v::l,[],q,h=>by cases v<;>simp[iu] at h
 |v::l,u::m,q,h=>by
  unfold iu at h
  split at h
  ·rename_i h1 h2;cases h1
  ·rename_i k a r k' b s h1 h2
   injection h1 with e1 e2;injection h2 with e3 e4
   subst e1;subst e2;subst e3;subst e4
   cases hk:decide (k=k') with
   |false=>rw[hk] at h;cases h
   |true=>
    rw[hk,aM] at h
    split at h
    ·rename_i q' hq;exact⟨(JT hq).1,(JT hq).2⟩
    cases h
  cases h
def zW (P:Program):Nat→List Field→Bool
 |_,[]=>true
 |i,f::r=>(match P.underlying f.type with|some (.int _)=>true|_=>false)&&(match bB P f.type,cW P f.type with|some false,some _=>true|_,_=>false)&&Nat.beq f.offset i&&!(f.name == "_")&&zW P (i+1) r
def yr (P:Program)(t:TypeId):Option (TypeId×TypeId×Nat):=
 match P.underlying t with
 |some (.map k e)=>match P.underlying k with
  |some (.struct fs)=>bif !(P.stoodInHeld k||P.eqGuardType P.depth k)&&zW P 0 fs.toList then some (k,e,fs.toList.length) else none
  |_=>none
 |_=>none
structure uL (P:Program) (k:TypeId) (n:Nat):Prop where
  ex:∃fs:Array Field,P.underlying k=some (.struct fs)∧zW P 0 fs.toList=true∧fs.toList.length=n
  nh:(P.stoodInHeld k||P.eqGuardType P.depth k)=false
theorem JU {P:Program}{t k e:TypeId}{n:Nat}(h:yr P t=some (k,e,n)):P.underlying t=some (.map k e)∧uL P k n:=by
 unfold yr at h
 split at h
 ·rename_i k' e' hu
  split at h
  ·rename_i fs hk
   cases hb:(!(P.stoodInHeld k'||P.eqGuardType P.depth k')&&zW P 0 fs.toList) with
   |false=>rw[hb] at h;cases h
   |true=>
    rw[hb] at h
    simp only[aM,az,bO] at h
    obtain⟨rfl,rfl,rfl⟩:=h
    rw[bV] at hb
    exact⟨hu,⟨fs,hk,hb.2,rfl⟩,by simpa using hb.1⟩
  cases h
 cases h
theorem OC {P:Program}{i:Nat}{f:Field}{r:List Field}(h:zW P i (f::r)=true):(∃k0,P.underlying f.type=some (.int k0))∧bB P f.type=some false∧(∃n,cW P f.type=some n)∧f.offset=i∧(f.name == "_")=false∧zW P (i+1) r=true:=by
 simp only[zW,bV] at h
 obtain⟨⟨⟨⟨h1,h2⟩,h3⟩,h4⟩,h5⟩:=h
 refine⟨?_,?_,?_,rQ h3,by simpa using h4,h5⟩
 ·split at h1
  ·rename_i k0 hk;exact⟨k0,hk⟩
  cases h1
 ·split at h2
  ·rename_i ha hb;exact ha
  cases h2
 split at h2
 ·rename_i n ha hb;exact⟨n,hb⟩
 cases h2
theorem OD:∀ {l m:List Value} {q:Bool} {i:Nat},iu l m=some q→i<l.length→∃k a b q',l[i]?=some (.int k a)∧m[i]?=some (.int k b)∧iu (l.drop (i+1)) (m.drop (i+1))=some q'∧iu (l.drop i) (m.drop i)=some (decide (a=b)&&q')
 |[],_,_,_,_,hi=>absurd hi (Nat.not_lt_zero _)
 |v::l,[],q,_,h,_=>by cases v<;>simp[iu] at h
 |v::l,u::m,q,i,h,hi=>by
  have h0:=h
  unfold iu at h
  split at h
  ·rename_i h1 h2;cases h1
  ·rename_i k a r k' b s h1 h2
   injection h1 with e1 e2;injection h2 with e3 e4
   subst e1;subst e2;subst e3;subst e4
   cases hk:decide (k=k') with
   |false=>rw[hk] at h;cases h
   |true=>
    rw[hk,aM] at h
    have hk:k=k':=by simpa using hk
    subst hk
    split at h
    ·rename_i q' hq
     injection h with h;subst h
     cases i with
     |zero=>exact⟨k,a,b,q',rfl,rfl,by simpa using hq,by simpa using h0⟩
     |succ i=>
      obtain⟨k2,a2,b2,q2,g1,g2,g3,g4⟩:=OD (i:=i) hq (by simpa using hi)
      exact⟨k2,a2,b2,q2,by simpa using g1,by simpa using g2,by simpa using g3,by simpa using g4⟩
    cases h
  cases h
theorem OE {P:Program}{xs ys:List Value}{q0:Bool}(h0:iu xs ys=some q0):∀(fs:List Field) (i:Nat) {q:Bool},zW P i fs=true→xs.length=i+fs.length→iu (xs.drop i) (ys.drop i)=some q→tC P xs ys fs=some q
 |[],i,q,_,hl,h=>by
  have hx:xs.drop i=[]:=List.drop_eq_nil_of_le (by simp at hl;omega)
  have hy:ys.drop i=[]:=List.drop_eq_nil_of_le (by have:=(EH h0).2;simp at hl;omega)
  rw[hx,hy] at h
  simpa[iu,tC] using h
 |f::fs,i,q,hf,hl,h=>by
  obtain⟨⟨k0,r5⟩,ha,⟨n,hn⟩,ho,JV,hr⟩:=OC hf
  have hi:i<xs.length:=by simp at hl;omega
  obtain⟨k,a,b,q',g1,g2,g3,g4⟩:=OD h0 hi
  rw[g4] at h
  injection h with h
  have ih:=OE h0 fs (i+1) hr (by simp at hl;omega) g3
  simp only[tC,JV,bq,hn,apart,ha,ho,g1,g2,A3,r5,decide_true,aM]
  by_cases gu:a=b
  ·subst gu;simp[ih,← h]
  have hb:(a==b)=false:=by simpa using gu
  simp[gu,hb,← h]
theorem VL {P:Program}{k:TypeId}{n:Nat}(hk:uL P k n){xs ys:Array Value}{q:Bool}(h:iu xs.toList ys.toList=some q)(hn:xs.toList.length=n)(w:World):(Op.equal k (.agg xs) (.agg ys)).run P w=.ok q w:=by
 obtain⟨⟨fs,h1,h2,h3⟩,h4⟩:=hk
 obtain⟨i1,i2⟩:=JT h
 have hr:∀ {l:List Value},gr l=true→br (fun _=>none) l l:=fun {l} hi=>OB _ hi
 have hq:dC P k (.agg xs) (.agg ys)=some q:=by
  simp only[dC,h1,h4,bq]
  exact OE h fs.toList 0 h2 (by rw[hn,h3,Nat.zero_add]) (by simpa using h)
 have hx:aj (fun _=>none) (.agg xs) (.agg xs):=by have:=aj.j7 (hr i1);simpa using this
 have hy:aj (fun _=>none) (.agg ys) (.agg ys):=by have:=aj.j7 (hr i2);simpa using this
 exact(JE (w:=w) hx hy hq).1
theorem JW {P:Program}{k:TypeId}{n:Nat}(hk:uL P k n){xs:Array Value}(hi:gr xs.toList=true)(hn:xs.toList.length=n)(b:Bool)(w:World):(Instr.checkKey b 10000 k (.agg xs)).run P w=.ok () w:=by
 obtain⟨⟨fs,h1,h2,h3⟩,_⟩:=hk
 have uM:br (fun _=>none) xs.toList xs.toList:=OB _ hi
 have hint:∀(i:Nat) (v:Value),xs.toList[i]?=some v→∃kd m,v=.int kd m:=fun i v hv=>by
  have:∀(l:List Value) (i:Nat) (v:Value),gr l=true→l[i]?=some v→∃kd m,v=.int kd m:=by
   intro l
   induction l with
   |nil=>intro i v _ h;simp at h
   |cons a r ih=>
    intro i v hi h
    cases a with
    |int k m=>
     cases i with
     |zero=>simp at h;exact⟨k,m,h.symm⟩
     |succ i=>exact ih i v hi (by simpa using h)
    |_=>cases hi
  exact this _ i v hi hv
 have all:∀d,(Instr.checkKey b (d+1+1) k (.agg xs)).run P w=.ok () w:=fun d=>by
  have hl:0+fs.toList.length=xs.toList.length:=by rw[hn,h3,Nat.zero_add]
  rw[Instr.checkKey]
  simp only[Sem.run_bind,run_underlying h1,Result.andThen_ok]
  rw[← Array.forIn_toList]
  clear h1 h3
  generalize fs.toList=L at h2 hl
  generalize (0:Nat)=i at h2 hl
  induction L generalizing i with
  |nil=>simp
  |cons f L ih=>
   obtain⟨⟨k0,r5⟩,ha,⟨m,hm⟩,ho,JV,hr⟩:=OC h2
   have JX:f.name ≠ "_" := by simpa using JV
   have dx:i<xs.toList.length:=by simp at hl ⊢;omega
   obtain⟨v,hv⟩:∃v,xs.toList[i]?=some v:=⟨_,List.getElem?_eq_getElem dx⟩
   obtain⟨v',p1,p2⟩:=Es (P:=P) (w:=w) uM hm (show apart P f.type xs.toList f.offset m=some v by simp only[apart,ha,ho,hv])
   obtain⟨kd,x,rfl⟩:=hint i v hv
   cases p2
   have p3:(Instr.checkKey b (d+1) f.type (.int kd x)).run P w=.ok () w:=by
    simp only[Instr.checkKey,Sem.run_bind,run_underlying r5,Result.andThen_ok,Sem.run_pure]
   simp only[List.forIn_cons,Sem.run_bind,JX,ne_eq,not_false_eq_true,if_true,Result.andThen_ok,p1,p3,Sem.run_pure]
   exact ih (i+1) hr (by simp at hl ⊢;omega)
 exact all 9998
theorem VM {U:Mu}{es:List (Value×Value)}{entries:Array MapEntry}{clock:Nat}{K v v':Value}{put:Value×Value→Value×Value}(hM:fR U es entries clock){j:Nat}{e1:MapEntry}(g2:entries[j]?=some e1)(g3:e1.key=K)(hv:aj U v v')
  (q1:∀p∈es,p.1=K→put p=(K,v)) (q2:∀p∈es,p.1≠K→put p=p):fR U (es.map put) (entries.modify j fun e=>{ e with key:=K,val:=v' }) clock:=by
 obtain⟨l,p1,p0,p2,p3,p4,p5⟩:=hM
 have dY:j<l.length:=by
  rw[p2]
  rcases Nat.lt_or_ge j entries.size with h|h
  ·exact h
  rw[Array.getElem?_eq_none h] at g2;simp at g2
 have Bf:∀p∈l,(put p).1=p.1:=fun p hp=>by
  by_cases hk:p.1=K
  ·rw[q1 p (p1.mem_iff.1 hp) hk,hk]
  rw[q2 p (p1.mem_iff.1 hp) hk]
 refine⟨l.map put,p1.map _,?_,by simp[p2],?_,?_,?_⟩
 ·rw[List.map_map,show l.map ((fun x=>x.1)∘put)=l.map (fun x=>x.1) from List.map_congr_left Bf];exact p0
 ·intro i p e' hp cX
  rw[List.getElem?_map] at hp
  cases jI:l[i]? with
  |none=>rw[jI] at hp;simp at hp
  |some p'=>
   rw[jI] at hp;simp only[Option.map_some,az] at hp;subst hp
   have lI:p'∈es:=p1.mem_iff.1 (List.mem_of_getElem? jI)
   rw[Array.getElem?_modify] at cX
   by_cases e8:j=i
   ·subst e8
    simp only[if_true,g2,Option.map_some,az] at cX;subst cX
    have hr:=p3 j p' e1 jI g2
    rw[q1 p' lI (by rw[← hr.1,g3])]
    exact⟨rfl,hv⟩
   simp only[e8,if_false] at cX
   have hr:=p3 i p' e' jI cX
   have dp:p'.1≠K:=fun hk=>by
    have dx:i<l.length:=by
     rcases Nat.lt_or_ge i l.length with h|h
     ·exact h
     rw[List.getElem?_eq_none h] at jI;simp at jI
    have e2:l[j].1=K:=by
     have:=p3 j l[j] e1 (by simp[dY]) g2
     rw[← this.1,g3]
    have e3:l[i].1=K:=by
     rw[List.getElem?_eq_getElem dx] at jI;injection jI with jI;rw[jI,hk]
    exact e8 (HD p0 (i:=j) (j:=i) (by simpa using dY) (by simpa using dx) (by simp[e2,e3]))
   rw[q2 p' lI dp];exact hr
 ·have:((entries.modify j fun e=>{ e with key:=K,val:=v' }).toList.map (·.born))=entries.toList.map (·.born):=by
   apply List.ext_getElem?
   intro i
   simp only[List.getElem?_map,Array.getElem?_toList,Array.getElem?_modify]
   by_cases e8:j=i
   ·simp[e8]
    cases entries[i]?<;>rfl
   simp[e8]
  rw[this];exact p4
 intro e' cX
 obtain⟨i,hi⟩:=List.getElem?_of_mem cX
 rw[Array.getElem?_toList,Array.getElem?_modify] at hi
 by_cases e8:j=i
 ·subst e8
  simp only[if_true,g2,Option.map_some,az] at hi;subst hi
  exact p5 e1 (by simpa using List.mem_of_getElem? (l:=entries.toList) (by simpa using g2))
 simp only[e8,if_false] at hi
 exact p5 e' (by simpa using List.mem_of_getElem? (l:=entries.toList) (by simpa using hi))
theorem VN {U:Mu}{es:List (Value×Value)}{entries:Array MapEntry}{clock:Nat}{K v v':Value}(hM:fR U es entries clock)(g4:∀e∈entries.toList,e.key≠K)(hv:aj U v v') :
  fR U (es++[(K,v)]) (entries.push { key:=K,val:=v',born:=clock }) (clock+1):=by
 obtain⟨l,p1,p0,p2,p3,p4,p5⟩:=hM
 have JS:∀p∈l,p.1≠K:=fun p hp=>by
  obtain⟨i,hi⟩:=List.getElem?_of_mem hp
  have dx:i<entries.size:=by
   rw[← p2]
   rcases Nat.lt_or_ge i l.length with h|h
   ·exact h
   rw[List.getElem?_eq_none h] at hi;simp at hi
  have hr:=p3 i p entries[i] hi (by simp[dx])
  rw[← hr.1]
  exact g4 _ (by simp)
 refine⟨l++[(K,v)],p1.append_right _,?_,by simp[p2],?_,?_,?_⟩
 ·rw[List.map_append,List.nodup_append]
  refine⟨p0,by simp,?_⟩
  intro a ha b hb
  simp at hb;subst hb
  obtain⟨p,hp,rfl⟩:=List.mem_map.1 ha
  exact JS p hp
 ·intro i p e' hp cX
  rw[Array.getElem?_push] at cX
  by_cases hi:i=entries.size
  ·simp only[hi,if_true,az] at cX;subst cX
   rw[List.getElem?_append_right (by omega),hi,p2] at hp
   simp at hp;subst hp
   exact⟨rfl,hv⟩
  simp only[hi,if_false] at cX
  have dx:i<entries.size:=by
   rcases Nat.lt_or_ge i entries.size with h|h
   ·exact h
   rw[Array.getElem?_eq_none h] at cX;simp at cX
  rw[List.getElem?_append_left (by omega)] at hp
  exact p3 i p e' hp cX
 ·simp only[Array.toList_push,List.map_append,List.map_cons,List.map_nil]
  rw[List.pairwise_append]
  refine⟨p4,by simp,?_⟩
  intro a ha b hb
  simp at hb;subst hb
  obtain⟨e',cX,rfl⟩:=List.mem_map.1 ha
  exact p5 e' cX
 intro e' cX
 simp only[Array.toList_push,List.mem_append,List.mem_singleton] at cX
 rcases cX with cX|cX
 ·have:=p5 e' cX;omega
 subst cX;simp
theorem VO {K:Value}{lK:Value×Value→Bool}{l:List (Value×Value)}(q1:∀p∈l,p.1=K→lK p=false)(q2:∀p∈l,p.1≠K→lK p=true)(h0:(l.map (·.1)).Nodup){j:Nat}(hj:j<l.length)(he:l[j].1=K):l.filter lK=l.eraseIdx j:=by
 induction l generalizing j with
 |nil=>simp at hj
 |cons p r ih=>
  simp only[List.map_cons,List.nodup_cons] at h0
  cases j with
  |zero=>
   have bo:∀q∈r,lK q=true:=fun q hq=>q2 q (List.mem_cons_of_mem _ hq) fun hh=>h0.1 (List.mem_map.2 ⟨q,hq,by rw[hh];exact he.symm⟩)
   have h1:lK p=false:=q1 p (by simp) he
   simp only[List.filter_cons,h1,Bool.false_eq_true,if_false,List.eraseIdx_cons_zero]
   exact List.filter_eq_self.2 bo
  |succ j=>
   simp only[List.length_cons,Nat.add_lt_add_iff_right] at hj
   simp only[List.getElem_cons_succ] at he
   have dp:p.1≠K:=fun hh=>h0.1 (List.mem_map.2 ⟨r[j],List.getElem_mem hj,by rw[he,hh]⟩)
   have h1:lK p=true:=q2 p (by simp) dp
   simp only[List.filter_cons,h1,if_true,List.eraseIdx_cons_succ]
   rw[ih (fun q hq=>q1 q (List.mem_cons_of_mem _ hq)) (fun q hq=>q2 q (List.mem_cons_of_mem _ hq)) h0.2 hj he]
theorem VP {U:Mu}{es:List (Value×Value)}{entries:Array MapEntry}{clock:Nat}{K:Value}{lK:Value×Value→Bool}(hM:fR U es entries clock){j:Nat}{e1:MapEntry}(g2:entries[j]?=some e1)(g3:e1.key=K)
  (q1:∀p∈es,p.1=K→lK p=false) (q2:∀p∈es,p.1≠K→lK p=true):fR U (es.filter lK) (entries.eraseIdxIfInBounds j) clock:=by
 obtain⟨l,p1,p0,p2,p3,p4,p5⟩:=hM
 have q9:j<entries.size:=by
  rcases Nat.lt_or_ge j entries.size with h|h
  ·exact h
  rw[Array.getElem?_eq_none h] at g2;simp at g2
 have dY:j<l.length:=by omega
 have Bi:l[j].1=K:=by
  have:=p3 j l[j] e1 (by simp[dY]) g2
  rw[← this.1,g3]
 have ra:=VO (fun p hp=>q1 p (p1.mem_iff.1 hp)) (fun p hp=>q2 p (p1.mem_iff.1 hp)) p0 dY Bi
 have jJ:(entries.eraseIdxIfInBounds j).toList=entries.toList.eraseIdx j:=by
  simp[Array.eraseIdxIfInBounds,q9]
 refine⟨l.filter lK,p1.filter _,?_,?_,?_,?_,?_⟩
 ·exact p0.sublist ((List.filter_sublist).map _)
 ·rw[ra,List.length_eraseIdx,if_pos dY,p2]
  have:(entries.eraseIdxIfInBounds j).toList.length=entries.size - 1:=by rw[jJ,List.length_eraseIdx,if_pos (by simpa using q9)];simp
  rw[Array.length_toList] at this
  omega
 ·intro i p e' hp cX
  rw[ra,List.getElem?_eraseIdx] at hp
  rw[← Array.getElem?_toList,jJ,List.getElem?_eraseIdx] at cX
  split at hp
  ·rename_i aY;rw[if_pos aY] at cX;exact p3 i p e' hp (by simpa using cX)
  rename_i aY;rw[if_neg aY] at cX;exact p3 (i+1) p e' hp (by simpa using cX)
 ·rw[jJ];exact p4.sublist ((List.eraseIdx_sublist _ _).map _)
 intro e' cX;rw[jJ] at cX;exact p5 e' ((List.eraseIdx_sublist _ _).subset cX)
def r6 (l:List Value):List (Value×Value)→Option (Option Value)
 |[]=>some none
 |(.agg ds,v)::r=>match iu l ds.toList,r6 l r with
  |some s,some q=>some (bif s then some v else q)
  |_,_=>none
 |_=>none
theorem HE {xs:Array Value}:∀ {es:List (Value×Value)} {q:Option Value},r6 xs.toList es=some q→
  (∀p∈es,∃ds s,p.1=.agg ds∧iu xs.toList ds.toList=some s)∧(∀v,q=some v→(Value.agg xs,v)∈es)∧(q=none→∀p∈es,p.1≠.agg xs)
 |[],q,h=>by simp only[r6,az] at h;subst h;exact⟨by simp,by simp,by simp⟩
 |(k,v)::r,q,h=>by
  unfold r6 at h
  split at h
  ·rename_i heq;cases heq
  ·rename_i ds v' r' heq
   simp only[List.cons.injEq,bO] at heq
   obtain⟨⟨rfl,rfl⟩,rfl⟩:=heq
   split at h
   ·rename_i s q' hs b8
    obtain⟨i1,i2,i3⟩:=HE b8
    have qj:=(EH hs).1
    simp only[az] at h;subst h
    refine⟨fun p hp=>?_,fun u hu=>?_,fun hn p hp=>?_⟩
    ·rcases List.mem_cons.1 hp with rfl|hp
     ·exact⟨ds,s,rfl,hs⟩
     exact i1 p hp
    ·cases s with
     |true=>simp at hu;subst hu;rw[Array.ext' (qj.1 rfl)];simp
     |false=>simp only[bq] at hu;exact List.mem_cons_of_mem _ (i2 u hu)
    cases s with
    |true=>simp at hn
    |false=>
     simp only[bq] at hn
     rcases List.mem_cons.1 hp with rfl|hp
     ·intro he
      injection he with he
      have:=qj.2 (by rw[he])
      cases this
     exact i3 hn p hp
   cases h
  cases h
theorem OF {P:Program}{k:TypeId}{n:Nat}(hk:uL P k n){xs:Array Value}(hn:xs.toList.length=n)(w:World):∀(L:List MapEntry) (i:Nat),(∀e∈L,∃ds s,e.key=.agg ds∧iu xs.toList ds.toList=some s)→
  (∃j e,L[j]?=some e∧e.key=.agg xs∧(Instr.findAsking k (.agg xs) L i).run P w=.ok (some (i+j,e.val)) w)∨((∀e∈L,e.key≠.agg xs)∧(Instr.findAsking k (.agg xs) L i).run P w=.ok none w)
 |[],i,_=>.inr ⟨by simp,by simp[Instr.findAsking]⟩
 |e::L,i,h=>by
  obtain⟨ds,s,h1,h2⟩:=h e (by simp)
  have he:=VL hk h2 hn w
  have qj:=(EH h2).1
  cases s with
  |true=>
   have hd:ds=xs:=(Array.ext' (qj.1 rfl)).symm
   exact .inl ⟨0,e,rfl,by rw[h1,hd],by simp[Instr.findAsking,h1,he]⟩
  |false=>
   have hd:e.key≠.agg xs:=fun hh=>by
    rw[h1] at hh
    injection hh with hh
    have:=qj.2 (by rw[hh])
    cases this
   rcases OF hk hn w L (i+1) (fun y hy=>h y (List.mem_cons_of_mem _ hy)) with⟨j,e',g1,g2,g3⟩|⟨g1,g2⟩
   ·exact .inl ⟨j+1,e',by simpa using g1,g2,by simp[Instr.findAsking,h1,he,g3,Nat.add_assoc,Nat.add_comm 1 j]⟩
   refine .inr ⟨fun y hy=>?_,by simp[Instr.findAsking,h1,he,g2]⟩
   rcases List.mem_cons.1 hy with rfl|hy
   ·exact hd
   exact g1 y hy
theorem EI {P:Program}{w:World}{U:Mu}{es:List (Value×Value)}{entries:Array MapEntry}{clock:Nat}(hM:fR U es entries clock){kT:TypeId}{n:Nat}{xs:Array Value}{q:Option Value}(hk:uL P kT n)(hn:xs.toList.length=n)(hq:r6 xs.toList es=some q) :
  (∃v j e,q=some v∧entries[j]?=some e∧e.key=.agg xs∧aj U v e.val∧(Instr.findKey kT (.agg xs) entries.toList).run P w=.ok (some (j,e.val)) w)∨
  (q=none∧(∀e∈entries.toList,e.key≠.agg xs)∧(Instr.findKey kT (.agg xs) entries.toList).run P w=.ok none w):=by
 obtain⟨l,h1,h0,h2,h3,h4,h5⟩:=hM
 obtain⟨i1,i2,i3⟩:=HE hq
 have uN:(match P.underlying kT with|some (.array _ _)|some (.struct _)=>true|_=>false)=true:=by
  obtain⟨⟨fs,g1,_,_⟩,_⟩:=hk
  rw[g1]
 have bo:∀e∈entries.toList,∃p∈es,AU U p e:=fun e he=>by
  obtain⟨j,hj⟩:=List.getElem?_of_mem he
  have mY:entries[j]?=some e:=by simpa using hj
  have dY:j<l.length:=by
   rw[h2]
   rcases Nat.lt_or_ge j entries.size with h|h
   ·exact h
   rw[Array.getElem?_eq_none h] at mY;simp at mY
  exact⟨l[j],h1.mem_iff.1 (List.getElem_mem dY),h3 j l[j] e (by simp[dY]) mY⟩
 have lH:∀e∈entries.toList,∃ds s,e.key=.agg ds∧iu xs.toList ds.toList=some s:=fun e he=>by
  obtain⟨p,hp,hr⟩:=bo e he
  obtain⟨ds,s,ha,hb⟩:=i1 p hp
  exact⟨ds,s,by rw[hr.1,ha],hb⟩
 rw[run_findKey_eq w uN]
 rcases OF hk hn w entries.toList 0 lH with⟨j,e,g1,g2,g3⟩|⟨g1,g2⟩
 ·have yp:entries[j]?=some e:=by simpa using g1
  have dY:j<l.length:=by
   rw[h2]
   rcases Nat.lt_or_ge j entries.size with h|h
   ·exact h
   rw[Array.getElem?_eq_none h] at yp;simp at yp
  have hr:=h3 j l[j] e (by simp[dY]) yp
  have lI:l[j]∈es:=h1.mem_iff.1 (List.getElem_mem dY)
  cases q with
  |none=>exact absurd (hr.1▸g2) (i3 rfl _ lI)
  |some v=>
   have hv:=i2 v rfl
   have uG:(Value.agg xs,v)∈l:=h1.mem_iff.2 hv
   have:l[j]=(Value.agg xs,v):=by
    obtain⟨j2,Bd,nJ⟩:=List.getElem_of_mem uG
    have mj:(l.map (·.1))[j]'(by simpa using dY)=(l.map (·.1))[j2]'(by simpa using Bd):=by
     simp only[List.getElem_map,nJ]
     rw[← hr.1,g2]
    have zT:j=j2:=HD h0 _ _ mj
    subst zT
    exact nJ
   refine .inl ⟨v,j,e,rfl,yp,g2,?_,by simpa using g3⟩
   have:=hr.2;rwa [‹l[j]=_›] at this
 refine .inr ⟨?_,g1,g2⟩
 cases q with
 |none=>rfl
 |some v=>
  have hv:=i2 v rfl
  have uG:(Value.agg xs,v)∈l:=h1.mem_iff.2 hv
  obtain⟨j2,Bd,nJ⟩:=List.getElem_of_mem uG
  have q9:j2<entries.size:=by omega
  have:=h3 j2 l[j2] entries[j2] (by simp[Bd]) (by simp[q9])
  rw[nJ] at this
  exact absurd this.1 (g1 _ (by simp))
def yt (P:Program)(h:ah)(t:TypeId)(m:Value)(xs:Array Value)(ok:Bool):Option Value:=
 match yr P t with
 |some (_,e,n)=>
  bif !(gr xs.toList&&Nat.beq xs.toList.length n) then none else
  match ey P e with
  |some z=>
   let r:Option (Option Value):=match m with
    |.map none=>some none
    |.map (some o)=>match h.get o with
     |some (.map es)=>r6 xs.toList es
     |_=>none
    |_=>none
   match r with
   |some (some v)=>some (bif ok then .tuple #[v,.bool true] else v)
   |some none=>some (bif ok then .tuple #[z,.bool false] else z)
   |none=>none
  |none=>none
 |none=>none
theorem JY {U:Mu}{xs:Array Value}{k':Value}{n:Nat}(hk:aj U (.agg xs) k')(hb:(!(gr xs.toList&&Nat.beq xs.toList.length n))=false):k'=.agg xs∧gr xs.toList=true∧xs.toList.length=n:=by
 obtain⟨bl,rfl,hx⟩:=hk.C3
 have hb:(gr xs.toList&&Nat.beq xs.toList.length n)=true:=by simpa using hb
 rw[bV] at hb
 exact⟨by rw[Array.ext' (OA hx hb.1)],hb.1,rQ hb.2⟩
theorem VQ {P:Program}{lo:Nat}{U:Mu}{h:ah}{w:World}(r:Rel U lo h w){t:TypeId}{m m' k' v:Value}{xs:Array Value}{ok:Bool}(hm:aj U m m')(hk:aj U (.agg xs) k')(ha:yt P h t m xs ok=some v) :
  ef P lo (Instr.lookup t m' k' ok) U h w v h:=by
 unfold yt at ha
 split at ha
 ·rename_i kT e n jv
  obtain⟨hu,ov⟩:=JU jv
  cases hb:(!(gr xs.toList&&Nat.beq xs.toList.length n)) with
  |true=>rw[hb] at ha;cases ha
  |false=>
  rw[hb,bq] at ha
  obtain⟨rfl,hi,hn⟩:=JY hk hb
  have gk:=JW ov hi hn
  have uN:(match P.underlying kT with|some (.array _ _)|some (.struct _)=>true|_=>false)=true:=by
   obtain⟨⟨fs,g1,_,_⟩,_⟩:=ov
   rw[g1]
  split at ha
  ·rename_i z hz
   obtain⟨ll,rZ⟩:=Oy hz w
   have yq:aj U z z:=.yb rZ
   simp only at ha
   split at ha
   ·rename_i v0 hr
    simp only[az] at ha;subst ha
    split at hr
    ·simp at hr
    ·rename_i o
     split at hr
     ·rename_i es ho
      cases hm with
      |map _ b C kM=>
       obtain⟨_,entries,clock,h1,hM⟩:=mZ r ho kM
       rcases EI (P:=P) (w:=w) hM ov hn hr with⟨v1,j,e1,g1,g2,g3,g4,g5⟩|⟨g1,_⟩
       ·simp only[az] at g1;subst g1
        cases ok with
        |true=>exact .same r (by simp[Instr.lookup,run_underlying hu,getObj,Sem.run,h1,gk,g5]) (.pair g4 (.bool true))
        |false=>exact .same r (by simp[Instr.lookup,run_underlying hu,getObj,Sem.run,h1,gk,g5]) g4
       cases g1
     simp at hr
    simp at hr
   ·rename_i hr
    simp only[az] at ha;subst ha
    split at hr
    ·cases hm
     have hf:(Instr.findKey kT (.agg xs) []).run P w=.ok none w:=by rw[run_findKey_eq w uN];simp[Instr.findAsking]
     cases ok with
     |true=>exact .same r (by simp[Instr.lookup,run_underlying hu,gk,hf,ll]) (.pair yq (.bool false))
     |false=>exact .same r (by simp[Instr.lookup,run_underlying hu,gk,hf,ll]) yq
    ·rename_i o
     split at hr
     ·rename_i es ho
      cases hm with
      |map _ b C kM=>
       obtain⟨_,entries,clock,h1,hM⟩:=mZ r ho kM
       rcases EI (P:=P) (w:=w) hM ov hn hr with⟨v1,j,e1,g1,_⟩|⟨_,_,g5⟩
       ·cases g1
       cases ok with
       |true=>exact .same r (by simp[Instr.lookup,run_underlying hu,getObj,Sem.run,h1,gk,g5,ll]) (.pair yq (.bool false))
       |false=>exact .same r (by simp[Instr.lookup,run_underlying hu,getObj,Sem.run,h1,gk,g5,ll]) yq
     simp at hr
    simp at hr
   simp at ha
  simp at ha
 simp at ha
def zX (l:List Value)(k:Value):Bool:=match k with
 |.agg ds=>match iu l ds.toList with|some s=>s|none=>false
 |_=>false
def yu (xs:Array Value)(v:Value)(p:Value×Value):Value×Value:=bif zX xs.toList p.1 then (.agg xs,v) else p
def uO (xs:Array Value)(p:Value×Value):Bool:=!zX xs.toList p.1
theorem HF {xs:Array Value}{es:List (Value×Value)}{q:Option Value}(h:r6 xs.toList es=some q):∀p∈es,(zX xs.toList p.1=true↔p.1=.agg xs):=fun p hp=>by
 obtain⟨ds,s,h1,h2⟩:=(HE h).1 p hp
 have qj:=(EH h2).1
 rw[h1]
 simp only[zX,h2]
 rw[qj]
 constructor
 ·intro hh;rw[Array.ext' hh]
 intro hh;injection hh with hh;rw[hh]
theorem VU {xs:Array Value}{v:Value}{es:List (Value×Value)}{q:Option Value}(h:r6 xs.toList es=some q):(∀p∈es,p.1=.agg xs→yu xs v p=(.agg xs,v))∧∀p∈es,p.1≠.agg xs→yu xs v p=p:=by
 refine⟨fun p hp hk=>?_,fun p hp hk=>?_⟩
 ·unfold yu;rw[(HF h p hp).2 hk];rfl
 unfold yu
 rw[show zX xs.toList p.1=false from Bool.eq_false_iff.2 fun hh=>hk ((HF h p hp).1 hh)];rfl
def HG (P:Program)(lo:Nat)(h:ah)(t:TypeId)(m:Value)(xs:Array Value)(v:Value):Option ah:=
 match yr P t,m with
 |some (_,_,n),.map (some o)=>
  bif !(gr xs.toList&&Nat.beq xs.toList.length n) then none else
  match h.get o with
  |some (.map es)=>
   bif Nat.ble lo o then
    match r6 xs.toList es with
    |some (some _)=>some (h.put o (some (.map (es.map (yu xs v)))))
    |some none=>some (h.put o (some (.map (es++[(.agg xs,v)]))))
    |none=>none
   else none
  |_=>none
 |_,_=>none
theorem OG (d:Nat):∀ {l:List Value},gr l=true→(l.zip l).all (fun p=>Instr.sameBits d p.1 p.2)=true
 |[],_=>rfl
 |.int k n::r,h=>by simp only[List.zip_cons_cons,List.all_cons,Oz,Bool.true_and];exact OG d h
 |.bool _::_,hi=>by cases hi
 |.float _ _::_,hi=>by cases hi
 |.complex _ _ _::_,hi=>by cases hi
 |.string _::_,hi=>by cases hi
 |.pointer _::_,hi=>by cases hi
 |.slice _ _ _::_,hi=>by cases hi
 |.map _::_,hi=>by cases hi
 |.agg _::_,hi=>by cases hi
 |.tuple _::_,hi=>by cases hi
 |.iface _ _::_,hi=>by cases hi
 |.func _ _ _::_,hi=>by cases hi
 |.nilFunc::_,hi=>by cases hi
 |.nilIface::_,hi=>by cases hi
 |.chan _::_,hi=>by cases hi
theorem VV {P:Program}{w:World}{xs:Array Value}(h:gr xs.toList=true):(Instr.keyThatStays (.agg xs) (.agg xs)).run P w=.ok (.agg xs) w:=by
 have hs:∀d,Instr.sameBits (d+1) (.agg xs) (.agg xs)=true:=fun d=>by
  simp only[Instr.sameBits,beq_self_eq_true,Bool.true_and]
  exact OG d h
 simp[Instr.keyThatStays,hs 9999]
theorem VX {P:Program}{lo:Nat}{U:Mu}{h:ah}{w:World}(r:Rel U lo h w){t:TypeId}{m m' k' v v':Value}{xs:Array Value}{h':ah}(hm:aj U m m')(hk:aj U (.agg xs) k')(hv:aj U v v')
  (ha:HG P lo h t m xs v=some h'):∃w',(Instr.mapUpdate t m' k' v').run P w=.ok () w'∧Rel U lo h' w'∧Frame lo U h w U h' w':=by
 unfold HG at ha
 split at ha
 ·rename_i kT e n o jv
  obtain⟨hu,ov⟩:=JU jv
  cases hb:(!(gr xs.toList&&Nat.beq xs.toList.length n)) with
  |true=>rw[hb] at ha;cases ha
  |false=>
  rw[hb,bq] at ha
  obtain⟨rfl,hi,hn⟩:=JY hk hb
  have gk:=JW ov hi hn
  split at ha
  ·rename_i es ho
   cases cC:Nat.ble lo o with
   |false=>rw[cC] at ha;simp at ha
   |true=>
   rw[cC] at ha;simp only[aM] at ha
   have lJ:lo≤o:=by simpa using cC
   cases hm with
   |map _ b C kM=>
    obtain⟨_,entries,clock,h1,hM⟩:=mZ r ho kM
    have nf:(getObj b).run P w=.ok (.map entries clock) w:=by simp[getObj,Sem.run,h1]
    split at ha
    ·rename_i v0 hq
     simp only[az] at ha;subst ha
     rcases EI (P:=P) (w:=w) hM ov hn hq with⟨v1,j,e1,g1,g2,g3,g4,g5⟩|⟨g1,_⟩
     ·obtain⟨q1,q2⟩:=VU (v:=v) hq
      have ot:=VM hM g2 g3 hv q1 q2
      obtain⟨h5,h6⟩:=zV r ho lJ kM h1 ot
      refine⟨_,?_,h5,h6⟩
      have Bg:(Instr.keyThatStays (((entries[j]?).map (·.key)).getD (.agg xs)) (.agg xs)).run P w=.ok (.agg xs) w:=by
       simp only[g2,Option.map_some,Option.getD_some,g3];exact VV hi
      simp only[Instr.mapUpdate,Sem.run_bind,run_underlying hu,Result.andThen_ok,nf,gk,g5,Bg,zU h1]
     cases g1
    ·rename_i hq
     simp only[az] at ha;subst ha
     rcases EI (P:=P) (w:=w) hM ov hn hq with⟨v1,j,e1,g1,_⟩|⟨_,g4,g5⟩
     ·cases g1
     have ot:=VN hM g4 hv
     obtain⟨h5,h6⟩:=zV r ho lJ kM h1 ot
     refine⟨_,?_,h5,h6⟩
     simp only[Instr.mapUpdate,Sem.run_bind,run_underlying hu,Result.andThen_ok,nf,gk,g5,zU h1]
    simp at ha
  simp at ha
 simp at ha
def HH (P:Program)(lo:Nat)(h:ah)(t:TypeId)(m:Value)(xs:Array Value):Option ah:=
 match yr P t,m with
 |some (_,_,n),.map (some o)=>
  bif !(gr xs.toList&&Nat.beq xs.toList.length n) then none else
  match h.get o with
  |some (.map es)=>
   bif Nat.ble lo o then
    match r6 xs.toList es with
    |some _=>some (h.put o (some (.map (es.filter (uO xs)))))
    |none=>none
   else none
  |_=>none
 |_,_=>none
theorem VY {P:Program}{lo:Nat}{U:Mu}{h:ah}{w:World}(r:Rel U lo h w){t EG ty:TypeId}{m m' k':Value}{xs:Array Value}{h':ah}(hm:aj U m m')(hk:aj U (.agg xs) k')
  (ha:HH P lo h t m xs=some h'):ef P lo (Builtin.delete_ #[t,EG] ty #[m',k']) U h w Go.undef h':=by
 unfold HH at ha
 split at ha
 ·rename_i kT e n o jv
  obtain⟨hu,ov⟩:=JU jv
  cases hb:(!(gr xs.toList&&Nat.beq xs.toList.length n)) with
  |true=>rw[hb] at ha;cases ha
  |false=>
  rw[hb,bq] at ha
  obtain⟨rfl,hi,hn⟩:=JY hk hb
  have gk:=JW ov hi hn
  split at ha
  ·rename_i es ho
   cases cC:Nat.ble lo o with
   |false=>rw[cC] at ha;simp at ha
   |true=>
   rw[cC] at ha;simp only[aM] at ha
   have lJ:lo≤o:=by simpa using cC
   cases hm with
   |map _ b C kM=>
    obtain⟨_,entries,clock,h1,hM⟩:=mZ r ho kM
    split at ha
    ·rename_i q0 hq
     simp only[az] at ha;subst ha
     have nf:(getObj b).run P w=.ok (.map entries clock) w:=by simp[getObj,Sem.run,h1]
     have q1:∀p∈es,p.1=.agg xs→uO xs p=false:=fun p hp hk=>by unfold uO;rw[(HF hq p hp).2 hk];rfl
     have q2:∀p∈es,p.1≠.agg xs→uO xs p=true:=fun p hp hk=>by
      unfold uO
      rw[show zX xs.toList p.1=false from Bool.eq_false_iff.2 fun hh=>hk ((HF hq p hp).1 hh)];rfl
     obtain⟨i1,i2,i3⟩:=HE hq
     rcases EI (P:=P) (w:=w) hM ov hn hq with⟨v1,j,e1,g1,g2,g3,g4,g5⟩|⟨g1,g4,g5⟩
     ·have ot:=VP hM g2 g3 q1 q2
      obtain⟨h5,h6⟩:=zV r ho lJ kM h1 ot
      refine .mk (v':=Go.undef) ?_ .undef h5 h6
      simp[Builtin.delete_,nf,gk,g5,zU h1,Go.undef,run_underlying hu]
     have ot:fR U (es.filter (uO xs)) entries clock:=by
      rw[List.filter_eq_self.2 fun p hp=>q2 p hp (i3 g1 p hp)];exact hM
     obtain⟨h5,h6⟩:=zV r ho lJ kM h1 ot
     refine .mk (v':=Go.undef) ?_ .undef h5 h6
     simp[Builtin.delete_,nf,gk,g5,zU h1,Go.undef,run_underlying hu]
    simp at ha
  simp at ha
 simp at ha
def tF (P:Program)(h:ah)(t:TypeId)(m k:Value)(ok:Bool):Option Value:=match k with
 |.agg xs=>yt P h t m xs ok
 |k=>tD P h t m k ok
def zY (P:Program)(lo:Nat)(h:ah)(t:TypeId)(m k v:Value):Option ah:=match k with
 |.agg xs=>HG P lo h t m xs v
 |k=>Be P lo h t m k v
def oX (P:Program)(lo:Nat)(h:ah)(t:TypeId)(m k:Value):Option ah:=match k with
 |.agg xs=>HH P lo h t m xs
 |k=>Bh P lo h t m k
theorem VZ {P:Program}{lo:Nat}{U:Mu}{h:ah}{w:World}(r:Rel U lo h w){t:TypeId}{m m' k k' v:Value}{ok:Bool}(hm:aj U m m')(hk:aj U k k')(ha:tF P h t m k ok=some v):ef P lo (Instr.lookup t m' k' ok) U h w v h:=by
 unfold tF at ha
 split at ha
 ·exact VQ r hm hk ha
 exact VH r hm hk ha
theorem OH {P:Program}{lo:Nat}{U:Mu}{h:ah}{w:World}(r:Rel U lo h w){t:TypeId}{m m' k k' v v':Value}{h':ah}(hm:aj U m m')(hk:aj U k k')(hv:aj U v v')
  (ha:zY P lo h t m k v=some h'):∃w',(Instr.mapUpdate t m' k' v').run P w=.ok () w'∧Rel U lo h' w'∧Frame lo U h w U h' w':=by
 unfold zY at ha
 split at ha
 ·exact VX r hm hk hv ha
 exact VI r hm hk hv ha
theorem V0 {P:Program}{lo:Nat}{U:Mu}{h:ah}{w:World}(r:Rel U lo h w){t EG ty:TypeId}{m m' k k':Value}{h':ah}(hm:aj U m m')(hk:aj U k k')
  (ha:oX P lo h t m k=some h'):ef P lo (Builtin.delete_ #[t,EG] ty #[m',k']) U h w Go.undef h':=by
 unfold oX at ha
 split at ha
 ·exact VY r hm hk ha
 exact VK r hm hk ha
def nK (ts:aI):List Operand→Option (List Value)
 |[]=>some []
 |x::r=>match cP ts x,nK ts r with
  |some v,some l=>some (v::l)
  |_,_=>none
theorem Di {U:Mu}{ts:aI}{a:Act}(h:dj U ts a.tmps):∀ {xs:List Operand} {l:List Value},nK ts xs=some l→br U l (xs.map a.eval)
 |[],l,hl=>by simp only[nK,az] at hl;subst hl;exact br.nil U
 |x::r,l,hl=>by
  simp only[nK] at hl
  split at hl
  ·rename_i v l' h1 h2
   simp only[az] at hl;subst hl
   exact .cons (fE h h1) (Di h h2)
  simp at hl
def tG (ts:aI):List (Nat×Operand)→Option (List (Nat×Value))
 |[]=>some []
 |(i,x)::r=>match cP ts x,tG ts r with
  |some v,some l=>some ((i,v)::l)
  |_,_=>none
theorem HI {U:Mu}{ts:aI}{a:Act}(h:dj U ts a.tmps):∀ {xs:List (Nat×Operand)} {l:List (Nat×Value)},tG ts xs=some l→uE U l (xs.map fun (i,x)=>(i,a.eval x))
 |[],l,hl=>by simp only[tG,az] at hl;subst hl;exact⟨rfl,br.nil U⟩
 |(i,x)::r,l,hl=>by
  simp only[tG] at hl
  split at hl
  ·rename_i v l' h1 h2
   simp only[az] at hl;subst hl
   have ih:=HI h h2
   exact⟨by simp only[List.map_cons];rw[ih.1],.cons (fE h h1) ih.2⟩
  simp at hl
def tH (ts:aI):Option Operand→Option (Option Value)
 |none=>some none
 |some x=>(cP ts x).map some
theorem JZ {U:Mu}{ts:aI}{a:Act}(h:dj U ts a.tmps){x:Option Operand}{v:Option Value}(hv:tH ts x=some v):A5 U v (x.map a.eval):=by
 cases x with
 |none=>simp only[tH,az] at hv;subst hv;trivial
 |some x=>
  simp only[tH] at hv
  cases hx:cP ts x with
  |none=>rw[hx] at hv;simp at hv
  |some u=>rw[hx] at hv;simp only[Option.map_some,az] at hv;subst hv;exact fE h hx
def ow (P:Program)(lo:Nat)(h:ah)(b:Builtin)(argTypes:List TypeId)(args:List Value):Option (Value×ah):=
 match b,argTypes,args with
 |.len,[t],[x]=>(mi P h t x).map (·,h)
 |.cap,[t],[x]=>(yo P t x).map (·,h)
 |.append,[s,x],[a,b]=>oR P lo h s x a b
 |.copy,[d,_],[a,b]=>Dh P lo h d a b
 |.clear,[t],[x]=>(w8 P lo h t x).map fun h'=>(Go.undef,h')
 |.delete,[t,_],[m,k]=>(oX P lo h t m k).map fun h'=>(Go.undef,h')
 |.max,_,x::r=>(kL true x r).map (·,h)
 |.min,_,x::r=>(kL false x r).map (·,h)
 |_,_,_=>none
theorem V1 {P:Program}{lo:Nat}{U:Mu}{h:ah}{w:World}(r:Rel U lo h w){b:Builtin}{aT:Array TypeId}{ty:TypeId}{cs:Array Bool}{args:List Value}{aB:Array Value}{v:Value}{h':ah}
  (ha:br U args aB.toList) (hb:ow P lo h b aT.toList args=some (v,h')):∃s:Sem Value,(Go.builtin b aT ty cs aB)=(do pure (.value (← s)))∧ef P lo s U h w v h':=by
 have iw:∀ {l:List TypeId},aT.toList=l→aT=l.toArray:=fun hl=>by rw[← hl]
 have dZ:∀ {l:List Value},aB.toList=l→aB=l.toArray:=fun hl=>by rw[← hl]
 unfold ow at hb
 split at hb
 ·rename_i t x hl
  obtain⟨x',r1,h1,hx,h2⟩:=ha.dw
  have:=h2.iW;subst this
  rw[iw hl,dZ h1]
  cases hq:mi P h t x with
  |none=>rw[hq] at hb;simp at hb
  |some u=>
   rw[hq] at hb;simp only[Option.map_some,az,bO] at hb;obtain⟨rfl,rfl⟩:=hb
   exact⟨_,rfl,VD r hx hq⟩
 ·rename_i t x hl
  obtain⟨x',r1,h1,hx,h2⟩:=ha.dw
  have:=h2.iW;subst this
  rw[iw hl,dZ h1]
  cases hq:yo P t x with
  |none=>rw[hq] at hb;simp at hb
  |some u=>
   rw[hq] at hb;simp only[Option.map_some,az,bO] at hb;obtain⟨rfl,rfl⟩:=hb
   obtain⟨v',g1,g2⟩:=VE (w:=w) (ty:=ty) hx hq
   exact⟨_,rfl,.same r g1 g2⟩
 ·rename_i s x a b hl
  obtain⟨a',r1,h1,hx,h2⟩:=ha.dw
  obtain⟨b',r2,rfl,hy,h3⟩:=h2.dw
  have:=h3.iW;subst this
  rw[iw hl,dZ h1]
  exact⟨_,rfl,Vv r hx hy hb⟩
 ·rename_i d u a b hl
  obtain⟨a',r1,h1,hx,h2⟩:=ha.dw
  obtain⟨b',r2,rfl,hy,h3⟩:=h2.dw
  have:=h3.iW;subst this
  rw[iw hl,dZ h1]
  exact⟨_,rfl,VC r hx hy hb⟩
 ·rename_i t x hl
  obtain⟨x',r1,h1,hx,h2⟩:=ha.dw
  have:=h2.iW;subst this
  rw[iw hl,dZ h1]
  cases hq:w8 P lo h t x with
  |none=>rw[hq] at hb;simp at hb
  |some u=>
   rw[hq] at hb;simp only[Option.map_some,az,bO] at hb;obtain⟨rfl,rfl⟩:=hb
   exact⟨_,rfl,VG r hx hq⟩
 ·rename_i t u m k hl
  obtain⟨a',r1,h1,hx,h2⟩:=ha.dw
  obtain⟨b',r2,rfl,hy,h3⟩:=h2.dw
  have:=h3.iW;subst this
  rw[iw hl,dZ h1]
  cases hq:oX P lo h t m k with
  |none=>rw[hq] at hb;simp at hb
  |some u=>
   rw[hq] at hb;simp only[Option.map_some,az,bO] at hb;obtain⟨rfl,rfl⟩:=hb
   exact⟨_,rfl,V0 r hx hy hq⟩
 ·rename_i x rs
  obtain⟨x',r1,h1,hx,h2⟩:=ha.dw
  cases hq:kL true x rs with
  |none=>rw[hq] at hb;simp at hb
  |some u=>
   rw[hq] at hb;simp only[Option.map_some,az,bO] at hb;obtain⟨rfl,rfl⟩:=hb
   obtain⟨v',g1,g2⟩:=Ow (P:=P) (w:=w) hx h2 hq
   exact⟨Builtin.max_ aT ty aB,rfl,.same r (by simp only[Builtin.max_,h1];exact g1) g2⟩
 ·rename_i x rs
  obtain⟨x',r1,h1,hx,h2⟩:=ha.dw
  cases hq:kL false x rs with
  |none=>rw[hq] at hb;simp at hb
  |some u=>
   rw[hq] at hb;simp only[Option.map_some,az,bO] at hb;obtain⟨rfl,rfl⟩:=hb
   obtain⟨v',g1,g2⟩:=Ox (P:=P) (w:=w) hx h2 hq
   exact⟨Builtin.min_ aT ty aB,rfl,.same r (by simp only[Builtin.min_,h1];exact g1) g2⟩
 simp at hb
def ct (P:Program)(lo:Nat)(ts:aI)(h:ah):Op→Option (Value×ah)
 |.move x=>(cP ts x).map (·,h)
 |.assign x=>(cP ts x).map (·,h)
 |.pick c a b=>match cP ts c with
  |some (.bool true)=>(cP ts a).map (·,h)
  |some (.bool false)=>(cP ts b).map (·,h)
  |_=>none
 |.alloc t=>C6 P h t
 |.box _ x=>(cP ts x).map (rS h)
 |.build t parts=>match tG ts parts.toList with
  |some l=>(Da P t l).map (·,h)
  |none=>none
 |.buildSlice t n parts=>match tG ts parts.toList with
  |some l=>Dc P h t n l
  |none=>none
 |.load t a=>match cP ts a with
  |some p=>(rT P h t p).map (·,h)
  |none=>none
 |.store t a x=>match cP ts a,cP ts x with
  |some p,some v=>(C7 P lo h t p v).map fun h'=>(Go.undef,h')
  |_,_=>none
 |.nilCheck x=>match cP ts x with
  |some v=>(De v).map (·,h)
  |none=>none
 |.binOp op t x y _=>match cP ts x,cP ts y with
  |some a,some b=>(nc P op t a b).map (·,h)
  |_,_=>none
 |.unOp op _ x=>match cP ts x with
  |some a=>(qe op a).map (·,h)
  |none=>none
 |.convert s d x=>match cP ts x with
  |some a=>(qf P s d a).map (·,h)
  |none=>none
 |.makeFunc (.func f) first captured=>match nK ts first.toList,nK ts captured.toList with
  |some xs,some ys=>some (.func (.func f) xs.toArray ys.toArray,h)
  |_,_=>none
 |.makeMap _ none=>some (.map (some h.next),h.alloc (.map []))
 |.makeSlice t l c=>match cP ts l,cP ts c with
  |some a,some b=>Dd P h t a b
  |_,_=>none
 |.slice t x lo hi mx=>match cP ts x,tH ts lo,tH ts hi,tH ts mx with
  |some v,some l,some u,some m=>(kv P t v l u m).map (·,h)
  |_,_,_,_=>none
 |.fieldAddr s x f=>match cP ts x with
  |some p=>(C8 P s p f).map (·,h)
  |none=>none
 |.field s x f=>match cP ts x with
  |some p=>(Et P s p f).map (·,h)
  |none=>none
 |.indexAddr t x i=>match cP ts x,cP ts i with
  |some a,some b=>(ye P t a b).map (·,h)
  |_,_=>none
 |.index t x i=>match cP ts x,cP ts i with
  |some a,some b=>(A0 P t a b).map (·,h)
  |_,_=>none
 |.lookup t m k ok=>match cP ts m,cP ts k with
  |some a,some b=>(tF P h t a b ok).map (·,h)
  |_,_=>none
 |.mapUpdate t m k x=>match cP ts m,cP ts k,cP ts x with
  |some a,some b,some c=>(zY P lo h t a b c).map fun h'=>(Go.undef,h')
  |_,_,_=>none
 |.insert t m k x=>match cP ts m,cP ts k,cP ts x with
  |some a,some b,some c=>(zY P lo h t a b c).map fun h'=>(Go.undef,h')
  |_,_,_=>none
 |.extract x i=>match cP ts x with
  |some a=>(Eu a i).map (·,h)
  |none=>none
 |.call ⟨.builtin b,args,argTypes⟩=>match nK ts args.toList with
  |some l=>ow P lo h b argTypes.toList l
  |none=>none
 |_=>none
def Dk (P:Program)(lo:Nat)(s:Sem Next)(U:Mu)(h:ah)(w:World)(v:Value)(h':ah):Prop:=
 ∃nx v' w' aQ,s.run P w=.ok nx w'∧(nx=.value v'∨(nx=.skip∧v'=Go.undef))∧aj aQ v v'∧Rel aQ lo h' w'∧Frame lo U h w aQ h' w'
theorem ef.runs {P:Program}{lo:Nat}{s:Sem Value}{U:Mu}{h h':ah}{w:World}{v:Value}(ho:ef P lo s U h w v h'):Dk P lo (do pure (.value (← s))) U h w v h':=by
 obtain⟨v',w',aQ,h1,h2,h3,h4⟩:=ho
 exact⟨.value v',v',w',aQ,by simp[h1],.inl rfl,h2,h3,h4⟩
theorem Dk.uP {P:Program}{lo:Nat}{s:Sem Value}{U:Mu}{h:ah}{w:World}{v:Value}(r:Rel U lo h w)(hs:∃v',s.run P w=.ok v' w∧aj U v v'):Dk P lo (do pure (.value (← s))) U h w v h:=
 let ⟨_,h1,h2⟩:=hs
 (ef.same r h1 h2).runs
theorem Dk.J7 {P:Program}{lo:Nat}{s:Sem Unit}{U:Mu}{h h':ah}{w:World}(hs:∃w',s.run P w=.ok () w'∧Rel U lo h' w'∧Frame lo U h w U h' w'):Dk P lo (do s;pure .skip) U h w Go.undef h':=by
 obtain⟨w',h1,h2,h3⟩:=hs
 exact⟨.skip,Go.undef,w',U,by simp[h1],.inr ⟨rfl,rfl⟩,.undef,h2,h3⟩
theorem dd {α β:Type}{f:α→β}{o:Option α}{b:β}(h:o.map f=some b):∃a,o=some a∧f a=b:=by
 cases o with
 |none=>simp at h
 |some a=>exact⟨a,rfl,by simpa using h⟩
theorem V3 {P:Program}{lo:Nat}{U:Mu}{h:ah}{w:World}{ts:aI}{a:Act}{o:Oper}{v:Value}{h':ah}(r:Rel U lo h w)(ht:dj U ts a.tmps)(ha:ct P lo ts h o.op=some (v,h')) :
  Dk P lo (execOp a.eval o) U h w v h':=by
 unfold ct at ha
 split at ha
 all_goals (rename_i J8;try unfold execOp;try rw[J8])
 ·obtain⟨u,h1,h2⟩:=dd ha
  simp only[bO] at h2;obtain⟨rfl,rfl⟩:=h2
  exact⟨_,_,w,U,rfl,.inl rfl,fE ht h1,r,Frame.refl _ _ _ _⟩
 ·obtain⟨u,h1,h2⟩:=dd ha
  simp only[bO] at h2;obtain⟨rfl,rfl⟩:=h2
  exact⟨_,_,w,U,rfl,.inl rfl,fE ht h1,r,Frame.refl _ _ _ _⟩
 ·rename_i c x y
  split at ha
  ·rename_i hc
   obtain⟨u,h1,h2⟩:=dd ha
   simp only[bO] at h2;obtain⟨rfl,rfl⟩:=h2
   have tJ:=fE ht hc
   generalize hP:a.eval c=ce at tJ
   cases tJ
   exact⟨_,_,w,U,by simp[hP,asBool],.inl rfl,fE ht h1,r,Frame.refl _ _ _ _⟩
  ·rename_i hc
   obtain⟨u,h1,h2⟩:=dd ha
   simp only[bO] at h2;obtain⟨rfl,rfl⟩:=h2
   have tJ:=fE ht hc
   generalize hP:a.eval c=ce at tJ
   cases tJ
   exact⟨_,_,w,U,by simp[hP,asBool],.inl rfl,fE ht h1,r,Frame.refl _ _ _ _⟩
  simp at ha
 ·exact(U2 r ha).runs
 ·rename_i el x
  obtain⟨u,h1,h2⟩:=dd ha
  have:=(U3 (P:=P) r el (fE ht h1)).runs
  rw[h2] at this
  exact this
 ·split at ha
  ·rename_i l hl
   obtain⟨u,h1,h2⟩:=dd ha
   simp only[bO] at h2;obtain⟨rfl,rfl⟩:=h2
   exact .uP r (Vc (by simpa using HI ht hl) h1)
  simp at ha
 ·split at ha
  ·rename_i l hl
   exact(Ve r (by simpa using HI ht hl) ha).runs
  simp at ha
 ·split at ha
  ·rename_i p hp
   obtain⟨u,h1,h2⟩:=dd ha
   simp only[bO] at h2;obtain⟨rfl,rfl⟩:=h2
   exact(JB r (fE ht hp) h1).runs
  simp at ha
 ·split at ha
  ·rename_i p x hp hx
   obtain⟨u,h1,h2⟩:=dd ha
   simp only[bO] at h2;obtain⟨rfl,rfl⟩:=h2
   exact .J7 (U4 r (fE ht hp) (fE ht hx) h1)
  simp at ha
 ·rename_i x
  split at ha
  ·rename_i u hu
   obtain⟨u2,h1,h2⟩:=dd ha
   simp only[bO] at h2;obtain⟨rfl,rfl⟩:=h2
   have hr:=fE ht hu
   generalize lL:a.eval x=xe at hr
   have nb:=hr
   unfold De at h1
   split at h1
   ·simp only[az] at h1;subst h1
    cases hr with
    |ptr=>exact⟨_,_,w,U,by simp[lL],.inl rfl,nb,r,Frame.refl _ _ _ _⟩
   ·simp only[az] at h1;subst h1
    cases hr with
    |func=>exact⟨_,_,w,U,by simp[lL],.inl rfl,nb,r,Frame.refl _ _ _ _⟩
   simp at h1
  simp at ha
 ·split at ha
  ·rename_i p q hp hq
   obtain⟨u,h1,h2⟩:=dd ha
   simp only[bO] at h2;obtain⟨rfl,rfl⟩:=h2
   exact .uP r (Vh (fE ht hp) (fE ht hq) h1)
  simp at ha
 ·split at ha
  ·rename_i p hp
   obtain⟨u,h1,h2⟩:=dd ha
   simp only[bO] at h2;obtain⟨rfl,rfl⟩:=h2
   exact .uP r (Vi (fE ht hp) h1)
  simp at ha
 ·split at ha
  ·rename_i p hp
   obtain⟨u,h1,h2⟩:=dd ha
   simp only[bO] at h2;obtain⟨rfl,rfl⟩:=h2
   exact .uP r (Vj (fE ht hp) h1)
  simp at ha
 ·rename_i f first captured
  split at ha
  ·rename_i xs ys hx hy
   simp only[az,bO] at ha;obtain⟨rfl,rfl⟩:=ha
   have e1:=(p8 (cs:=xs.toArray) (ar:=first.map a.eval)).1 (by simpa using Di ht hx)
   have e2:=(p8 (cs:=ys.toArray) (ar:=captured.map a.eval)).1 (by simpa using Di ht hy)
   exact .uP r ⟨.func (.func f) (first.map a.eval) (captured.map a.eval),by simp[Instr.makeFunc],.func f _ _ _ _ e1.1 e2.1 e1.2 e2.2⟩
  simp at ha
 ·rename_i t
  simp only[az,bO] at ha;obtain⟨rfl,rfl⟩:=ha
  obtain⟨aQ,h1,h2,h3⟩:=U1 r
  exact(ef.mk (P:=P) (s:=Instr.makeMap t none) (v':=.map (some w.heap.size)) (by simp[Instr.makeMap]) (.map _ _ _ h1) h2 h3).runs
 ·split at ha
  ·rename_i p q hp hq
   exact(Vf r (fE ht hp) (fE ht hq) ha).runs
  simp at ha
 ·split at ha
  ·rename_i p q1 q2 q3 hp V4 EJ zZ
   obtain⟨u,h1,h2⟩:=dd ha
   simp only[bO] at h2;obtain⟨rfl,rfl⟩:=h2
   exact .uP r (Vp (fE ht hp) (JZ ht V4) (JZ ht EJ) (JZ ht zZ) h1)
  simp at ha
 ·split at ha
  ·rename_i p hp
   obtain⟨u,h1,h2⟩:=dd ha
   simp only[bO] at h2;obtain⟨rfl,rfl⟩:=h2
   exact .uP r (U5 (fE ht hp) h1)
  simp at ha
 ·split at ha
  ·rename_i p hp
   obtain⟨u,h1,h2⟩:=dd ha
   simp only[bO] at h2;obtain⟨rfl,rfl⟩:=h2
   exact .uP r (U7 (fE ht hp) h1)
  simp at ha
 ·split at ha
  ·rename_i p q hp hq
   obtain⟨u,h1,h2⟩:=dd ha
   simp only[bO] at h2;obtain⟨rfl,rfl⟩:=h2
   exact .uP r (U6 (fE ht hp) (fE ht hq) h1)
  simp at ha
 ·split at ha
  ·rename_i p q hp hq
   obtain⟨u,h1,h2⟩:=dd ha
   simp only[bO] at h2;obtain⟨rfl,rfl⟩:=h2
   exact .uP r (U8 (fE ht hp) (fE ht hq) h1)
  simp at ha
 ·split at ha
  ·rename_i p q hp hq
   obtain⟨u,h1,h2⟩:=dd ha
   simp only[bO] at h2;obtain⟨rfl,rfl⟩:=h2
   exact(VZ r (fE ht hp) (fE ht hq) h1).runs
  simp at ha
 ·split at ha
  ·rename_i p q x hp hq hx
   obtain⟨u,h1,h2⟩:=dd ha
   simp only[bO] at h2;obtain⟨rfl,rfl⟩:=h2
   exact .J7 (OH r (fE ht hp) (fE ht hq) (fE ht hx) h1)
  simp at ha
 ·split at ha
  ·rename_i p q x hp hq hx
   obtain⟨u,h1,h2⟩:=dd ha
   simp only[bO] at h2;obtain⟨rfl,rfl⟩:=h2
   exact .J7 (OH r (fE ht hp) (fE ht hq) (fE ht hx) h1)
  simp at ha
 ·split at ha
  ·rename_i p hp
   obtain⟨u,h1,h2⟩:=dd ha
   simp only[bO] at h2;obtain⟨rfl,rfl⟩:=h2
   exact .uP r (U9 (fE ht hp) h1)
  simp at ha
 ·rename_i b args argTypes
  split at ha
  ·rename_i l hl
   have rX:=Di ht hl
   obtain⟨s,h1,h2⟩:=V1 (ty:=o.type) (cs:=args.map fun|.const _=>true|_=>false) (aB:=args.map a.eval) r (by simpa using rX) ha
   have:((do let d ← resolve a.eval { callee:=.builtin b,args:=args,argTypes:=argTypes } o.type;invoke d.target d.args):Sem Next)=(do pure (.value (← s))):=by
    rw[← h1];rfl
   simp only[this]
   exact h2.runs
  simp at ha
 simp at ha
end Go.Am
end
