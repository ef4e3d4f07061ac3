/-
 What is used in the proof of a statement (part Am1); no condition.
-/
import Derived.CallsIn
import Derived.RangeFuncIn
import Derived.OrdersIn
import Derived.Laws.World
import Derived.Laws.Cells
import Derived.Laws.IdiomCopy
import Derived.Laws.StructEq
import Derived.Laws.NewBlocks
import Derived.Laws.Append
import Derived.WideKeyRuns
set_option linter.all false
set_option maxHeartbeats 40000000
set_option maxRecDepth 100000
/-
 The abstract machine, part A: tries, abstract heaps, the relation between an abstract heap and a world of the model.
-/
section
namespace Go.Am
theorem xfm.{u} {α : Type u} (a b : α) : (some a = some b) = (a = b) := Option.some.injEq a b
theorem xfn.{u, v} {α : Type u} {β : Type v} (a : α) (b : β) (c : α) (d : β) : ((a, b) = (c, d)) = (a = c ∧ b = d) := Prod.mk.injEq a b c d
theorem xfo {n m : Nat}(h : Nat.ble n m = true) : n ≤ m := Nat.le_of_ble_eq_true h
theorem xfp.{u} {α : Sort u} {a b : α} : cond true a b = a := rfl
theorem xfq.{u} {α : Sort u} {a b : α} : cond false a b = b := rfl
theorem xfr (a b : Bool) : ((a && b) = true) = (a = true ∧ b = true) := Bool.and_eq_true a b
theorem xfs {n m : Nat}(h : Nat.beq n m = true) : n = m := Nat.eq_of_beq_eq_true h
inductive Tr (α:Type) where
  |nil
  |node (l:Tr α) (v:Option α) (r:Tr α)
def Tr.get {α:Type}:Tr α→Nat→Option α
 |.nil,_=>none
 |.node l v r,i=>bif Nat.beq i 0 then v else bif Nat.beq (i % 2) 1 then l.get (i / 2) else r.get (i / 2 - 1)
def Tr.set {α:Type}(v:Option α):Nat→Tr α→Nat→Tr α
 |0,t,_=>t
 |n+1,.nil,i=>bif Nat.beq i 0 then .node .nil v .nil else bif Nat.beq (i % 2) 1 then .node (Tr.set v n .nil (i / 2)) none .nil else .node .nil none (Tr.set v n .nil (i / 2 - 1))
 |n+1,.node l u r,i=>bif Nat.beq i 0 then .node l v r else bif Nat.beq (i % 2) 1 then .node (Tr.set v n l (i / 2)) u r else .node l u (Tr.set v n r (i / 2 - 1))
theorem Tr.zr9 {α:Type}(v:Option α):∀(n:Nat) (t:Tr α) (i j:Nat),i<n→(Tr.set v n t i).get j=if j=i then v else t.get j:=by
 intro n
 induction n with
 |zero=>intro t i j h;omega
 |succ n ih=>
  intro t i j h
  have e0:∀k:Nat,Nat.beq k 0=decide (k=0):=fun k=>by rw[Bool.eq_iff_iff];simp
  have e1:∀k:Nat,Nat.beq k 1=decide (k=1):=fun k=>by rw[Bool.eq_iff_iff];simp
  cases t with
  |nil=>
   simp only[Tr.set,e0,e1]
   by_cases h0:i=0
   ·subst h0
    simp only[decide_true,xfp,Tr.get,e0,e1]
    by_cases hj:j=0<;>simp[hj]
   by_cases h1:i % 2=1
   ·simp only[h0,h1,decide_true,decide_false,xfp,xfq,Tr.get,e0,e1]
    by_cases hj:j=0
    ·have:¬j=i:=by omega
     simp[hj,Ne.symm h0]
    by_cases hj1:j % 2=1
    ·simp only[hj,hj1,decide_true,decide_false,xfp,xfq]
     rw[ih _ _ _ (by omega)]
     by_cases hji:j=i
     ·subst hji;simp
     have:¬j / 2=i / 2:=by omega
     simp[hji,this,Tr.get]
    have:¬j=i:=by intro hh;subst hh;exact hj1 h1
    simp[hj,hj1,this]
   simp only[h0,h1,decide_false,xfq,Tr.get,e0,e1]
   by_cases hj:j=0
   ·have:¬j=i:=by omega
    simp[hj,Ne.symm h0]
   by_cases hj1:j % 2=1
   ·have:¬j=i:=by intro hh;subst hh;exact h1 hj1
    simp[hj,hj1,this]
   simp only[hj,hj1,decide_false,xfq]
   rw[ih _ _ _ (by omega)]
   by_cases hji:j=i
   ·subst hji;simp
   have:¬j / 2 - 1=i / 2 - 1:=by omega
   simp[hji,this,Tr.get]
  |node l u r=>
   simp only[Tr.set,e0,e1]
   by_cases h0:i=0
   ·subst h0
    simp only[decide_true,xfp,Tr.get,e0,e1]
    by_cases hj:j=0<;>simp[hj]
   by_cases h1:i % 2=1
   ·simp only[h0,h1,decide_true,decide_false,xfp,xfq,Tr.get,e0,e1]
    by_cases hj:j=0
    ·simp[hj,Ne.symm h0]
    by_cases hj1:j % 2=1
    ·simp only[hj,hj1,decide_true,decide_false,xfp,xfq]
     rw[ih _ _ _ (by omega)]
     by_cases hji:j=i
     ·subst hji;simp
     have:¬j / 2=i / 2:=by omega
     simp[hji,this]
    have:¬j=i:=by intro hh;subst hh;exact hj1 h1
    simp[hj,hj1,this]
   simp only[h0,h1,decide_false,xfq,Tr.get,e0,e1]
   by_cases hj:j=0
   ·simp[hj,Ne.symm h0]
   by_cases hj1:j % 2=1
   ·have:¬j=i:=by intro hh;subst hh;exact h1 hj1
    simp[hj,hj1,this]
   simp only[hj,hj1,decide_false,xfq]
   rw[ih _ _ _ (by omega)]
   by_cases hji:j=i
   ·subst hji;simp
   have:¬j / 2 - 1=i / 2 - 1:=by omega
   simp[hji,this]
structure z0v where
  params:Array Tmp
  assign:Code
  body:Code
  ts:List Value
  tag:Nat
inductive AObj where
  |cells (s:Nat) (cs:List Value)
  |map (es:List (Value×Value))
  |emap (es:List (Value×Value)) (k:Value) (born:Nat)
  |loop (L:z0v) (jump:Option Code)
structure zaa where
  next:Nat
  tr:Tr AObj
def zaa.get (h:zaa)(o:Nat):Option AObj:=bif Nat.blt o h.next then h.tr.get o else none
def zaa.put (h:zaa)(o:Nat)(x:Option AObj):zaa:=⟨h.next,h.tr.set x (o+1) o⟩
def zaa.alloc (h:zaa)(x:AObj):zaa:=⟨h.next+1,h.tr.set (some x) (h.next+1) h.next⟩
def zaa.empty:zaa:=⟨0,.nil⟩
theorem zaa.get_eq (h:zaa)(o:Nat):h.get o=if o<h.next then h.tr.get o else none:=by
 unfold zaa.get
 by_cases ho:o<h.next
 ·have:Nat.blt o h.next=true:=by rw[Nat.blt_eq];exact ho
  simp[this,ho]
 have:Nat.blt o h.next=false:=by rw[← Bool.not_eq_true,Nat.blt_eq];exact ho
 simp[this,ho]
theorem zaa.zai {h:zaa}{o:Nat}{x:AObj}(hx:h.get o=some x):o<h.next:=by
 rw[zaa.get_eq] at hx
 by_cases ho:o<h.next
 ·exact ho
 simp[ho] at hx
theorem zaa.zaw (h:zaa)(o p:Nat)(x:Option AObj)(ho:o<h.next):(h.put o x).get p=if p=o then x else h.get p:=by
 simp only[zaa.get_eq,zaa.put]
 rw[Tr.zr9 _ _ _ _ _ (by omega)]
 by_cases hp:p=o
 ·subst hp;simp[ho]
 simp[hp]
theorem zaa.zay (h:zaa)(p:Nat)(x:AObj):(h.alloc x).get p=if p=h.next then some x else h.get p:=by
 simp only[zaa.get_eq,zaa.alloc]
 rw[Tr.zr9 _ _ _ _ _ (by omega)]
 by_cases hp:p=h.next
 ·subst hp;simp
 by_cases hl:p<h.next
 ·have:p<h.next+1:=by omega
  simp[hp,hl,this]
 have:¬p<h.next+1:=by omega
 simp[hp,hl,this]
@[simp] theorem zaa.zlw (h:zaa)(o:Nat)(x:Option AObj):(h.put o x).next=h.next:=rfl
@[simp] theorem zaa.z6b (h:zaa)(x:AObj):(h.alloc x).next=h.next+1:=rfl
theorem zaa.zl5 (o:Nat):zaa.empty.get o=none:=by simp[zaa.get_eq,zaa.empty]
abbrev Mu:=Nat→Option (Nat×Nat×Nat)
def inex:Nat:=4611686018427387904
def Mu.le (μ ν:Mu):Prop:=∀o x,μ o=some x→ν o=some x
theorem Mu.le_refl (μ:Mu):μ.le μ:=fun _ _ h=>h
theorem Mu.le_trans {μ ν ρ:Mu}(h:μ.le ν)(h':ν.le ρ):μ.le ρ:=fun o x hx=>h' o x (h o x hx)
def zcy (C k:Nat):Nat:=if k<inex then k else C - (k - inex)
def unk:Nat:=9223372036854775808
inductive RelV (μ:Mu):Value→Value→Prop where
  |bool (b:Bool):RelV μ (.bool b) (.bool b)
  |int (k:IntKind) (n:Int):RelV μ (.int k n) (.int k n)
  |string (s:ByteArray):RelV μ (.string s) (.string s)
  |nilFunc:RelV μ .nilFunc .nilFunc
  |nilIface:RelV μ .nilIface .nilIface
  |ptrNil:RelV μ (.pointer none) (.pointer none)
  |ptr (o off b a C:Nat) (h:μ o=some (b,a,C)):RelV μ (.pointer (some ⟨o,off,none⟩)) (.pointer (some ⟨b,a+off,none⟩))
  |sliceNil:RelV μ (.slice none 0 0) (.slice none 0 0)
  |slice (o off l k b a C:Nat) (h:μ o=some (b,a,C)) (hl:l≤zcy C k) (hk:k<unk):RelV μ (.slice (some ⟨o,off,none⟩) l k) (.slice (some ⟨b,a+off,none⟩) l (zcy C k))
  |sliceZ (p p':Addr) (c:Nat):RelV μ (.slice (some p) 0 unk) (.slice (some p') 0 c)
  |slice0 (p p':Addr):RelV μ (.slice (some p) 0 0) (.slice (some p') 0 0)
  |mapNil:RelV μ (.map none) (.map none)
  |map (o b C:Nat) (h:μ o=some (b,0,C)):RelV μ (.map (some o)) (.map (some b))
  |func (f:FuncId) (xs ys xs' ys':Array Value) (hx:xs.size=xs'.size) (hy:ys.size=ys'.size)
      (rx:∀(i:Nat) (h:i<xs.size) (h':i<xs'.size),RelV μ xs[i] xs'[i]) (ry:∀(i:Nat) (h:i<ys.size) (h':i<ys'.size),RelV μ ys[i] ys'[i]) :
      RelV μ (.func (.func f) xs ys) (.func (.func f) xs' ys')
  |yieldV (l b C:Nat) (h:μ l=some (b,0,C)):RelV μ (.func (.yield l) #[] #[]) (.func (.yield b) #[] #[])
  |iface (t:TypeId) (v v':Value) (h:RelV μ v v'):RelV μ (.iface t v) (.iface t v')
  |agg (cs cs':Array Value) (hs:cs.size=cs'.size) (r:∀(i:Nat) (h:i<cs.size) (h':i<cs'.size),RelV μ cs[i] cs'[i]):RelV μ (.agg cs) (.agg cs')
  |tuple (cs cs':Array Value) (hs:cs.size=cs'.size) (r:∀(i:Nat) (h:i<cs.size) (h':i<cs'.size),RelV μ cs[i] cs'[i]):RelV μ (.tuple cs) (.tuple cs')
theorem RelV.mono {μ ν:Mu}(hle:μ.le ν){v v':Value}(h:RelV μ v v'):RelV ν v v':=by
 induction h with
 |bool b=>exact .bool b
 |int k n=>exact .int k n
 |string s=>exact .string s
 |nilFunc=>exact .nilFunc
 |nilIface=>exact .nilIface
 |ptrNil=>exact .ptrNil
 |ptr o off b a C h=>exact .ptr o off b a C (hle _ _ h)
 |sliceNil=>exact .sliceNil
 |slice o off l k b a C h hl hk=>exact .slice o off l k b a C (hle _ _ h) hl hk
 |sliceZ p p' c=>exact .sliceZ p p' c
 |slice0 p p'=>exact .slice0 p p'
 |mapNil=>exact .mapNil
 |map o b C h=>exact .map o b C (hle _ _ h)
 |func f xs ys xs' ys' hx hy _ _ rx ry=>exact .func f xs ys xs' ys' hx hy rx ry
 |yieldV l b C h=>exact .yieldV l b C (hle _ _ h)
 |iface t v v' _ ih=>exact .iface t v v' ih
 |agg cs cs' hs _ r=>exact .agg cs cs' hs r
 |tuple cs cs' hs _ r=>exact .tuple cs cs' hs r
def zas (μ:Mu)(l l':List Value):Prop:=l.length=l'.length∧∀(i:Nat) (v:Value),l[i]?=some v→∃v',l'[i]?=some v'∧RelV μ v v'
theorem zas.mono {μ ν:Mu}(hle:μ.le ν){l l':List Value}(h:zas μ l l'):zas ν l l':=
 ⟨h.1,fun i v hv=>let ⟨v',h1,h2⟩:=h.2 i v hv;⟨v',h1,h2.mono hle⟩⟩
theorem zas.nil (μ:Mu):zas μ [] []:=⟨rfl,fun i v h=>by simp at h⟩
theorem zas.cons {μ:Mu}{v v':Value}{l l':List Value}(hv:RelV μ v v')(h:zas μ l l'):zas μ (v::l) (v'::l'):=by
 refine⟨by simp[h.1],fun i u hu=>?_⟩
 cases i with
 |zero=>simp at hu;subst hu;exact⟨v',by simp,hv⟩
 |succ i=>simp at hu;obtain⟨u',h1,h2⟩:=h.2 i u hu;exact⟨u',by simpa using h1,h2⟩
theorem zas.zcd {μ:Mu}{l:List Value}(h:zas μ [] l):l=[]:=by
 have:=h.1;simp at this;exact List.eq_nil_of_length_eq_zero this.symm
theorem zas.zax {μ:Mu}{v:Value}{l r:List Value}(h:zas μ (v::l) r):∃v' l',r=v'::l'∧RelV μ v v'∧zas μ l l':=by
 cases r with
 |nil=>have:=h.1;simp at this
 |cons v' l'=>
  obtain⟨u,h1,h2⟩:=h.2 0 v (by simp)
  simp at h1;subst h1
  exact⟨v',l',rfl,h2,by have:=h.1;simpa using this,fun i x hx=>by have:=h.2 (i+1) x (by simpa using hx);simpa using this⟩
theorem zas.append {μ:Mu}{l l' r r':List Value}(h:zas μ l l')(h2:zas μ r r'):zas μ (l++r) (l'++r'):=by
 refine⟨by simp[h.1,h2.1],fun i v hv=>?_⟩
 by_cases hi:i<l.length
 ·rw[List.getElem?_append_left hi] at hv
  rw[List.getElem?_append_left (by have:=h.1;omega)]
  exact h.2 i v hv
 rw[List.getElem?_append_right (by omega)] at hv
 rw[List.getElem?_append_right (by have:=h.1;omega)]
 have:=h2.2 _ v hv
 rwa [h.1] at this
theorem zas.take {μ:Mu}{l l':List Value}(n:Nat)(h:zas μ l l'):zas μ (l.take n) (l'.take n):=by
 refine⟨by simp[h.1],fun i v hv=>?_⟩
 rw[List.getElem?_take] at hv ⊢
 split at hv
 ·rename_i hlt;simp only[hlt,if_true];exact h.2 i v hv
 simp at hv
theorem zas.drop {μ:Mu}{l l':List Value}(n:Nat)(h:zas μ l l'):zas μ (l.drop n) (l'.drop n):=by
 refine⟨by simp[h.1],fun i v hv=>?_⟩
 rw[List.getElem?_drop] at hv ⊢
 exact h.2 _ v hv
theorem zas.set {μ:Mu}{l l':List Value}{v v':Value}(n:Nat)(h:zas μ l l')(hv:RelV μ v v'):zas μ (l.set n v) (l'.set n v'):=by
 refine⟨by simp[h.1],fun i u hu=>?_⟩
 rw[List.getElem?_set] at hu ⊢
 by_cases hi:n=i
 ·subst hi
  simp only[if_true] at hu ⊢
  by_cases hn:n<l.length
  ·simp[hn] at hu;subst hu
   have:n<l'.length:=by have:=h.1;omega
   exact⟨v',by simp[this],hv⟩
  simp[hn] at hu
 simp only[hi,if_false] at hu ⊢
 exact h.2 i u hu
theorem zba {μ:Mu}{cs cs':Array Value}:zas μ cs.toList cs'.toList↔(cs.size=cs'.size∧∀(i:Nat) (h:i<cs.size) (h':i<cs'.size),RelV μ cs[i] cs'[i]):=by
 constructor
 ·intro ⟨h1,h2⟩
  refine⟨by simpa using h1,fun i hi hi'=>?_⟩
  obtain⟨v',hv,hr⟩:=h2 i cs[i] (by simp[hi])
  simp[hi'] at hv
  rw[hv];exact hr
 intro ⟨h1,h2⟩
 refine⟨by simpa using h1,fun i v hv=>?_⟩
 have hi:i<cs.size:=by
  rcases Nat.lt_or_ge i cs.size with h|h
  ·exact h
  rw[List.getElem?_eq_none (by simpa using h)] at hv;simp at hv
 simp[hi] at hv
 subst hv
 exact⟨cs'[i],by simp[h1▸hi],h2 i hi (h1▸hi)⟩
theorem RelV.agg' {μ:Mu}{cs cs':List Value}(h:zas μ cs cs'):RelV μ (.agg cs.toArray) (.agg cs'.toArray):=by
 have:=(zba (μ:=μ) (cs:=cs.toArray) (cs':=cs'.toArray)).1 (by simpa using h)
 exact .agg _ _ this.1 this.2
theorem RelV.tuple' {μ:Mu}{cs cs':List Value}(h:zas μ cs cs'):RelV μ (.tuple cs.toArray) (.tuple cs'.toArray):=by
 have:=(zba (μ:=μ) (cs:=cs.toArray) (cs':=cs'.toArray)).1 (by simpa using h)
 exact .tuple _ _ this.1 this.2
theorem RelV.undef {μ:Mu}:RelV μ Go.undef Go.undef:=.tuple #[] #[] rfl (fun i h=>by simp at h)
theorem RelV.zmw {μ:Mu}{cs:Array Value}{v':Value}(h:RelV μ (.agg cs) v'):∃cs',v'=.agg cs'∧zas μ cs.toList cs'.toList:=by
 cases h with
 |agg _ cs' hs r=>exact⟨cs',rfl,zba.2 ⟨hs,r⟩⟩
theorem RelV.zqq {μ:Mu}{cs:Array Value}{v':Value}(h:RelV μ (.tuple cs) v'):∃cs',v'=.tuple cs'∧zas μ cs.toList cs'.toList:=by
 cases h with
 |tuple _ cs' hs r=>exact⟨cs',rfl,zba.2 ⟨hs,r⟩⟩
theorem RelV.z2n {μ:Mu}{v v':Value}(h:RelV μ v v'):v'.oneCell'=v.oneCell':=by cases h<;>rfl
theorem RelV.cells {μ:Mu}{v v':Value}(h:RelV μ v v'):zas μ v.cells.toList v'.cells.toList:=by
 cases h with
 |agg cs cs' hs r=>exact zba.2 ⟨hs,r⟩
 |tuple cs cs' hs r=>simpa[Value.cells] using zas.cons (RelV.tuple cs cs' hs r) (zas.nil μ)
 |bool b=>simpa[Value.cells] using zas.cons (RelV.bool b) (zas.nil μ)
 |int k n=>simpa[Value.cells] using zas.cons (RelV.int k n) (zas.nil μ)
 |string s=>simpa[Value.cells] using zas.cons (RelV.string s) (zas.nil μ)
 |nilFunc=>simpa[Value.cells] using zas.cons (RelV.nilFunc) (zas.nil μ)
 |nilIface=>simpa[Value.cells] using zas.cons (RelV.nilIface) (zas.nil μ)
 |ptrNil=>simpa[Value.cells] using zas.cons (RelV.ptrNil) (zas.nil μ)
 |ptr o off b a C h=>simpa[Value.cells] using zas.cons (RelV.ptr o off b a C h) (zas.nil μ)
 |sliceNil=>simpa[Value.cells] using zas.cons (RelV.sliceNil) (zas.nil μ)
 |slice o off l k b a C h hl hk=>simpa[Value.cells] using zas.cons (RelV.slice o off l k b a C h hl hk) (zas.nil μ)
 |sliceZ p p' c=>simpa[Value.cells] using zas.cons (RelV.sliceZ p p' c) (zas.nil μ)
 |slice0 p p'=>simpa[Value.cells] using zas.cons (RelV.slice0 p p') (zas.nil μ)
 |mapNil=>simpa[Value.cells] using zas.cons (RelV.mapNil) (zas.nil μ)
 |map o b C h=>simpa[Value.cells] using zas.cons (RelV.map o b C h) (zas.nil μ)
 |func f xs ys xs' ys' hx hy rx ry=>simpa[Value.cells] using zas.cons (RelV.func f xs ys xs' ys' hx hy rx ry) (zas.nil μ)
 |yieldV l b C h=>simpa[Value.cells] using zas.cons (RelV.yieldV l b C h) (zas.nil μ)
 |iface t v v' h=>simpa[Value.cells] using zas.cons (RelV.iface t v v' h) (zas.nil μ)
def RelE (μ:Mu)(p:Value×Value)(e:MapEntry):Prop:=e.key=p.1∧RelV μ p.2 e.val
def RelM (μ:Mu)(es:List (Value×Value))(entries:Array MapEntry)(clock:Nat):Prop:=
 ∃l:List (Value×Value),l.Perm es∧(l.map (·.1)).Nodup∧l.length=entries.size∧(∀(i:Nat) p e,l[i]?=some p→entries[i]?=some e→RelE μ p e)∧
  (entries.toList.map (·.born)).Pairwise (·<·)∧(∀e∈entries.toList,e.born<clock)
def RelO (μ:Mu)(w:World)(b a C:Nat):AObj→Prop
 | .cells s cs => b < w.heap.size ∧ (∀ (i : Nat) v, cs[i]? = some v → ∃ v', w.cell? ⟨b, a + i, none⟩ = some v' ∧ RelV μ v v') ∧
  (0<s→cs.length≤C*s∧∀i,i<C*s→∃v',w.cell? ⟨b,a+i,none⟩=some v')
 |.map es=>a=0∧∃entries clock,w.heap[b]?=some (.map entries clock)∧RelM μ es entries clock
 |.emap es k born=>a=0∧∃entries clock,w.heap[b]?=some (.map entries clock)∧RelM μ es entries clock∧∃e∈entries.toList,e.key=k∧e.born=born
 |.loop L jump=>a=0∧∃r:Loop,w.heap[b]?=some (.loop r)∧r.state=(if jump.isNone then .ready else .done)∧r.pending=jump∧r.params=L.params∧r.assign=L.assign∧r.body=L.body∧zas μ L.ts r.tmps.toList
structure Rel (μ:Mu) (lo:Nat) (h:zaa) (w:World):Prop where
  objs:∀o x,h.get o=some x→∃b a C,μ o=some (b,a,C)∧RelO μ w b a C x
  inj:∀o o' x x' b a C a' C',lo≤o→h.get o=some x→h.get o'=some x'→μ o=some (b,a,C)→μ o'=some (b,a',C')→o=o'
  dom:∀o x,μ o=some x→o<h.next
  thaw:∀o x b a C,lo≤o→h.get o=some x→μ o=some (b,a,C)→∀off,w.frozen? ⟨b,off,none⟩=false
  lole:lo≤h.next
def Own (μ:Mu)(lo:Nat)(h:zaa)(b:Nat):Prop:=∃o x a C,lo≤o∧h.get o=some x∧μ o=some (b,a,C)
def Calm (w w':World):Prop:=w'.os=w.os∧w'.output=w.output
theorem Calm.refl (w:World):Calm w w:=⟨rfl,rfl⟩
theorem Calm.trans {a b c:World}(h:Calm a b)(g:Calm b c):Calm a c:=⟨g.1.trans h.1,g.2.trans h.2⟩
structure Frame (lo:Nat) (μ:Mu) (h:zaa) (w:World) (μ':Mu) (h':zaa) (w':World):Prop where
  le:μ.le μ'
  size:w.heap.size≤w'.heap.size
  next:h.next≤h'.next
  kept:∀b,b<w.heap.size→¬Own μ lo h b→w'.heap[b]?=w.heap[b]?
  own:∀b,b<w.heap.size→Own μ' lo h' b→Own μ lo h b
  low:∀o,o<lo→h'.get o=h.get o
  old:∀o,o<h.next→μ' o=μ o
  born:∀o,o<h.next→h.get o=none→h'.get o=none
  calm:Calm w w'
theorem Frame.refl (lo:Nat)(μ:Mu)(h:zaa)(w:World):Frame lo μ h w μ h w:=⟨Mu.le_refl μ,Nat.le_refl _,Nat.le_refl _,fun _ _ _=>rfl,fun _ _ h=>h,fun _ _=>rfl,fun _ _=>rfl,fun _ _ h=>h,.refl w⟩
theorem Frame.trans {lo:Nat}{μ μ1 μ2:Mu}{h h1 h2:zaa}{w w1 w2:World}(f:Frame lo μ h w μ1 h1 w1)(g:Frame lo μ1 h1 w1 μ2 h2 w2):Frame lo μ h w μ2 h2 w2 where
  le:=Mu.le_trans f.le g.le
  size:=Nat.le_trans f.size g.size
  next:=Nat.le_trans f.next g.next
  kept b hb hn:=by rw[g.kept b (Nat.lt_of_lt_of_le hb f.size) (fun ho=>hn (f.own b hb ho)),f.kept b hb hn]
  own b hb ho:=f.own b hb (g.own b (Nat.lt_of_lt_of_le hb f.size) ho)
  low o ho:=by rw[g.low o ho,f.low o ho]
  old o ho:=by rw[g.old o (Nat.lt_of_lt_of_le ho f.next),f.old o ho]
  born o ho hn:=g.born o (Nat.lt_of_lt_of_le ho f.next) (f.born o ho hn)
  calm:=f.calm.trans g.calm
theorem zhi {w w':World}{b off:Nat}(h:w'.heap[b]?=w.heap[b]?):w'.cell? ⟨b,off,none⟩=w.cell? ⟨b,off,none⟩:=by
 simp[World.cell?,h]
theorem zbn {w w':World}{b off:Nat}(h:w'.heap[b]?=w.heap[b]?):w'.frozen? ⟨b,off,none⟩=w.frozen? ⟨b,off,none⟩:=by
 simp[World.frozen?,h]
theorem RelM.mono {μ ν:Mu}(hle:μ.le ν){es:List (Value×Value)}{entries:Array MapEntry}{clock:Nat}(h:RelM μ es entries clock):RelM ν es entries clock:=by
 obtain⟨l,h1,h0,h2,h3,h4,h5⟩:=h
 exact⟨l,h1,h0,h2,fun i p e hp he=>⟨(h3 i p e hp he).1,(h3 i p e hp he).2.mono hle⟩,h4,h5⟩
theorem RelO.mono {μ ν:Mu}(hle:μ.le ν){w:World}{b a C:Nat}{x:AObj}(h:RelO μ w b a C x):RelO ν w b a C x:=by
 cases x with
 |cells s cs=>exact⟨h.1,fun i v hv=>let ⟨v',h1,h2⟩:=h.2.1 i v hv;⟨v',h1,h2.mono hle⟩,h.2.2⟩
 |map es=>obtain⟨h1,entries,clock,h2,h3⟩:=h;exact⟨h1,entries,clock,h2,h3.mono hle⟩
 |emap es k born=>obtain⟨h1,entries,clock,h2,h3,h4⟩:=h;exact⟨h1,entries,clock,h2,h3.mono hle,h4⟩
 |loop L jump=>obtain⟨h1,r,h2,h3,h4,h5,h6,h7,h8⟩:=h;exact⟨h1,r,h2,h3,h4,h5,h6,h7,h8.mono hle⟩
theorem RelO.zcq {μ:Mu}{w:World}{b a C:Nat}{x:AObj}(h:RelO μ w b a C x):b<w.heap.size:=by
 cases x with
 |cells s cs=>exact h.1
 |map es=>
  obtain⟨_,entries,clock,h2,_⟩:=h
  rcases Nat.lt_or_ge b w.heap.size with h'|h'
  ·exact h'
  simp[Array.getElem?_eq_none h'] at h2
 |emap es k born=>
  obtain⟨_,entries,clock,h2,_⟩:=h
  rcases Nat.lt_or_ge b w.heap.size with h'|h'
  ·exact h'
  simp[Array.getElem?_eq_none h'] at h2
 |loop L jump=>
  obtain⟨_,r,h2,_⟩:=h
  rcases Nat.lt_or_ge b w.heap.size with h'|h'
  ·exact h'
  simp[Array.getElem?_eq_none h'] at h2
theorem RelO.kept {μ:Mu}{w w':World}{b a C:Nat}{x:AObj}(h:RelO μ w b a C x)(hb:w'.heap[b]?=w.heap[b]?):RelO μ w' b a C x:=by
 have hlt:b<w'.heap.size:=by
  have h0:=h.zcq
  rcases Nat.lt_or_ge b w'.heap.size with h'|h'
  ·exact h'
  rw[Array.getElem?_eq_none h',Array.getElem?_eq_getElem h0] at hb;simp at hb
 cases x with
 |cells s cs=>
  refine⟨hlt,fun i v hv=>?_,fun hs=>⟨(h.2.2 hs).1,fun i hi=>?_⟩⟩
  ·obtain⟨v',h1,h2⟩:=h.2.1 i v hv
   exact⟨v',by rw[zhi hb];exact h1,h2⟩
  obtain⟨v',h1⟩:=(h.2.2 hs).2 i hi
  exact⟨v',by rw[zhi hb];exact h1⟩
 |map es=>obtain⟨h1,entries,clock,h2,h3⟩:=h;exact⟨h1,entries,clock,by rw[hb];exact h2,h3⟩
 |emap es k born=>obtain⟨h1,entries,clock,h2,h3⟩:=h;exact⟨h1,entries,clock,by rw[hb];exact h2,h3⟩
 |loop L jump=>obtain⟨h1,r,h2,h3⟩:=h;exact⟨h1,r,by rw[hb];exact h2,h3⟩
theorem Rel.sub {μ:Mu}{lo lo':Nat}{h h':zaa}{w:World}(r:Rel μ lo h w)(hn:h.next≤h'.next)(hs:∀o x,h'.get o=some x→h.get o=some x)(hlo:lo≤lo')(hl:lo'≤h'.next):Rel μ lo' h' w where
  lole:=hl
  objs o x hx:=r.objs o x (hs o x hx)
  inj o o' x x' b a C a' C' hl hx hx':=r.inj o o' x x' b a C a' C' (Nat.le_trans hlo hl) (hs o x hx) (hs o' x' hx')
  dom o x hx:=Nat.lt_of_lt_of_le (r.dom o x hx) hn
  thaw o x b a C hl hx:=r.thaw o x b a C (Nat.le_trans hlo hl) (hs o x hx)
theorem Rel.drew {μ:Mu}{lo:Nat}{h:zaa}{w:World}(r:Rel μ lo h w):Rel μ lo h w.drew where
  objs o x hx:=let ⟨b,a,C,h1,h2⟩:=r.objs o x hx;⟨b,a,C,h1,h2.kept rfl⟩
  inj:=r.inj
  dom:=r.dom
  thaw:=r.thaw
  lole:=r.lole
theorem Frame.drew (lo:Nat)(μ:Mu)(h:zaa)(w:World):Frame lo μ h w μ h w.drew:=⟨Mu.le_refl μ,Nat.le_refl _,Nat.le_refl _,fun _ _ _=>rfl,fun _ _ h=>h,fun _ _=>rfl,fun _ _=>rfl,fun _ _ h=>h,⟨rfl,rfl⟩⟩
theorem Rel.restore {μ μ':Mu}{lo:Nat}{h h1 h':zaa}{w w':World}(r:Rel μ lo h w)(f:Frame h1.next μ h1 w μ' h' w')(hn:∀o x,h1.get o=some x→o<h1.next) :
  Rel μ lo h w'∧Frame lo μ h w μ h w':=by
 have hown:∀b,¬Own μ h1.next h1 b:=by
  rintro b ⟨o,x,a,C,hl,hx,_⟩
  have:=hn o x hx
  omega
 have hk:∀b,b<w.heap.size→w'.heap[b]?=w.heap[b]?:=fun b hb=>f.kept b hb (hown b)
 refine⟨⟨fun o x hx=>?_,r.inj,r.dom,fun o x b a C hl hx hm off=>?_,r.lole⟩,⟨Mu.le_refl μ,f.size,Nat.le_refl _,fun b hb _=>hk b hb,fun _ _ h=>h,fun _ _=>rfl,fun _ _=>rfl,fun _ _ h=>h,f.calm⟩⟩
 ·obtain⟨b,a,C,h1,h2⟩:=r.objs o x hx
  exact⟨b,a,C,h1,h2.kept (hk b h2.zcq)⟩
 obtain⟨b',a',C',h1,h2⟩:=r.objs o x hx
 rw[hm] at h1;injection h1 with h1;injection h1 with h1 _;subst h1
 rw[zbn (hk b h2.zcq)]
 exact r.thaw o x b a C hl hx hm off
end Go.Am
end
/-
 The abstract machine, part B: what making memory and writing it does to the relation.
-/
section
namespace Go.Am
def Mu.put (μ:Mu)(o:Nat)(x:Nat×Nat×Nat):Mu:=fun p=>if p=o then some x else μ p
theorem Mu.zaf (μ:Mu)(o:Nat)(x:Nat×Nat×Nat):μ.put o x o=some x:=by simp[Mu.put]
theorem Mu.zaj {μ:Mu}{o p:Nat}(x:Nat×Nat×Nat)(h:p≠o):μ.put o x p=μ p:=by simp[Mu.put,h]
theorem Rel.zkb {μ:Mu}{lo:Nat}{h:zaa}{w:World}(r:Rel μ lo h w){o:Nat}(ho:h.next≤o):μ o=none:=by
 cases hx:μ o with
 |none=>rfl
 |some x=>have:=r.dom o x hx;omega
theorem Rel.zjq {μ:Mu}{lo:Nat}{h:zaa}{w:World}(r:Rel μ lo h w)(x:Nat×Nat×Nat):μ.le (μ.put h.next x):=by
 intro o y hy
 have:o≠h.next:=by
  intro ho;subst ho
  rw[r.zkb (Nat.le_refl _)] at hy;simp at hy
 rw[Mu.zaj _ this];exact hy
theorem heap_alloc (w:World)(o:Obj):(w.alloc o).heap=w.heap.push o:=rfl
theorem heap_alloc_old (w:World)(o:Obj){b:Nat}(hb:b<w.heap.size):(w.alloc o).heap[b]?=w.heap[b]?:=by
 have:b≠w.heap.size:=by omega
 rw[heap_alloc,Array.getElem?_push];simp[this]
theorem zmz {μ:Mu}{lo:Nat}{h:zaa}{w:World}(r:Rel μ lo h w)(ob:Obj)(C:Nat)(x:AObj)
  (hx:RelO (μ.put h.next (w.heap.size,0,C)) (w.alloc ob) w.heap.size 0 C x) (hf:∀off,(w.alloc ob).frozen? ⟨w.heap.size,off,none⟩=false) :
  Rel (μ.put h.next (w.heap.size,0,C)) lo (h.alloc x) (w.alloc ob)∧Frame lo μ h w (μ.put h.next (w.heap.size,0,C)) (h.alloc x) (w.alloc ob):=by
 have hle:=r.zjq (w.heap.size,0,C)
 have hold:∀o y,h.get o=some y→o≠h.next:=fun o y hy=>by have:=zaa.zai hy;omega
 have hblk:∀o y b a C',h.get o=some y→μ o=some (b,a,C')→b<w.heap.size:=fun o y b a C' hy hm=>by
  obtain⟨b',a',C'',h1,h2⟩:=r.objs o y hy
  rw[hm] at h1;injection h1 with h1;injection h1 with h1 _;subst h1
  exact h2.zcq
 constructor
 ·constructor
  ·intro o y hy
   rw[zaa.zay] at hy
   by_cases ho:o=h.next
   ·subst ho
    simp at hy;subst hy
    exact⟨_,_,_,Mu.zaf _ _ _,hx⟩
   simp[ho] at hy
   obtain⟨b,a,C',h1,h2⟩:=r.objs o y hy
   exact⟨b,a,C',by rw[Mu.zaj _ ho];exact h1,(h2.mono hle).kept (heap_alloc_old _ _ h2.zcq)⟩
  ·intro o o' y y' b a C' a' C'' hl hy hy' hm hm'
   rw[zaa.zay] at hy hy'
   by_cases ho:o=h.next
   ·by_cases ho':o'=h.next
    ·rw[ho,ho']
    simp[ho'] at hy'
    rw[Mu.zaj _ ho'] at hm'
    have:=hblk o' y' _ _ _ hy' hm'
    subst ho;rw[Mu.zaf] at hm;injection hm with hm;injection hm with hm _;omega
   simp[ho] at hy
   rw[Mu.zaj _ ho] at hm
   have h1:=hblk o y _ _ _ hy hm
   by_cases ho':o'=h.next
   ·subst ho';rw[Mu.zaf] at hm';injection hm' with hm';injection hm' with hm' _;omega
   simp[ho'] at hy'
   rw[Mu.zaj _ ho'] at hm'
   exact r.inj o o' y y' b a C' a' C'' hl hy hy' hm hm'
  ·intro o y hy
   by_cases ho:o=h.next
   ·subst ho;simp
   rw[Mu.zaj _ ho] at hy
   have:=r.dom o y hy
   simp;omega
  ·intro o y b a C' hl hy hm off
   rw[zaa.zay] at hy
   by_cases ho:o=h.next
   ·subst ho
    rw[Mu.zaf] at hm;injection hm with hm;injection hm with hm _;subst hm
    exact hf off
   simp[ho] at hy
   rw[Mu.zaj _ ho] at hm
   rw[zbn (heap_alloc_old _ _ (hblk o y _ _ _ hy hm))]
   exact r.thaw o y b a C' hl hy hm off
  have:=r.lole;simp;omega
 refine⟨hle,by simp,by simp,fun b hb _=>heap_alloc_old _ _ hb,fun b hb=>?_,fun o ho=>?_,fun o ho=>Mu.zaj _ (by omega),fun o ho hn=>by rw[zaa.zay,if_neg (by omega)];exact hn,⟨rfl,rfl⟩⟩
 ·rintro⟨o,y,a,C',hl,hy,hm⟩
  rw[zaa.zay] at hy
  by_cases ho:o=h.next
  ·subst ho;rw[Mu.zaf] at hm;injection hm with hm;injection hm with hm _;omega
  simp[ho] at hy
  rw[Mu.zaj _ ho] at hm
  exact⟨o,y,a,C',hl,hy,hm⟩
 rw[zaa.zay]
 have:=r.lole
 have:o≠h.next:=by omega
 simp[this]
theorem zh2 {μ:Mu}{lo:Nat}{h:zaa}{w:World}(r:Rel μ lo h w)(arr:Array Value)(ty:TypeId)(s C:Nat)(cs:List Value)
  (hc:∀(i:Nat) v,cs[i]?=some v→∃v',arr[i]?=some v'∧RelV μ v v') (hs:0<s→cs.length≤C*s∧C*s≤arr.size) :
  ∃μ',μ' h.next=some (w.heap.size,0,C)∧Rel μ' lo (h.alloc (.cells s cs)) (w.alloc (.cells arr ty))∧Frame lo μ h w μ' (h.alloc (.cells s cs)) (w.alloc (.cells arr ty)):=by
 refine⟨μ.put h.next (w.heap.size,0,C),Mu.zaf _ _ _,zmz r _ C _ ?_ (fun off=>by simp)⟩
 refine⟨by simp,fun i v hv=>?_,fun h0=>⟨(hs h0).1,fun i hi=>?_⟩⟩
 ·obtain⟨v',h1,h2⟩:=hc i v hv
  exact⟨v',by simpa using h1,h2.mono (r.zjq _)⟩
 have hi':i<arr.size:=Nat.lt_of_lt_of_le hi (hs h0).2
 exact⟨arr[i],by simp[hi']⟩
theorem zpv {μ:Mu}{lo:Nat}{h:zaa}{w:World}(r:Rel μ lo h w) :
  ∃μ',μ' h.next=some (w.heap.size,0,0)∧Rel μ' lo (h.alloc (.map [])) (w.alloc (.map #[] 0))∧Frame lo μ h w μ' (h.alloc (.map [])) (w.alloc (.map #[] 0)):=by
 refine⟨μ.put h.next (w.heap.size,0,0),Mu.zaf _ _ _,zmz r _ 0 _ ?_ (fun off=>?_)⟩
 ·refine⟨rfl,#[],0,by rw[heap_alloc];simp,⟨[],.nil,by simp,rfl,fun i p e h=>by simp at h,by simp,fun e h=>by simp at h⟩⟩
 simp only[World.frozen?,heap_alloc];simp
theorem zkw {μ:Mu}{lo:Nat}{h:zaa}{w w':World}(r:Rel μ lo h w){o:Nat}{x:AObj}(hx:h.get o=some x)(hl:lo≤o){b a C:Nat}(hm:μ o=some (b,a,C))(y:AObj)
  (hsz:w'.heap.size=w.heap.size) (hk:∀b',b'≠b→w'.heap[b']?=w.heap[b']?) (hy:RelO μ w' b a C y) (hfz:∀off,w'.frozen? ⟨b,off,none⟩=false) (hcalm:Calm w w') :
  Rel μ lo (h.put o (some y)) w'∧Frame lo μ h w μ (h.put o (some y)) w':=by
 have hlt:=zaa.zai hx
 have hsame:∀p z b' a' C',h.get p=some z→μ p=some (b',a',C')→p≠o→b'≠b:=fun p z b' a' C' hz hm' hp hb=>by
  subst hb;exact hp (r.inj o p x z b' a C a' C' hl hx hz hm hm').symm
 constructor
 ·constructor
  ·intro p z hz
   rw[zaa.zaw _ _ _ _ hlt] at hz
   by_cases hp:p=o
   ·subst hp;simp at hz;subst hz;exact⟨b,a,C,hm,hy⟩
   simp[hp] at hz
   obtain⟨b',a',C',h1,h2⟩:=r.objs p z hz
   exact⟨b',a',C',h1,h2.kept (hk b' (hsame p z b' a' C' hz h1 hp))⟩
  ·intro p p' z z' b' a' C' a'' C'' hlp hz hz' hm1 hm2
   rw[zaa.zaw _ _ _ _ hlt] at hz hz'
   by_cases hp:p=o
   ·by_cases hp':p'=o
    ·rw[hp,hp']
    simp[hp'] at hz';subst hp
    exact r.inj p p' x z' b' a' C' a'' C'' hlp hx hz' hm1 hm2
   simp[hp] at hz
   by_cases hp':p'=o
   ·subst hp';exact r.inj p p' z x b' a' C' a'' C'' hlp hz hx hm1 hm2
   simp[hp'] at hz'
   exact r.inj p p' z z' b' a' C' a'' C'' hlp hz hz' hm1 hm2
  ·exact fun p z hz=>r.dom p z hz
  ·intro p z b' a' C' hl' hz hm' off
   rw[zaa.zaw _ _ _ _ hlt] at hz
   by_cases hp:p=o
   ·subst hp;rw[hm] at hm';injection hm' with hm';injection hm' with hm' _;subst hm';exact hfz off
   simp[hp] at hz
   rw[zbn (hk b' (hsame p z b' a' C' hz hm' hp))]
   exact r.thaw p z b' a' C' hl' hz hm' off
  exact r.lole
 refine⟨Mu.le_refl μ,by omega,by simp,fun b' _ hn=>hk b' (fun hb=>hn (hb▸⟨o,x,a,C,hl,hx,hm⟩)),fun b' _=>?_,fun p hp=>?_,fun _ _=>rfl,fun p hp hn=>by rw[zaa.zaw _ _ _ _ hlt,if_neg (by intro h;subst h;rw[hx] at hn;cases hn)];exact hn,hcalm⟩
 ·rintro⟨p,z,a',C',hl',hz,hm'⟩
  rw[zaa.zaw _ _ _ _ hlt] at hz
  by_cases hp:p=o
  ·subst hp;exact⟨p,x,a',C',hl',hx,hm'⟩
  simp[hp] at hz;exact⟨p,z,a',C',hl',hz,hm'⟩
 rw[zaa.zaw _ _ _ _ hlt]
 have:p≠o:=by omega
 simp[this]
theorem heap_setCell_other (w:World)(a:Addr)(v:Value){b:Nat}(hb:b≠a.block):(w.setCell a v).heap[b]?=w.heap[b]?:=by
 have:a.block≠b:=fun h=>hb h.symm
 simp[World.setCell,Array.getElem?_modify,this]
theorem zel (b:Nat):∀(vs:List Value) (o:Nat) (w:World) {b':Nat},b'≠b→(w.setCells b o vs).heap[b']?=w.heap[b']?
 |[],_,_,_,_=>rfl
 |v::r,o,w,b',hb=>by
  show ((w.setCell ⟨b,o,none⟩ v).setCells b (o+1) r).heap[b']?=_
  rw[zel b r (o+1) _ hb,heap_setCell_other _ _ _ hb]
theorem zc5 (b:Nat):∀(vs:List Value) (o:Nat) (w:World),(w.setCells b o vs).heap.size=w.heap.size
 |[],_,_=>rfl
 |v::r,o,w=>by
  show ((w.setCell ⟨b,o,none⟩ v).setCells b (o+1) r).heap.size=_
  rw[zc5 b r (o+1) _];simp
def zcb (cs:List Value)(off:Nat)(vs:List Value):List Value:=cs.take off++vs++cs.drop (off+vs.length)
theorem zjy (cs:List Value)(off:Nat)(vs:List Value)(h:off+vs.length≤cs.length):(zcb cs off vs).length=cs.length:=by
 simp[zcb];omega
theorem ziq (cs:List Value)(off:Nat)(vs:List Value)(h:off+vs.length≤cs.length)(i:Nat) :
  (zcb cs off vs)[i]?=if off≤i∧i<off+vs.length then vs[i - off]? else cs[i]?:=by
 unfold zcb
 by_cases h1:i<off
 ·have:¬(off≤i∧i<off+vs.length):=by omega
  simp only[this,if_false]
  rw[List.append_assoc,List.getElem?_append_left (by simp;omega),List.getElem?_take];simp[h1]
 by_cases h2:i<off+vs.length
 ·have:off≤i∧i<off+vs.length:=by omega
  simp only[this,and_self,if_true]
  rw[List.append_assoc,List.getElem?_append_right (by simp;omega),List.getElem?_append_left (by simp;omega)]
  congr 1
  simp;omega
 have:¬(off≤i∧i<off+vs.length):=by omega
 simp only[this,if_false]
 rw[List.getElem?_append_right (by simp;omega),List.getElem?_drop]
 congr 1
 simp;omega
theorem zhd (b:Nat):∀(vs:List Value) (o:Nat) (w:World),Calm w (w.setCells b o vs)
 |[],_,w=>.refl w
 |v::r,o,w=>Calm.trans (by unfold World.setCell;split<;>exact⟨rfl,rfl⟩:Calm w (w.setCell ⟨b,o,none⟩ v)) (zhd b r (o+1) _)
theorem zj0 {μ:Mu}{lo:Nat}{h:zaa}{w:World}(r:Rel μ lo h w){o s:Nat}{cs:List Value}(hx:h.get o=some (.cells s cs))(hl:lo≤o){b a C:Nat}(hm:μ o=some (b,a,C))
  (off:Nat) (vs vs':List Value) (hv:zas μ vs vs') (hlen:off+vs.length≤cs.length) :
  Rel μ lo (h.put o (some (.cells s (zcb cs off vs)))) (w.setCells b (a+off) vs')∧Frame lo μ h w μ (h.put o (some (.cells s (zcb cs off vs)))) (w.setCells b (a+off) vs'):=by
 obtain⟨b',a',C',h1,h2⟩:=r.objs o _ hx
 rw[hm] at h1;injection h1 with h1;injection h1 with h1 h1';injection h1' with h1' h1'';subst h1 h1' h1''
 obtain⟨hb,hcs,hroom⟩:=h2
 have hthere:∀j,j<vs'.length→(w.cell? ⟨b,a+off+j,none⟩).isSome=true:=fun j hj=>by
  have hj':off+j<cs.length:=by have:=hv.1;omega
  obtain⟨v',h3,_⟩:=hcs (off+j) cs[off+j] (by simp[hj'])
  rw[show a+off+j=a+(off+j) by omega,h3];rfl
 refine zkw r hx hl hm _ (zc5 _ _ _ _) (fun b' hb'=>zel _ _ _ _ hb') ?_ (fun off'=>by rw[World.frozen?_setCells];exact r.thaw o _ b a C hl hx hm off') (zhd _ _ _ _)
 refine⟨by rw[zc5];exact hb,fun i v hi=>?_,fun h0=>?_⟩
 ·rw[ziq _ _ _ hlen] at hi
  by_cases hin:off≤i∧i<off+vs.length
  ·simp only[hin,and_self,if_true] at hi
   obtain⟨v',h3,h4⟩:=hv.2 _ v hi
   have hj:i - off<vs'.length:=by have:=hv.1;omega
   refine⟨v',?_,h4⟩
   have:=World.cell?_setCells_in b vs' (a+off) w hthere (i - off) hj
   rw[show a+off+(i - off)=a+i by omega] at this
   rw[this]
   rw[List.getElem?_eq_getElem hj] at h3
   exact h3
  simp only[hin,if_false] at hi
  obtain⟨v',h3,h4⟩:=hcs i v hi
  refine⟨v',?_,h4⟩
  rw[World.cell?_setCells_out b vs' (a+off) w _ (fun _ _=>by have:=hv.1;simp;omega)]
  exact h3
 rw[zjy _ _ _ hlen]
 refine⟨(hroom h0).1,fun i hi=>?_⟩
 obtain⟨v',h3⟩:=(hroom h0).2 i hi
 by_cases hin:off≤i∧i<off+vs'.length
 ·have hj:i - off<vs'.length:=by omega
  have:=World.cell?_setCells_in b vs' (a+off) w hthere (i - off) hj
  rw[show a+off+(i - off)=a+i by omega] at this
  exact⟨_,this⟩
 refine⟨v',?_⟩
 rw[World.cell?_setCells_out b vs' (a+off) w _ (fun _ _=>by simp;omega)]
 exact h3
end Go.Am
end
/-
 The abstract machine, part C: operations that make no call, and why what they do is what the model's do.
-/
section
namespace Go.Am
abbrev Tmps:=List Value
def zdg:Value→Bool
 |.bool _|.int _ _|.string _|.nilFunc|.nilIface|.pointer none|.map none=>true
 |.slice none 0 0=>true
 |_=>false
def zen:Value→Bool
 |.agg cs=>cs.toList.all zdg
 |.tuple cs=>cs.toList.all zdg
 |v=>zdg v
theorem RelV.zl3 {μ:Mu}{v:Value}(h:zdg v=true):RelV μ v v:=by
 unfold zdg at h
 split at h<;>first|exact .bool _|exact .int _ _|exact .string _|exact .nilFunc|exact .nilIface|exact .ptrNil|exact .mapNil|exact .sliceNil|cases h
theorem zas.zle {μ:Mu}{l:List Value}(h:l.all zdg=true):zas μ l l:=
 ⟨rfl,fun i v hv=>⟨v,hv,.zl3 (by rw[List.all_eq_true] at h;exact h v (List.mem_of_getElem? hv))⟩⟩
theorem RelV.zfv {μ:Mu}{v:Value}(h:zen v=true):RelV μ v v:=by
 unfold zen at h
 split at h
 ·have:=RelV.agg' (zas.zle (μ:=μ) h);simpa using this
 ·have:=RelV.tuple' (zas.zle (μ:=μ) h);simpa using this
 exact .zl3 h
def za7 (ts:Tmps):Operand→Option Value
 |.tmp t=>some (ts.getD t Go.undef)
 |.const v=>bif zen v then some v else none
 |.func f=>some (.func (.func f) #[] #[])
 |.global _=>none
def RelT (μ:Mu)(ts:Tmps)(tmps:Array Value):Prop:=zas μ ts tmps.toList
theorem RelT.mono {μ ν:Mu}(hle:μ.le ν){ts:Tmps}{tmps:Array Value}(h:RelT μ ts tmps):RelT ν ts tmps:=zas.mono hle h
theorem RelT.getD {μ:Mu}{ts:Tmps}{tmps:Array Value}(h:RelT μ ts tmps)(t:Nat):RelV μ (ts.getD t Go.undef) (tmps.getD t Go.undef):=by
 by_cases ht:t<ts.length
 ·obtain⟨v',h1,h2⟩:=h.2 t ts[t] (by simp[ht])
  have:t<tmps.size:=by have:=h.1;simp at this;omega
  simp[this] at h1
  simp[List.getD,ht,Array.getD,this,h1,h2]
 have:¬t<tmps.size:=by have:=h.1;simp at this;omega
 simp[List.getD,ht,Array.getD,this]
 exact .undef
theorem zan {μ:Mu}{ts:Tmps}{a:Act}(h:RelT μ ts a.tmps){x:Operand}{v:Value}(hv:za7 ts x=some v):RelV μ v (a.eval x):=by
 cases x with
 |tmp t=>simp only[za7,xfm] at hv;subst hv;exact h.getD t
 |const u=>
  simp only[za7] at hv
  cases hs:zen u with
  |true=>simp[hs] at hv;subst hv;exact .zfv hs
  |false=>simp[hs] at hv
 |func f=>simp only[za7,xfm] at hv;subst hv;exact .func f #[] #[] #[] #[] rfl rfl (fun i h=>by simp at h) (fun i h=>by simp at h)
 |global g=>simp[za7] at hv
def tsz (P:Program)(t:TypeId):Option Nat:=(P.info? t).map (·.size)
def zg8 (P:Program)(t:TypeId):Option (List Value):=
 match (P.info? t).bind (·.zero) with
 |some v=>bif zen v then some v.cells.toList else none
 |none=>none
def tagg (P:Program)(t:TypeId):Option Bool:=
 match P.underlying t with
 |some (.struct _)|some (.array _ _)=>some true
 |some _=>some false
 |none=>none
theorem zc6 {P:Program}{t:TypeId}{n:Nat}(h:tsz P t=some n)(w:World):(sizeOf t).run P w=.ok n w:=by
 unfold tsz at h
 cases hi:P.info? t with
 |none=>simp[hi] at h
 |some i=>simp[hi] at h;subst h;simp[sizeOf,typeInfo,hi]
theorem zez {P:Program}{t:TypeId}{z:List Value}(h:zg8 P t=some z)(w:World):∃v,(zeroValue t).run P w=.ok v w∧v.cells.toList=z∧zen v=true:=by
 unfold zg8 at h
 cases hi:P.info? t with
 |none=>simp[hi] at h
 |some i=>
  simp only[hi,Option.bind_some] at h
  cases hz:i.zero with
  |none=>simp[hz] at h
  |some v=>
   simp only[hz] at h
   cases hs:zen v with
   |false=>simp[hs] at h
   |true=>simp[hs] at h;exact⟨v,by simp[zeroValue,typeInfo,hi,hz],h,hs⟩
theorem zii {P:Program}{t:TypeId}{b:Bool}(h:tagg P t=some b)(w:World):(isAgg t).run P w=.ok b w:=by
 unfold tagg at h
 split at h
 ·rename_i hu;simp at h;subst h;simp[isAgg,run_underlying hu]
 ·rename_i hu;simp at h;subst h;simp[isAgg,run_underlying hu]
 ·rename_i d h1 h2 hu
  simp at h;subst h
  cases d<;>simp_all[isAgg,run_underlying hu]
 simp at h
theorem zhj {μ:Mu}{v:Value}(h:zen v=true):zas μ v.cells.toList v.cells.toList:=(RelV.zfv h).cells
def OpOK (P:Program)(lo:Nat)(s:Sem Value)(μ:Mu)(h:zaa)(w:World)(v:Value)(h':zaa):Prop:=
 ∃v' w' μ',s.run P w=.ok v' w'∧RelV μ' v v'∧Rel μ' lo h' w'∧Frame lo μ h w μ' h' w'
theorem OpOK.same {P:Program}{lo:Nat}{s:Sem Value}{μ:Mu}{h:zaa}{w:World}{v v':Value}(r:Rel μ lo h w)(hr:s.run P w=.ok v' w)(hv:RelV μ v v'):OpOK P lo s μ h w v h:=
 ⟨v',w,μ,hr,hv,r,Frame.refl _ _ _ _⟩
theorem zm5 {P:Program}{lo:Nat}{μ:Mu}{h:zaa}{w:World}(r:Rel μ lo h w)(t:TypeId)(arr:Array Value)(cs:List Value)(hc:zas μ cs arr.toList) :
  ∃μ',(newRow t arr).run P w=.ok ⟨w.heap.size,0,none⟩ (w.alloc (.cells arr t))∧μ' h.next=some (w.heap.size,0,0)∧Rel μ' lo (h.alloc (.cells 0 cs)) (w.alloc (.cells arr t))∧
   Frame lo μ h w μ' (h.alloc (.cells 0 cs)) (w.alloc (.cells arr t)):=by
 obtain⟨μ',h1,h2,h3⟩:=zh2 r arr t 0 0 cs (fun i v hv=>by obtain⟨v',h1,h2⟩:=hc.2 i v hv;exact⟨v',by simpa using h1,h2⟩) (fun h=>by omega)
 exact⟨μ',rfl,h1,h2,h3⟩
theorem zrl {P:Program}{lo:Nat}{μ:Mu}{h:zaa}{w:World}(r:Rel μ lo h w)(t:TypeId)(v v':Value)(hv:RelV μ v v') :
  OpOK P lo (do pure (.pointer (some (← newVar t v')))) μ h w (.pointer (some ⟨h.next,0,none⟩)) (h.alloc (.cells 0 v.cells.toList)):=by
 obtain⟨μ',h1,h2,h3,h4⟩:=zm5 (P:=P) r t v'.cells v.cells.toList hv.cells
 exact⟨_,_,μ',by simp[newVar,h1],.ptr _ 0 _ 0 0 h2,h3,h4⟩
def zl2 (P:Program)(h:zaa)(t:TypeId):Option (Value×zaa):=
 match zg8 P t with
 |some z=>some (.pointer (some ⟨h.next,0,none⟩),h.alloc (.cells 0 z))
 |none=>none
theorem zxh {P:Program}{lo:Nat}{μ:Mu}{h:zaa}{w:World}(r:Rel μ lo h w){t:TypeId}{v:Value}{h':zaa}(ha:zl2 P h t=some (v,h')) :
  OpOK P lo (Instr.alloc t true (.tuple #[])) μ h w v h':=by
 unfold zl2 at ha
 cases hz:zg8 P t with
 |none=>simp[hz] at ha
 |some z=>
  simp only[hz,xfm,xfn] at ha
  obtain⟨rfl,rfl⟩:=ha
  obtain⟨zv,h1,h2,h3⟩:=zez hz w
  obtain⟨v',w',μ',h4,h5⟩:=zrl (P:=P) r t zv zv (.zfv h3)
  rw[h2] at h5
  exact⟨v',w',μ',by simpa[Instr.alloc,h1] using h4,h5⟩
def abox (h:zaa)(v:Value):Value×zaa:=(.pointer (some ⟨h.next,0,none⟩),h.alloc (.cells 0 v.cells.toList))
theorem z5r {P:Program}{lo:Nat}{μ:Mu}{h:zaa}{w:World}(r:Rel μ lo h w)(t:TypeId){v v':Value}(hv:RelV μ v v') :
 OpOK P lo (Instr.box t v') μ h w (abox h v).1 (abox h v).2:=zrl r t v v' hv
def zjd (P:Program)(h:zaa)(t:TypeId)(p:Value):Option Value:=
 match p with
 |.pointer (some ⟨o,off,none⟩)=>
  match h.get o with
  |some (.cells _ cs)=>
   match tagg P t with
   |some true=>
    match tsz P t with
    |some n=>bif Nat.ble (off+n) cs.length then some (.agg ((cs.drop off).take n).toArray) else none
    |none=>none
   |some false=>cs[off]?
   |none=>none
  |_=>none
 |_=>none
theorem ze0 {μ:Mu}{lo:Nat}{h:zaa}{w:World}(r:Rel μ lo h w){o b a C:Nat}{x:AObj}(hx:h.get o=some x)(hm:μ o=some (b,a,C)):RelO μ w b a C x:=by
 obtain⟨b',a',C',h1,h2⟩:=r.objs o x hx
 rw[hm] at h1;injection h1 with h1;injection h1 with h1 h1';injection h1' with h1' h1'';subst h1 h1' h1''
 exact h2
theorem zd4 (b a n:Nat):(⟨b,a,none⟩:Addr).add n=⟨b,a+n,none⟩:=by unfold Addr.add;split<;>simp_all
theorem zif {μ:Mu}{w:World}{b a C s:Nat}{cs:List Value}(ho:RelO μ w b a C (.cells s cs))(off n:Nat)(hn:off+n≤cs.length) :
  ∃cs':List Value,zas μ ((cs.drop off).take n) cs'∧cs'.length=n∧∀j v,cs'[j]?=some v→w.cell? ((⟨b,a+off,none⟩:Addr).add j)=some v:=by
 obtain⟨_,hcs,_⟩:=ho
 have hex:∀i,i<cs.length→∃v',w.cell? ⟨b,a+i,none⟩=some v'∧∀v,cs[i]?=some v→RelV μ v v':=fun i hi=>by
  obtain⟨v',h1,h2⟩:=hcs i cs[i] (by simp[hi])
  exact⟨v',h1,fun v hv=>by simp[hi] at hv;subst hv;exact h2⟩
 refine⟨(List.range n).map fun j=>(w.cell? ⟨b,a+off+j,none⟩).getD Go.undef,⟨by simp;omega,fun i v hv=>?_⟩,by simp,fun j v hj=>?_⟩
 ·have hi:i<n:=by
   rcases Nat.lt_or_ge i n with h|h
   ·exact h
   rw[List.getElem?_eq_none (by simp;omega)] at hv;simp at hv
  obtain⟨v',h1,h2⟩:=hex (off+i) (by omega)
  refine⟨v',by simp[hi,show a+off+i=a+(off+i) by omega,h1],h2 v ?_⟩
  rw[List.getElem?_take,if_pos hi,List.getElem?_drop] at hv
  exact hv
 have hi:j<n:=by
  rcases Nat.lt_or_ge j n with h|h
  ·exact h
  rw[List.getElem?_eq_none (by simp;omega)] at hj;simp at hj
 obtain⟨v',h1,h2⟩:=hex (off+j) (by omega)
 simp[hi] at hj
 rw[zd4,← hj,show a+off+j=a+(off+j) by omega,h1]
 rfl
theorem zo2 {P:Program}{lo:Nat}{μ:Mu}{h:zaa}{w:World}(r:Rel μ lo h w){t:TypeId}{p p' v:Value}(hp:RelV μ p p')(ha:zjd P h t p=some v) :
  OpOK P lo (Instr.loadAt t p') μ h w v h:=by
 unfold zjd at ha
 split at ha
 ·rename_i o off
  cases hp with
  |ptr _ _ b a C hm=>
   split at ha
   ·rename_i s cs hx
    have ho:=ze0 r hx hm
    split at ha
    ·rename_i hg
     split at ha
     ·rename_i n hn
      cases hle:Nat.ble (off+n) cs.length with
      |false=>simp[hle] at ha
      |true=>
       simp only[hle,xfp,xfm] at ha;subst ha
       obtain⟨cs',h1,h2,h3⟩:=zif ho off n (by simpa using hle)
       refine .same r (v':=.agg cs'.toArray) ?_ (.agg' h1)
       have hl:=run_loadCells_list (P:=P) w _ cs' h3
       rw[h2] at hl
       simp[Instr.loadAt,Instr.sureAddr,loadVar,zii hg,zc6 hn,hl]
     simp at ha
    ·rename_i hg
     obtain⟨v',h1,h2⟩:=ho.2.1 off v ha
     exact .same r (v':=v') (by simp[Instr.loadAt,Instr.sureAddr,loadVar,zii hg,h1]) h2
    simp at ha
   simp at ha
 simp at ha
def zj6 (P:Program)(lo:Nat)(h:zaa)(t:TypeId)(p v:Value):Option zaa:=
 match p with
 |.pointer (some ⟨o,off,none⟩)=>
  match h.get o,tsz P t with
  |some (.cells s cs),some n=>
   bif Nat.ble lo o&&Nat.beq v.cells.toList.length n&&v.cells.toList.all (·.oneCell')&&Nat.ble (off+n) cs.length then
    some (h.put o (some (.cells s (zcb cs off v.cells.toList)))) else none
  |_,_=>none
 |_=>none
theorem zlh {μ:Mu}{l l':List Value}(h:zas μ l l')(ha:l.all (·.oneCell')=true):∀v∈l',v.oneCell'=true:=by
 intro v hv
 obtain⟨i,hi⟩:=List.getElem?_of_mem hv
 have hlt:i<l.length:=by
  have:=h.1
  rcases Nat.lt_or_ge i l.length with h'|h'
  ·exact h'
  rw[List.getElem?_eq_none (by omega)] at hi;simp at hi
 obtain⟨v',h1,h2⟩:=h.2 i l[i] (by simp[hlt])
 rw[hi] at h1;injection h1 with h1;subst h1
 rw[h2.z2n]
 rw[List.all_eq_true] at ha
 exact ha _ (List.getElem_mem hlt)
theorem zd7 {P:Program}{lo:Nat}{μ:Mu}{h:zaa}{w:World}(r:Rel μ lo h w){o s:Nat}{cs:List Value}(hx:h.get o=some (.cells s cs))(hl:lo≤o){b a C:Nat}(hm:μ o=some (b,a,C))
  (off:Nat) (vs vs':List Value) (hv:zas μ vs vs') (hone:vs.all (·.oneCell')=true) (hlen:off+vs.length≤cs.length) :
  (storeCells ⟨b,a+off,none⟩ vs').run P w=.ok () (w.setCells b (a+off) vs'):=by
 have ho:=ze0 r hx hm
 have:=run_storeCells_cells (P:=P) b (a+off) vs' 0 w (fun j hj=>by
   have hj':off+j<cs.length:=by have:=hv.1;omega
   obtain⟨v',h3,_⟩:=ho.2.1 (off+j) cs[off+j] (by simp[hj'])
   rw[show a+off+0+j=a+(off+j) by omega,h3];rfl)
  (fun j hj=>r.thaw o _ b a C hl hx hm _) (zlh hv hone)
 simpa using this
theorem zxs {P:Program}{lo:Nat}{μ:Mu}{h:zaa}{w:World}(r:Rel μ lo h w){t:TypeId}{p p' v v':Value}{h':zaa}(hp:RelV μ p p')(hv:RelV μ v v')(ha:zj6 P lo h t p v=some h') :
  ∃w',(Instr.storeAt t p' v').run P w=.ok () w'∧Rel μ lo h' w'∧Frame lo μ h w μ h' w':=by
 unfold zj6 at ha
 split at ha
 ·rename_i o off
  cases hp with
  |ptr _ _ b a C hm=>
   split at ha
   ·rename_i s cs n hx hn
    cases hc:(Nat.ble lo o&&Nat.beq v.cells.toList.length n&&v.cells.toList.all (·.oneCell')&&Nat.ble (off+n) cs.length) with
    |false=>rw[hc] at ha;simp at ha
    |true=>
     rw[hc] at ha
     simp only[xfp,xfm] at ha;subst ha
     simp only[xfr] at hc
     obtain⟨⟨⟨h1,h2⟩,h3⟩,h4⟩:=hc
     have h1:lo≤o:=by simpa using h1
     have h2:v.cells.toList.length=n:=by simpa using h2
     have h4:off+n≤cs.length:=by simpa using h4
     obtain⟨h5,h6⟩:=zj0 r hx h1 hm off v.cells.toList v'.cells.toList hv.cells (by omega)
     refine⟨_,?_,h5,h6⟩
     have hst:=zd7 (P:=P) r hx h1 hm off _ _ hv.cells h3 (by omega)
     have hsz:v'.cells.size=n:=by have:=hv.cells.1;simp at this h2;omega
     simp[Instr.storeAt,Instr.sureAddr,storeVar,zc6 hn,hsz,hst]
   simp at ha
 simp at ha
end Go.Am
end
/-
 The abstract machine, part D: addresses, parts of values, arithmetic.
-/
section
namespace Go.Am
def zbk (P:Program)(s:TypeId)(f:Nat):Option (TypeId×Nat×Nat):=
 match P.underlying s with
 |some (.struct fields)=>
  match fields.toList[f]? with
  |some fd=>match tsz P fd.type with
   |some n=>some (fd.type,fd.offset,n)
   |none=>none
  |none=>none
 |_=>none
theorem znm {P:Program}{s:TypeId}{f:Nat}{ty:TypeId}{off n:Nat}(h:zbk P s f=some (ty,off,n)) :
  ∃fields fd,P.underlying s=some (.struct fields)∧fields[f]?=some fd∧fd.type=ty∧fd.offset=off∧tsz P fd.type=some n:=by
 unfold zbk at h
 split at h
 ·rename_i fields hu
  split at h
  ·rename_i fd hf
   split at h
   ·rename_i m hm
    simp only[xfm,xfn] at h
    obtain⟨h1,h2,h3⟩:=h
    exact⟨fields,fd,hu,by simpa using hf,h1,h2,by rw[hm,h3]⟩
   simp at h
  simp at h
 simp at h
def zfg (P:Program)(s:TypeId)(p:Value)(f:Nat):Option Value:=
 match p,zbk P s f with
 |.pointer (some ⟨o,off,none⟩),some (_,fo,n)=>bif Nat.beq n 0 then none else some (.pointer (some ⟨o,off+fo,none⟩))
 |_,_=>none
theorem zow {P:Program}{μ:Mu}{w:World}{s:TypeId}{f:Nat}{p p' v:Value}(hp:RelV μ p p')(ha:zfg P s p f=some v) :
  ∃v',(Instr.fieldAt s p' f).run P w=.ok v' w∧RelV μ v v':=by
 unfold zfg at ha
 split at ha
 ·rename_i o off ty fo n hf
  obtain⟨fields,fd,h1,h2,h3,h4,h5⟩:=znm hf
  cases hn:Nat.beq n 0 with
  |true=>simp[hn] at ha
  |false=>
   simp only[hn,xfq,xfm] at ha;subst ha
   cases hp with
   |ptr _ _ b a C hm=>
    have hn':n≠0:=by intro h;subst h;simp at hn
    refine⟨_,?_,.ptr o (off+fo) b a C hm⟩
    simp[Instr.fieldAt,run_underlying h1,h2,Instr.sureAddr,fieldPlace,zc6 h5,hn',zd4,h4,Nat.add_assoc]
 simp at ha
def zc8 (P:Program)(t:TypeId):Option (TypeId×Nat):=
 match P.underlying t with
 |some (.slice e)=>match tsz P e with
  |some n=>some (e,n)
  |none=>none
 |_=>none
theorem zc2 {P:Program}{t e:TypeId}{n:Nat}(h:zc8 P t=some (e,n)):P.underlying t=some (.slice e)∧tsz P e=some n:=by
 unfold zc8 at h
 split at h
 ·rename_i e' hu
  split at h
  ·rename_i m hm
   simp only[xfm,xfn] at h
   obtain⟨rfl,rfl⟩:=h
   exact⟨hu,hm⟩
  simp at h
 simp at h
def tarr (P:Program)(t:TypeId):Option (Nat×TypeId×Nat):=
 match P.underlying t with
 |some (.array len e)=>match tsz P e with
  |some n=>some (len,e,n)
  |none=>none
 |_=>none
theorem zqt {P:Program}{t e:TypeId}{len n:Nat}(h:tarr P t=some (len,e,n)):P.underlying t=some (.array len e)∧tsz P e=some n:=by
 unfold tarr at h
 split at h
 ·rename_i l' e' hu
  split at h
  ·rename_i m hm
   simp only[xfm,xfn] at h
   obtain⟨rfl,rfl,rfl⟩:=h
   exact⟨hu,hm⟩
  simp at h
 simp at h
def within (i:Int)(n:Nat):Option Nat:=
 match i with
 |.ofNat k=>bif Nat.blt k n then some k else none
 |.negSucc _=>none
theorem zjm {i:Int}{n k:Nat}(h:within i n=some k):i=(k:Int)∧k<n:=by
 unfold within at h
 split at h
 ·rename_i j
  cases hj:Nat.blt j n with
  |false=>simp[hj] at h
  |true=>simp[hj] at h;subst h;rw[Nat.blt_eq] at hj;exact⟨rfl,hj⟩
 simp at h
def zc9 (P:Program)(t:TypeId)(x i:Value):Option Value:=
 match x,i with
 |.slice (some ⟨o,off,none⟩) len _,.int _ n=>
  match zc8 P t,within n len with
  |some (_,sz),some k=>some (.pointer (some ⟨o,off+k*sz,none⟩))
  |_,_=>none
 |.pointer (some ⟨o,off,none⟩),.int _ n=>
  match tarr P t with
  |some (len,_,sz)=>
   match within n len with
   |some k=>some (.pointer (some ⟨o,off+k*sz,none⟩))
   |none=>none
  |none=>none
 |_,_=>none
theorem zoz {P:Program}{μ:Mu}{w:World}{t:TypeId}{x x' i i' v:Value}(hx:RelV μ x x')(hi:RelV μ i i')(ha:zc9 P t x i=some v) :
  ∃v',(Instr.indexAt t x' i').run P w=.ok v' w∧RelV μ v v':=by
 unfold zc9 at ha
 split at ha
 ·rename_i o off len k kd n
  cases hi with
  |int=>
  split at ha
  ·rename_i e sz kk h1 h2
   obtain⟨h3,h4⟩:=zc2 h1
   obtain⟨rfl,h6⟩:=zjm h2
   simp only[xfm] at ha;subst ha
   cases hx with
   |slice _ _ _ _ b a C hm hl hk=>
    refine⟨_,?_,.ptr o (off+kk*sz) b a C hm⟩
    simp[Instr.indexAt,asIntOf,run_underlying h3,zc6 h4,zd4,h6,Nat.add_assoc]
   |sliceZ=>omega
   |slice0=>omega
  simp at ha
 ·rename_i o off kd n
  cases hi with
  |int=>
  split at ha
  ·rename_i len e sz h1
   obtain⟨h3,h4⟩:=zqt h1
   split at ha
   ·rename_i kk h2
    obtain⟨rfl,h6⟩:=zjm h2
    simp only[xfm] at ha;subst ha
    cases hx with
    |ptr _ _ b a C hm=>
     refine⟨_,?_,.ptr o (off+kk*sz) b a C hm⟩
     simp[Instr.indexAt,asIntOf,run_underlying h3,Instr.sureAddr,zc6 h4,zd4,h6,Nat.add_assoc]
   simp at ha
  simp at ha
 simp at ha
def apart (P:Program)(t:TypeId)(cs:List Value)(off n:Nat):Option Value:=
 match tagg P t with
 |some true=>bif Nat.ble (off+n) cs.length then some (.agg ((cs.drop off).take n).toArray) else none
 |some false=>cs[off]?
 |none=>none
theorem zlu {P:Program}{μ:Mu}{w:World}{t:TypeId}{cs cs':Array Value}{off n:Nat}{v:Value}(hc:zas μ cs.toList cs'.toList)(hn:tsz P t=some n)(ha:apart P t cs.toList off n=some v) :
  ∃v',(part t cs' off).run P w=.ok v' w∧RelV μ v v':=by
 unfold apart at ha
 split at ha
 ·rename_i hg
  cases hle:Nat.ble (off+n) cs.toList.length with
  |false=>rw[hle] at ha;simp at ha
  |true=>
   rw[hle] at ha
   simp only[xfp,xfm] at ha;subst ha
   refine⟨_,?_,.agg' ((hc.drop off).take n)⟩
   have he:cs'.extract off (off+n)=((cs'.toList.drop off).take n).toArray:=by
    apply Array.ext'
    simp[List.extract_eq_take_drop]
   simp[part,zii hg,zc6 hn,he]
 ·rename_i hg
  obtain⟨v',h1,h2⟩:=hc.2 off v ha
  have h1':cs'[off]?=some v':=by simpa using h1
  exact⟨v',by simp[part,zii hg,h1'],h2⟩
 simp at ha
def zou (P:Program)(t:TypeId)(x:Value)(f:Nat):Option Value:=
 match x,zbk P t f with
 |.agg cs,some (ty,off,n)=>apart P ty cs.toList off n
 |_,_=>none
theorem zxc {P:Program}{μ:Mu}{w:World}{t:TypeId}{f:Nat}{x x' v:Value}(hx:RelV μ x x')(ha:zou P t x f=some v) :
  ∃v',(Instr.field t x' f).run P w=.ok v' w∧RelV μ v v':=by
 unfold zou at ha
 split at ha
 ·rename_i cs ty off n hf
  obtain⟨fields,fd,h1,h2,h3,h4,h5⟩:=znm hf
  obtain⟨cs',rfl,hc⟩:=hx.zmw
  obtain⟨v',h6,h7⟩:=zlu (w:=w) hc (h3▸h5) ha
  exact⟨v',by simp[Instr.field,run_underlying h1,h2,asAgg,h3,h4,h6],h7⟩
 simp at ha
def zll (P:Program)(t:TypeId)(x i:Value):Option Value:=
 match x,i with
 |.agg cs,.int _ n=>
  match tarr P t with
  |some (len,e,sz)=>
   match within n len with
   |some k=>apart P e cs.toList (k*sz) sz
   |none=>none
  |none=>none
 |.string s,.int _ n=>
  match P.underlying t,n with
  |some .string,.ofNat k=>match s.data.toList[k]? with
   |some b=>some (.int .u8 b.toNat)
   |none=>none
  |_,_=>none
 |_,_=>none
theorem zx5 {P:Program}{μ:Mu}{w:World}{t:TypeId}{x x' i i' v:Value}(hx:RelV μ x x')(hi:RelV μ i i')(ha:zll P t x i=some v) :
  ∃v',(Instr.index t x' i').run P w=.ok v' w∧RelV μ v v':=by
 unfold zll at ha
 split at ha
 ·rename_i cs kd n
  cases hi with
  |int=>
  split at ha
  ·rename_i len e sz h1
   obtain⟨h3,h4⟩:=zqt h1
   split at ha
   ·rename_i kk h2
    obtain⟨rfl,h6⟩:=zjm h2
    obtain⟨cs',rfl,hc⟩:=hx.zmw
    obtain⟨v',h7,h8⟩:=zlu (w:=w) hc h4 ha
    exact⟨v',by simp[Instr.index,asIntOf,run_underlying h3,zc6 h4,h6,h7],h8⟩
   simp at ha
  simp at ha
 ·rename_i s kd n
  cases hi with
  |int=>
  cases hx with
  |string=>
  split at ha
  ·rename_i k hu
   split at ha
   ·rename_i b hb
    simp only[xfm] at ha;subst ha
    have h1:s[k]?=some b:=by
     have hlt:k<s.data.toList.length:=by
      rcases Nat.lt_or_ge k s.data.toList.length with h|h
      ·exact h
      rw[List.getElem?_eq_none h] at hb;cases hb
     have hlt':k<s.size:=by rw[ByteArray.size,← Array.length_toList];exact hlt
     rw[getElem?_pos s k hlt']
     rw[List.getElem?_eq_getElem hlt] at hb
     injection hb with hb
     rw[← hb]
     rfl
    refine⟨.int .u8 b.toNat,?_,.int .u8 b.toNat⟩
    have h0:(0:Int)≤Int.ofNat k:=Int.natCast_nonneg k
    have h2:(Int.ofNat k).toNat=k:=rfl
    simp only[Instr.index,asIntOf,Sem.run_bind,Sem.run_pure,Result.andThen_ok,run_underlying hu,h0,if_true,h2,h1]
   simp at ha
  simp at ha
 simp at ha
def zhg (x:Value)(i:Nat):Option Value:=
 match x with
 |.tuple vs=>vs.toList[i]?
 |_=>none
theorem zmf {P:Program}{μ:Mu}{w:World}{i:Nat}{x x' v:Value}(hx:RelV μ x x')(ha:zhg x i=some v) :
  ∃v',(Instr.extract x' i).run P w=.ok v' w∧RelV μ v v':=by
 unfold zhg at ha
 split at ha
 ·obtain⟨cs',rfl,hc⟩:=hx.zqq
  obtain⟨v',h1,h2⟩:=hc.2 i v ha
  have h1':cs'[i]?=some v':=by simpa using h1
  exact⟨v',by simp[Instr.extract,h1'],h2⟩
 simp at ha
def zj3 (place:Nat→Option (Nat×Nat)):List Value→List (Nat×Value)→Option (List Value)
 |cells,[]=>some cells
 |cells,(i,v)::rest=>
  match place i with
  |none=>none
  |some (off,size)=>
   bif Nat.beq v.cells.toList.length size&&Nat.ble (off+v.cells.toList.length) cells.length then zj3 place (zcb cells off v.cells.toList) rest else none
theorem zln (vs:List Value):∀(k off:Nat) (arr:Array Value),off+k+vs.length≤arr.size→
  ((vs.zipIdx k).foldl (fun cs (x:Value×Nat)=>cs.setIfInBounds (off+x.2) x.1) arr).toList=zcb arr.toList (off+k) vs:=by
 induction vs with
 |nil=>intro k off arr h;simp[zcb]
 |cons v r ih=>
  intro k off arr h
  simp only[List.length_cons] at h
  simp only[List.zipIdx_cons,List.foldl_cons]
  rw[ih (k+1) off _ (by simp;omega)]
  apply List.ext_getElem?
  intro j
  rw[ziq _ _ _ (by simp;omega),ziq _ _ _ (by simp;omega)]
  simp only[Array.toList_setIfInBounds,List.length_cons]
  by_cases h1:j=off+k
  ·subst h1
   have e1:¬(off+(k+1)≤off+k∧off+k<off+(k+1)+r.length):=by omega
   have e2:off+k≤off+k∧off+k<off+k+(r.length+1):=by omega
   simp only[e1,e2,and_self,if_true,if_false]
   rw[List.getElem?_set_self (by simp;omega)]
   simp
  rw[List.getElem?_set_ne (by omega)]
  by_cases h2:off+(k+1)≤j∧j<off+(k+1)+r.length
  ·have e2:off+k≤j∧j<off+k+(r.length+1):=by omega
   simp only[h2,e2,and_self,if_true]
   rw[show j - (off+k)=(j - (off+(k+1)))+1 by omega,List.getElem?_cons_succ]
  have e2:¬(off+k≤j∧j<off+k+(r.length+1)):=by omega
  simp only[h2,e2,if_false]
def RelP (μ:Mu)(l l':List (Nat×Value)):Prop:=l.map (·.1)=l'.map (·.1)∧zas μ (l.map (·.2)) (l'.map (·.2))
theorem zvp {μ:Mu}{cs cs' vs vs':List Value}{off:Nat}(hc:zas μ cs cs')(hv:zas μ vs vs'):zas μ (zcb cs off vs) (zcb cs' off vs'):=by
 unfold zcb
 rw[← hv.1]
 exact((hc.take off).append hv).append (hc.drop _)
theorem zlz {μ:Mu}(place:Nat→Option (Nat×Nat)):∀(l l':List (Nat×Value)) (cs:List Value) (arr:Array Value) (out:List Value),
  RelP μ l l'→zas μ cs arr.toList→zj3 place cs l=some out→∃out',Instr.fill place arr l'=some out'∧zas μ out out'.toList:=by
 intro l
 induction l with
 |nil=>
  intro l' cs arr out hl hc ha
  have:l'=[]:=by have:=hl.1;simp at this;exact this
  subst this
  simp only[zj3,xfm] at ha;subst ha
  exact⟨arr,rfl,hc⟩
 |cons p rest ih=>
  intro l' cs arr out hl hc ha
  obtain⟨i,v⟩:=p
  cases l' with
  |nil=>have:=hl.1;simp at this
  |cons p' rest'=>
   obtain⟨i',v'⟩:=p'
   have h1:=hl.1
   simp only[List.map_cons,List.cons.injEq] at h1
   obtain⟨rfl,h1⟩:=h1
   obtain⟨u,l2,hu,hv,h2⟩:=zas.zax (by simpa using hl.2)
   simp only[List.cons.injEq] at hu
   obtain⟨rfl,rfl⟩:=hu
   simp only[zj3] at ha
   cases hp:place i with
   |none=>simp[hp] at ha
   |some q=>
    obtain⟨off,size⟩:=q
    simp only[hp] at ha
    cases hcnd:(Nat.beq v.cells.toList.length size&&Nat.ble (off+v.cells.toList.length) cs.length) with
    |false=>rw[hcnd] at ha;simp at ha
    |true=>
     rw[hcnd] at ha
     simp only[xfp] at ha
     simp only[xfr] at hcnd
     have e1:v.cells.toList.length=size:=by simpa using hcnd.1
     have e2:off+v.cells.toList.length≤cs.length:=by simpa using hcnd.2
     have hvl:v'.cells.toList.length=v.cells.toList.length:=hv.cells.1.symm
     have hal:arr.toList.length=cs.length:=hc.1.symm
     have hz:(v'.cells.zipIdx.foldl (fun cs (x:Value×Nat)=>cs.setIfInBounds (off+x.2) x.1) arr).toList=zcb arr.toList off v'.cells.toList:=by
      have:=zln v'.cells.toList 0 off arr (by simp at hvl hal e2 ⊢;omega)
      rw[← Array.foldl_toList,Array.toList_zipIdx]
      simpa using this
     have hs:v'.cells.size=size:=by simp at hvl e1 ⊢;omega
     have hs2:¬(off+v'.cells.size > arr.size):=by simp at hal e2 hvl;omega
     obtain⟨out',h3,h4⟩:=ih rest' _ (v'.cells.zipIdx.foldl (fun cs (x:Value×Nat)=>cs.setIfInBounds (off+x.2) x.1) arr) out ⟨h1,h2⟩ (by rw[hz];exact zvp hc hv.cells) ha
     refine⟨out',?_,h4⟩
     simp only[Instr.fill,hp]
     rw[if_neg (by simp[hs];omega)]
     exact h3
end Go.Am
end
/-
 The abstract machine, part E: composite values, slices, arithmetic.
-/
section
namespace Go.Am
def zkz (P:Program):List Field→Option (List (Nat×Nat))
 |[]=>some []
 |f::fs=>match tsz P f.type,zkz P fs with
  |some n,some r=>some ((f.offset,n)::r)
  |_,_=>none
theorem run_places {P:Program}{w:World}:∀ {fs:List Field} {l:List (Nat×Nat)},zkz P fs=some l→
  (fs.mapM (fun f=>(sizeOf f.type >>= fun s=>pure (f.offset,s):Sem (Nat×Nat)))).run P w=.ok l w
 |[],l,h=>by simp only[zkz,xfm] at h;subst h;simp only[List.mapM_nil,Sem.run_pure]
 |f::fs,l,h=>by
  simp only[zkz] at h
  split at h
  ·rename_i n r h1 h2
   simp only[xfm] at h;subst h
   simp only[List.mapM_cons,Sem.run_bind,zc6 h1,Result.andThen_ok,Sem.run_pure,run_places h2]
  simp at h
def zmj (P:Program)(t:TypeId)(parts:List (Nat×Value)):Option Value:=
 match zg8 P t,P.underlying t with
 |some z,some (.struct fields)=>
  match zkz P fields.toList with
  |some l=>(zj3 (l[·]?) z parts).map fun cs=>.agg cs.toArray
  |none=>none
 |some z,some (.array _ e)=>
  match tsz P e with
  |some n=>(zj3 (fun i=>some (i*n,n)) z parts).map fun cs=>.agg cs.toArray
  |none=>none
 |_,_=>none
theorem zws {P:Program}{μ:Mu}{w:World}{t:TypeId}{parts:List (Nat×Value)}{parts':Array (Nat×Value)}{v:Value}(hp:RelP μ parts parts'.toList)(ha:zmj P t parts=some v) :
  ∃v',(Instr.build t parts').run P w=.ok v' w∧RelV μ v v':=by
 unfold zmj at ha
 split at ha
 ·rename_i z fields hz hu
  obtain⟨zv,h1,h2,h3⟩:=zez hz w
  split at ha
  ·rename_i l hl
   cases hf:zj3 (l[·]?) z parts with
   |none=>rw[hf] at ha;simp at ha
   |some cs=>
    rw[hf] at ha;simp at ha;subst ha
    obtain⟨out,h4,h5⟩:=zlz (μ:=μ) (l[·]?) parts parts'.toList z zv.cells cs hp (h2▸zhj h3) hf
    have hpl:=run_places (w:=w) hl
    have hpl':(fields.mapM (fun f=>(sizeOf f.type >>= fun s=>pure (f.offset,s):Sem (Nat×Nat)))).run P w=.ok l.toArray w:=by
     rw[Array.mapM_eq_mapM_toList,Sem.run_map,hpl,Result.andThen_ok]
    refine⟨.agg out,?_,.agg _ _ ?_ ?_⟩
    ·have h4':Instr.fill (fun i=>l.toArray[i]?) zv.cells parts'.toList=some out:=by simpa using h4
     simp only[Instr.build,Sem.run_bind,h1,Result.andThen_ok,run_underlying hu,hpl',h4',Sem.run_pure]
    ·exact((zba (cs:=cs.toArray)).1 (by simpa using h5)).1
    exact((zba (cs:=cs.toArray)).1 (by simpa using h5)).2
  simp at ha
 ·rename_i z len e hz hu
  obtain⟨zv,h1,h2,h3⟩:=zez hz w
  split at ha
  ·rename_i n hn
   cases hf:zj3 (fun i=>some (i*n,n)) z parts with
   |none=>rw[hf] at ha;simp at ha
   |some cs=>
    rw[hf] at ha;simp at ha;subst ha
    obtain⟨out,h4,h5⟩:=zlz (μ:=μ) (fun i=>some (i*n,n)) parts parts'.toList z zv.cells cs hp (h2▸zhj h3) hf
    refine⟨.agg out,?_,.agg _ _ ?_ ?_⟩
    ·simp[Instr.build,h1,run_underlying hu,zc6 hn,h4]
    ·exact((zba (cs:=cs.toArray)).1 (by simpa using h5)).1
    exact((zba (cs:=cs.toArray)).1 (by simpa using h5)).2
  simp at ha
 simp at ha
def reps (z:List Value):Nat→List Value
 |0=>[]
 |n+1=>z++reps z n
theorem zhm (z:List Value):∀n,(reps z n).length=n*z.length
 |0=>by simp[reps]
 |n+1=>by simp[reps,zhm z n,Nat.succ_mul];omega
theorem zu1 (z:List Value):∀(n i:Nat),i<n*z.length→(reps z n)[i]?=z[i % z.length]?
 |0,i,h=>by simp at h
 |n+1,i,h=>by
  have hz:0<z.length:=by
   rcases Nat.eq_zero_or_pos z.length with h0|h0
   ·rw[h0] at h;simp at h
   exact h0
  by_cases hi:i<z.length
  ·rw[reps,List.getElem?_append_left hi,Nat.mod_eq_of_lt hi]
  rw[reps,List.getElem?_append_right (by omega),zu1 z n (i - z.length) (by rw[Nat.succ_mul] at h;omega)]
  rw[Nat.mod_eq_sub_mod (by omega:i≥z.length)]
theorem range_zero (z:Array Value)(n:Nat):((Array.range (n*z.size)).map fun i=>z[i % z.size]!).toList=reps z.toList n:=by
 apply List.ext_getElem?
 intro i
 by_cases hi:i<n*z.size
 ·rw[zu1 _ _ _ (by simpa using hi)]
  have hz:0<z.size:=by
   rcases Nat.eq_zero_or_pos z.size with h0|h0
   ·rw[h0] at hi;simp at hi
   exact h0
  have hm:i % z.size<z.size:=Nat.mod_lt _ hz
  simp[hi,hm]
 rw[List.getElem?_eq_none (by simp;omega),List.getElem?_eq_none (by rw[zhm];simp;omega)]
theorem zin {μ:Mu}{z z':List Value}(h:zas μ z z'):∀n,zas μ (reps z n) (reps z' n)
 |0=>zas.nil μ
 |n+1=>h.append (zin h n)
def zdy (P:Program)(h:zaa)(t:TypeId)(len:Nat)(parts:List (Nat×Value)):Option (Value×zaa):=
 match zc8 P t with
 |some (e,n)=>
  match zg8 P e with
  |some z=>
   bif Nat.beq z.length n&&Nat.ble (len*n) 16777216&&Nat.blt 0 n then
    match zj3 (fun i=>some (i*n,n)) (reps z len) parts with
    |some cs=>some (.slice (some ⟨h.next,0,none⟩) len len,h.alloc (.cells 0 cs))
    |none=>none
   else none
  |none=>none
 |none=>none
theorem zcr {C k:Nat}(h:k<inex):zcy C k=k:=by simp[zcy,h]
theorem zn6 {P:Program}{lo:Nat}{μ:Mu}{h:zaa}{w:World}(r:Rel μ lo h w){t:TypeId}{len:Nat}{parts:List (Nat×Value)}{parts':Array (Nat×Value)}{v:Value}{h':zaa}
  (hp:RelP μ parts parts'.toList) (ha:zdy P h t len parts=some (v,h')):OpOK P lo (Instr.buildSlice t len parts') μ h w v h':=by
 unfold zdy at ha
 split at ha
 ·rename_i e n he
  obtain⟨hu,hn⟩:=zc2 he
  split at ha
  ·rename_i z hz
   obtain⟨zv,h1,h2,h3⟩:=zez hz w
   cases hc:(Nat.beq z.length n&&Nat.ble (len*n) 16777216&&Nat.blt 0 n) with
   |false=>rw[hc] at ha;simp at ha
   |true=>
    rw[hc] at ha
    simp only[xfp] at ha
    simp only[xfr] at hc
    obtain⟨⟨hc1,hc2⟩,hc3⟩:=hc
    have hc1:z.length=n:=by simpa using hc1
    have hc2:len*n≤16777216:=by simpa using hc2
    have hc3:0<n:=by rw[Nat.blt_eq] at hc3;exact hc3
    split at ha
    ·rename_i cs hf
     simp only[xfm,xfn] at ha
     obtain⟨rfl,rfl⟩:=ha
     have hzs:zv.cells.size=n:=by rw[← hc1,← h2];simp
     have hlen:len≤16777216:=Nat.le_trans (Nat.le_mul_of_pos_right len hc3) hc2
     have hrep:zas μ (reps z len) ((Array.range (len*n)).map (zv.cells[· % zv.cells.size]!)).toList:=by
      have:=range_zero zv.cells len
      rw[hzs] at this ⊢
      rw[this,h2]
      exact zin (h2▸zhj h3) len
     obtain⟨out,h4,h5⟩:=zlz (μ:=μ) (fun i=>some (i*n,n)) parts parts'.toList (reps z len) _ cs hp hrep hf
     obtain⟨μ',h6,h7,h8,h9⟩:=zm5 (P:=P) r e out cs h5
     have hcap:len=zcy 0 len:=by rw[zcr];unfold inex;omega
     refine⟨.slice (some ⟨w.heap.size,0,none⟩) len len,_,μ',?_,?_,h8,h9⟩
     ·have hno:¬(len*n > 2 ^ 24):=by omega
      by_cases h0:len*n=0
      ·have hl0:len=0:=by
        rcases Nat.mul_eq_zero.1 h0 with h|h
        ·exact h
        omega
       subst hl0
       have hr0:Array.range 0=#[]:=rfl
       rw[Nat.zero_mul,hr0] at h4
       simp only[List.map_toArray,List.map_nil] at h4
       simp[Instr.buildSlice,run_underlying hu,zc6 hn,hr0,h4,h6]
      simp[Instr.buildSlice,run_underlying hu,zc6 hn,hno,h0,h1,h4,h6]
     have:=RelV.slice h.next 0 len len w.heap.size 0 0 h7 (Nat.le_of_eq hcap) (by unfold unk;omega)
     rwa [← hcap] at this
    simp at ha
  simp at ha
 simp at ha
def zfh (P:Program)(h:zaa)(t:TypeId)(l c:Value):Option (Value×zaa):=
 match l,c,zc8 P t with
 |.int .i64 (.ofNat l),.int .i64 (.ofNat c),some (e,n)=>
  match zg8 P e,(P.info? e).map (·.bytes) with
  |some z,some bytes=>
   bif Nat.beq z.length n&&Nat.ble l c&&Nat.ble (bytes*c) 281474976710656&&Nat.blt 0 n&&Nat.ble c 281474976710656 then
    some (.slice (some ⟨h.next,0,none⟩) l c,h.alloc (.cells 0 (reps z c)))
   else none
  |_,_=>none
 |_,_,_=>none
theorem zgd {n:Nat}(h:n≤281474976710656):IntKind.i64.wrap (n:Int)=n:=by
 simp[IntKind.wrap,IntKind.signed,IntKind.bits]
 omega
theorem zo6 {P:Program}{lo:Nat}{μ:Mu}{h:zaa}{w:World}(r:Rel μ lo h w){t:TypeId}{l l' c c':Value}{v:Value}{h':zaa}
  (hl:RelV μ l l') (hcv:RelV μ c c') (ha:zfh P h t l c=some (v,h')):OpOK P lo (Instr.makeSlice t l' c') μ h w v h':=by
 unfold zfh at ha
 split at ha
 ·rename_i l c e n he
  cases hl with
  |int=>
  cases hcv with
  |int=>
  obtain⟨hu,hn⟩:=zc2 he
  split at ha
  ·rename_i z bytes hz hb
   obtain⟨zv,h1,h2,h3⟩:=zez hz w
   cases hc:(Nat.beq z.length n&&Nat.ble l c&&Nat.ble (bytes*c) 281474976710656&&Nat.blt 0 n&&Nat.ble c 281474976710656) with
   |false=>rw[hc] at ha;simp at ha
   |true=>
    rw[hc] at ha
    simp only[xfp,xfm,xfn] at ha
    obtain⟨rfl,rfl⟩:=ha
    simp only[xfr] at hc
    obtain⟨⟨⟨⟨hc1,hc2⟩,hc3⟩,hc4⟩,hc5⟩:=hc
    have hc1:z.length=n:=by simpa using hc1
    have hc2:l≤c:=by simpa using hc2
    have hc3:bytes*c≤281474976710656:=by simpa using hc3
    have hc4:0<n:=by rw[Nat.blt_eq] at hc4;exact hc4
    have hc5:c≤281474976710656:=by simpa using hc5
    have hzs:zv.cells.size=n:=by rw[← hc1,← h2];simp
    have hwc:IntKind.i64.wrap (c:Int)=c:=zgd hc5
    have hwl:IntKind.i64.wrap (l:Int)=l:=zgd (by omega)
    have hrep:zas μ (reps z c) ((Array.range (c*n)).map (zv.cells[· % zv.cells.size]!)).toList:=by
     have:=range_zero zv.cells c
     rw[hzs] at this ⊢
     rw[this,h2]
     exact zin (h2▸zhj h3) c
    obtain⟨μ',h6,h7,h8,h9⟩:=zm5 (P:=P) r e _ _ hrep
    have hcap:c=zcy 0 c:=by rw[zcr];unfold inex;omega
    refine⟨.slice (some ⟨w.heap.size,0,none⟩) l c,_,μ',?_,?_,h8,h9⟩
    ·cases hi:P.info? e with
     |none=>simp[hi] at hb
     |some i=>
      simp only[hi,Option.map_some,xfm] at hb
      subst hb
      have hti:(typeInfo e).run P w=.ok i w:=by simp[typeInfo,hi]
      have hbi:¬((281474976710656:Int)<(i.bytes:Int)*(c:Int)):=by
       have:((i.bytes*c:Nat):Int)≤((281474976710656:Nat):Int):=Int.ofNat_le.2 hc3
       rw[Int.natCast_mul] at this
       exact Int.not_lt.2 this
      have hlc:¬((c:Int)<(l:Int)):=by omega
      by_cases h0:c*n=0
      ·have hc0:c=0:=by
        rcases Nat.mul_eq_zero.1 h0 with h|h
        ·exact h
        omega
       subst hc0
       have hl0:l=0:=by omega
       subst hl0
       have hr0:Array.range 0=#[]:=rfl
       have hw0:IntKind.i64.wrap 0=0:=by decide
       rw[Nat.zero_mul,hr0] at h6
       simp only[Array.map_empty] at h6
       simp[Instr.makeSlice,run_underlying hu,asInt,asIntOf,hti,zc6 hn,hw0,hr0,h6]
      simp[Instr.makeSlice,run_underlying hu,asInt,asIntOf,hti,zc6 hn,hwc,hwl,hlc,h0,h1,h6]
      rintro ((hh|hh)|hh)
      ·omega
      ·exact absurd hh hbi
      omega
    have:=RelV.slice h.next 0 l c w.heap.size 0 0 h7 (by rw[← hcap];exact hc2) (by unfold unk;omega)
    rwa [← hcap] at this
  simp at ha
 simp at ha
end Go.Am
end
/-
 The abstract machine, part F: arithmetic, comparisons, slices of slices.
-/
section
namespace Go.Am
def aint (op:BinOp)(k:IntKind)(a b:Int):Option Value:=
 match op with
 |.add=>some (.int k (k.wrap (a+b)))
 |.sub=>some (.int k (k.wrap (a - b)))
 |.mul=>some (.int k (k.wrap (a*b)))
 |.quo=>bif decide (b=0) then none else some (.int k (k.wrap (a.tdiv b)))
 |.rem=>bif decide (b=0) then none else some (.int k (a.tmod b))
 |.and=>some (.int k (k.wrap (BitVec.ofInt k.bits a &&& BitVec.ofInt k.bits b).toNat))
 |.or=>some (.int k (k.wrap (BitVec.ofInt k.bits a ||| BitVec.ofInt k.bits b).toNat))
 |.xor=>some (.int k (k.wrap (BitVec.ofInt k.bits a ^^^ BitVec.ofInt k.bits b).toNat))
 |.andNot=>some (.int k (k.wrap (BitVec.ofInt k.bits a &&& ~~~ BitVec.ofInt k.bits b).toNat))
 |.eql=>some (.bool (a==b))
 |.neq=>some (.bool (a != b))
 |.lss=>some (.bool (decide (a<b)))
 |.leq=>some (.bool (decide (a≤b)))
 |.gtr=>some (.bool (decide (a > b)))
 |.geq=>some (.bool (decide (a≥b)))
 |_=>none
def zb3 (op:BinOp)(k:IntKind)(a b:Int):Option Value:=
 match op with
 |.shl=>bif decide (b<0) then none else some (.int k (k.wrap (a*2 ^ min b.toNat k.bits)))
 |.shr=>bif decide (b<0) then none else some (.int k (a.fdiv (2 ^ min b.toNat k.bits)))
 |_=>none
def zp8 (P:Program)(t:TypeId)(a b:Value):Option Bool:=
 match P.underlying t,a,b with
 |some (.int _),.int k x,.int k' y=>bif decide (k=k') then some (x==y) else none
 |some .bool,.bool x,.bool y=>some (x==y)
 |some .string,.string x,.string y=>some (x.toList==y.toList)
 |_,_,_=>none
def zis (P:Program)(xs ys:List Value):List Field→Option Bool
 |[]=>some true
 |f::fs=>
  bif f.name == "_" then zis P xs ys fs else
  match tsz P f.type with
  |some n=>
   match apart P f.type xs f.offset n,apart P f.type ys f.offset n with
   |some a,some b=>
    match zp8 P f.type a b with
    |some true=>zis P xs ys fs
    |some false=>some false
    |none=>none
   |_,_=>none
  |none=>none
def aeql (P:Program)(t:TypeId)(a b:Value):Option Bool:=
 match a,b with
 |.bool x,.bool y=>match P.underlying t with|some .bool=>some (x==y)|_=>none
 |.pointer none,.pointer none=>match P.underlying t with|some (.pointer _)=>some true|_=>none
 |.pointer none,.pointer (some _)=>match P.underlying t with|some (.pointer _)=>some false|_=>none
 |.pointer (some _),.pointer none=>match P.underlying t with|some (.pointer _)=>some false|_=>none
 |.slice none _ _,.slice none _ _=>match P.underlying t with|some (.slice _)=>some true|_=>none
 |.slice none _ _,.slice (some _) _ _=>match P.underlying t with|some (.slice _)=>some false|_=>none
 |.slice (some _) _ _,.slice none _ _=>match P.underlying t with|some (.slice _)=>some false|_=>none
 |.agg xs,.agg ys=>
  match P.underlying t with
  |some (.struct fs)=>bif P.stoodInHeld t||P.eqGuardType P.depth t then none else zis P xs.toList ys.toList fs.toList
  |_=>none
 |_,_=>none
def astr (op:BinOp)(x y:ByteArray):Option Value:=
 match op with
 |.eql=>some (.bool (x.toList==y.toList))
 |.neq=>some (.bool !(x.toList==y.toList))
 |.lss=>some (.bool (Op.bytesLess x.toList y.toList))
 |.add=>bif Nat.ble (x.size+y.size) 4611686018427387904 then some (.string (x++y)) else none
 |_=>none
def zbv (P:Program)(op:BinOp)(t:TypeId)(a b:Value):Option Value:=
 match op,a,b with
 |.shl,.int k x,.int _ y=>zb3 .shl k x y
 |.shr,.int k x,.int _ y=>zb3 .shr k x y
 |op,.int k x,.int k' y=>bif decide (k=k') then aint op k x y else none
 |op,.string x,.string y=>astr op x y
 |.eql,x,y=>(aeql P t x y).map .bool
 |.neq,x,y=>(aeql P t x y).map fun r=>.bool !r
 |_,_,_=>none
theorem zzz {P:Program}{w:World}{op:BinOp}{t:TypeId}{k:IntKind}{x y:Int}{v:Value}(h:aint op k x y=some v) :
    (binOp op t (.int k x) (.int k y)).run P w=.ok v w:=by
  cases op<;>simp only[aint,xfm,reduceCtorEq] at h
  all_goals first
    |(subst h;simp[binOp,Op.intArith,Op.intBits,Op.intCmp];done)
    | (cases hb : decide (y = 0) with
       |true=>rw[hb] at h;simp at h
       |false=>rw[hb] at h;simp at h;simp at hb;subst h;simp[binOp,Op.intDiv,hb])
theorem zk8 {P:Program}{w:World}{μ:Mu}{t:TypeId}{d:Nat}{a b a' b':Value}{r:Bool}(ha:RelV μ a a')(hb:RelV μ b b')(h:zp8 P t a b=some r) :
  (Op.equalIn (d+1) t a' b').run P w=.ok r w:=by
 unfold zp8 at h
 split at h
 ·rename_i k0 k x k' y hu
  cases ha;cases hb
  cases hk:decide (k=k') with
  |false=>rw[hk] at h;simp at h
  |true=>rw[hk] at h;simp at h hk;subst hk h;exact run_equalIn_int w d t k k0 x y hu
 ·rename_i hu;cases ha;cases hb;simp at h;subst h;exact run_equalIn_bool' w d t _ _ hu
 ·rename_i hu;cases ha;cases hb;simp at h;subst h;exact run_equalIn_string w d t _ _ hu
 simp at h
theorem zh6 {P:Program}{w:World}{μ:Mu}{d:Nat}{xs ys xs' ys':Array Value}(hx:zas μ xs.toList xs'.toList)(hy:zas μ ys.toList ys'.toList):∀ {fs:List Field} {r:Bool},
  zis P xs.toList ys.toList fs=some r→(Op.eqFields (d+1) xs' ys' fs).run P w=.ok r w
 |[],r,h=>by simp[zis] at h;subst h;simp[Op.eqFields]
 |f::fs,r,h=>by
  simp only[zis] at h
  cases hn:(f.name == "_") with
  |true=>
   rw[hn] at h
   simp only[xfp] at h
   have hn':f.name = "_" := by simpa using hn
   simp only[Op.eqFields,hn',ne_eq,not_true,if_false]
   exact zh6 hx hy h
  |false=>
   rw[hn] at h
   simp only[xfq] at h
   have hn':f.name ≠ "_" := by simpa using hn
   simp only[Op.eqFields,hn',ne_eq,not_false_eq_true,if_true]
   split at h
   ·rename_i n hsz
    split at h
    ·rename_i a b h1 h2
     obtain⟨a',h3,h4⟩:=zlu (w:=w) hx hsz h1
     obtain⟨b',h5,h6⟩:=zlu (w:=w) hy hsz h2
     split at h
     ·rename_i h7
      have h8:=zk8 (P:=P) (w:=w) (d:=d) h4 h6 h7
      simp only[Sem.run_bind,h3,h5,h8,Result.andThen_ok,Bool.not_true,Bool.false_eq_true,if_false]
      exact zh6 hx hy h
     ·rename_i h7
      simp only[xfm] at h;subst h
      have h8:=zk8 (P:=P) (w:=w) (d:=d) h4 h6 h7
      simp only[Sem.run_bind,h3,h5,h8,Result.andThen_ok,Bool.not_false,if_true,Sem.run_pure]
     simp at h
    simp at h
   simp at h
theorem zdv {P:Program}{w:World}{t:TypeId}{x y:Value}{r:Result Bool}(h:∀d,(Op.equalIn (d+1) t x y).run P w=r):(Op.equal t x y).run P w=r:=h 9999
theorem zum {P:Program}{w:World}{μ:Mu}{t:TypeId}{a b a' b':Value}{r:Bool}(ha:RelV μ a a')(hb:RelV μ b b')(h:aeql P t a b=some r) :
    (Op.equal t a' b').run P w=.ok r w∧(∀op x y,(eqGuard op t x y a' b').run P w=.ok () w)∧
      (∀op,(∀k x k' y,¬(a'=.int k x∧b'=.int k' y))∧(∀x y,¬(a'=.string x∧b'=.string y))∧(op=BinOp.eql→binOp op t a' b'=(do pure (.bool (← Op.equal t a' b'))))∧(op=BinOp.neq→binOp op t a' b'=(do pure (.bool (!(← Op.equal t a' b')))))):=by
  have guard0:∀(op:BinOp) (x y:Operand) (u v:Value),(∀xs ys,¬(u=.agg xs∧v=.agg ys))→¬(u=.nilIface∧v=.nilIface)→(eqGuard op t x y u v).run P w=.ok () w:=by
    intro op x y u v h1 h2
    cases op<;>simp only[eqGuard]<;>simp
    all_goals (cases u<;>cases v<;>simp_all)
  unfold aeql at h
  split at h
  · cases ha;cases hb
    split at h
    · rename_i hu;simp at h;subst h
      exact⟨zdv fun d=>run_equalIn_bool' w d t _ _ hu,fun op x y=>guard0 op x y _ _ (by simp) (by simp),fun op=>⟨by simp,by simp,by rintro rfl;rfl,by rintro rfl;rfl⟩⟩
    simp at h
  · cases ha;cases hb
    split at h
    · rename_i hu;simp at h;subst h
      exact⟨zdv fun d=>by simp[Op.equalIn,run_underlying hu],fun op x y=>guard0 op x y _ _ (by simp) (by simp),fun op=>⟨by simp,by simp,by rintro rfl;rfl,by rintro rfl;rfl⟩⟩
    simp at h
  · cases ha;cases hb
    split at h
    · rename_i hu;simp at h;subst h
      exact⟨zdv fun d=>by simp[Op.equalIn,run_underlying hu],fun op x y=>guard0 op x y _ _ (by simp) (by simp),fun op=>⟨by simp,by simp,by rintro rfl;rfl,by rintro rfl;rfl⟩⟩
    simp at h
  · cases ha;cases hb
    split at h
    · rename_i hu;simp at h;subst h
      exact⟨zdv fun d=>by simp[Op.equalIn,run_underlying hu],fun op x y=>guard0 op x y _ _ (by simp) (by simp),fun op=>⟨by simp,by simp,by rintro rfl;rfl,by rintro rfl;rfl⟩⟩
    simp at h
  · cases ha;cases hb
    split at h
    · rename_i hu;simp at h;subst h
      exact⟨zdv fun d=>by simp[Op.equalIn,run_underlying hu],fun op x y=>guard0 op x y _ _ (by simp) (by simp),fun op=>⟨by simp,by simp,by rintro rfl;rfl,by rintro rfl;rfl⟩⟩
    simp at h
  · cases ha
    cases hb<;>
    (split at h
     · rename_i hu;simp at h;subst h
       exact⟨zdv fun d=>by simp[Op.equalIn,run_underlying hu],fun op x y=>guard0 op x y _ _ (by simp) (by simp),fun op=>⟨by simp,by simp,by rintro rfl;rfl,by rintro rfl;rfl⟩⟩
     simp at h)
  · cases hb
    cases ha<;>
    (split at h
     · rename_i hu;simp at h;subst h
       exact⟨zdv fun d=>by simp[Op.equalIn,run_underlying hu],fun op x y=>guard0 op x y _ _ (by simp) (by simp),fun op=>⟨by simp,by simp,by rintro rfl;rfl,by rintro rfl;rfl⟩⟩
     simp at h)
  · rename_i xs ys
    obtain⟨xs',rfl,hx⟩:=ha.zmw
    obtain⟨ys',rfl,hy⟩:=hb.zmw
    split at h
    · rename_i fs hu
      cases hc:(P.stoodInHeld t||P.eqGuardType P.depth t) with
      |true=>rw[hc] at h;simp at h
      | false =>
        rw[hc] at h
        simp only[xfq] at h
        simp only[Bool.or_eq_false_iff] at hc
        have hfo:P.fieldsOf t=fs:=by simp[Program.fieldsOf,hu]
        refine⟨?_,fun op x y=>run_eqGuard_agg w op t x y xs' ys' hc.2,fun op=>⟨by simp,by simp,by rintro rfl;rfl,by rintro rfl;rfl⟩⟩
        have hq:=run_equalIn_agg w 9999 t xs' ys' (by rw[hfo];exact hu) hc.1
        rw[hfo,zh6 (d:=9998) hx hy h] at hq
        exact hq
    simp at h
  simp at h
theorem zyx {P:Program}{μ:Mu}{w:World}{op:BinOp}{t:TypeId}{x y:Operand}{a a' b b' v:Value}(ha:RelV μ a a')(hb:RelV μ b b')(h:zbv P op t a b=some v) :
    ∃v',(do eqGuard op t x y a' b';binOp op t a' b':Sem Value).run P w=.ok v' w∧RelV μ v v':=by
  have gi:∀(op:BinOp) (k k':IntKind) (m n:Int),(eqGuard op t x y (.int k m) (.int k' n)).run P w=.ok () w:=by
    intro op k k' m n;cases op<;>simp[eqGuard]
  have gs:∀(op:BinOp) (m n:ByteArray),(eqGuard op t x y (.string m) (.string n)).run P w=.ok () w:=by
    intro op m n;cases op<;>simp[eqGuard]
  unfold zbv at h
  split at h
  · cases ha;cases hb
    rename_i k m _ n
    simp only[zb3] at h
    cases hc:decide (n<0) with
    |true=>rw[hc] at h;simp at h
    | false =>
      rw[hc] at h;simp only[xfq,xfm] at h;subst h
      have hc':¬n<0:=by simpa using hc
      exact⟨_,by simp[gi,binOp,Op.shift,hc'],.int _ _⟩
  · cases ha;cases hb
    rename_i k m _ n
    simp only[zb3] at h
    cases hc:decide (n<0) with
    |true=>rw[hc] at h;simp at h
    | false =>
      rw[hc] at h;simp only[xfq,xfm] at h;subst h
      have hc':¬n<0:=by simpa using hc
      exact⟨_,by simp[gi,binOp,Op.shift,hc'],.int _ _⟩
  · cases ha;cases hb
    rename_i k m k' n _ _
    cases hk:decide (k=k') with
    |false=>rw[hk] at h;simp at h
    | true =>
      rw[hk] at h;simp only[xfp] at h;simp at hk;subst hk
      have:=zzz (P:=P) (w:=w) (t:=t) h
      refine⟨v,by simp[gi,this],?_⟩
      cases op<;>simp only[aint,xfm,reduceCtorEq] at h
      all_goals first
        |(subst h;first|exact .int _ _|exact .bool _)
        | (cases hb : decide (n = 0) with
           |true=>rw[hb] at h;simp at h
           |false=>rw[hb] at h;simp at h;subst h;exact .int _ _)
  · cases ha;cases hb
    rename_i m n
    cases op<;>simp only[astr,xfm,reduceCtorEq] at h
    all_goals first
      |(subst h;exact⟨_,by simp[gs,binOp,Op.stringOp],.bool _⟩)
      | (cases hc : Nat.ble (m.size + n.size) 4611686018427387904 with
         |false=>rw[hc] at h;simp at h
         | true =>
           rw[hc] at h;simp only[xfp,xfm] at h;subst h
           have hc':m.size+n.size≤4611686018427387904:=by simpa using hc
           have hmx:¬(((m.size+n.size:Nat):Int) > IntKind.i64.max):=by
             have:IntKind.i64.max=9223372036854775807:=by decide
             rw[this];omega
           exact⟨.string (m++n),by simp only[Sem.run_bind,gs,Result.andThen_ok,binOp,Op.stringOp];rw[if_neg hmx];rfl,.string _⟩)
  · rename_i h1 h2
    cases hq:aeql P t a b with
    |none=>rw[hq] at h;simp at h
    | some r =>
      rw[hq] at h;simp at h;subst h
      obtain⟨e1,e2,e3⟩:=zum (w:=w) ha hb hq
      refine⟨.bool r,?_,.bool r⟩
      rw[Sem.run_bind,e2,Result.andThen_ok,(e3 .eql).2.2.1 rfl]
      simp[e1]
  · rename_i h1 h2
    cases hq:aeql P t a b with
    |none=>rw[hq] at h;simp at h
    | some r =>
      rw[hq] at h;simp at h;subst h
      obtain⟨e1,e2,e3⟩:=zum (w:=w) ha hb hq
      refine⟨.bool !r,?_,.bool _⟩
      rw[Sem.run_bind,e2,Result.andThen_ok,(e3 .neq).2.2.2 rfl]
      simp[e1]
  simp at h
def zdl (op:UnOp)(x:Value):Option Value:=
 match op,x with
 |.neg,.int k n=>some (.int k (k.wrap (0 - n)))
 |.not,.bool b=>some (.bool !b)
 |_,_=>none
theorem z0i {P:Program}{μ:Mu}{w:World}{op:UnOp}{a a' v:Value}(ha:RelV μ a a')(h:zdl op a=some v):∃v',(Op.unary op a').run P w=.ok v' w∧RelV μ v v':=by
 unfold zdl at h
 split at h
 ·cases ha;simp only[xfm] at h;subst h;exact⟨_,by simp[Op.unary,Op.intArith],.int _ _⟩
 ·cases ha;simp only[xfm] at h;subst h;exact⟨_,by simp[Op.unary],.bool _⟩
 simp at h
def za8 (P:Program)(s d:TypeId)(x:Value):Option Value:=
 match P.underlying s,P.underlying d,x with
 |some (.int _),some (.int k),.int _ n=>some (.int k (k.wrap n))
 |some .string,some .string,.string s=>some (.string s)
 |_,_,_=>none
theorem zsr {P:Program}{μ:Mu}{w:World}{s d:TypeId}{a a' v:Value}(ha:RelV μ a a')(h:za8 P s d a=some v):∃v',(convert s d a').run P w=.ok v' w∧RelV μ v v':=by
 unfold za8 at h
 split at h
 ·rename_i h1 h2
  cases ha;simp only[xfm] at h;subst h
  exact⟨_,by simp[convert,run_underlying h1,run_underlying h2,Conv.intToInt],.int _ _⟩
 ·rename_i h1 h2
  cases ha;simp only[xfm] at h;subst h
  exact⟨_,by simp[convert,run_underlying h1,run_underlying h2],.string _⟩
 simp at h
def zf4 (x:Value):Option Value:=
 match x with
 |.pointer (some a)=>some (.pointer (some a))
 |.func (.func f) a b=>some (.func (.func f) a b)
 |_=>none
end Go.Am
end
/-
 The abstract machine, part G: slices of slices, len, cap, append, copy, clear.
-/
section
namespace Go.Am
def abnd (v:Value)(y:Nat):Option Nat:=
 match v with
 |.int _ (.ofNat i)=>bif Nat.ble i y then some i else none
 |_=>none
theorem zpn {P:Program}{μ:Mu}{w:World}{v v':Value}{y i:Nat}(hv:RelV μ v v')(h:abnd v y=some i)(y':Nat)(hy:y≤y')(c:BoundsCode) :
  (Instr.sliceBound v' y' c).run P w=.ok i w∧i≤y:=by
 unfold abnd at h
 split at h
 ·rename_i k j
  cases hv
  cases hj:Nat.ble j y with
  |false=>rw[hj] at h;simp at h
  |true=>
   rw[hj] at h;simp only[xfp,xfm] at h;subst h
   have hj':j≤y:=by simpa using hj
   have h1:(0:Int)≤(Int.ofNat j)∧Int.ofNat j≤(y':Int):=by
    constructor
    ·exact Int.natCast_nonneg j
    exact Int.ofNat_le.2 (Nat.le_trans hj' hy)
   refine⟨?_,hj'⟩
   simp only[Instr.sliceBound,Sem.run_bind,asIntOf,Sem.run_pure,Result.andThen_ok]
   rw[if_pos h1];rfl
 simp at h
def bM (known:Nat):Option Value→Option (Option Nat)
 |some v=>(abnd v known).map some
 |none=>some none
def bH (len known:Nat):Option Value→Option Nat→Option Nat
 |some v,some m=>abnd v m
 |some v,none=>abnd v known
 |none,none=>some len
 |none,some _=>none
def bL (h:Nat):Option Value→Option Nat
 |some v=>abnd v h
 |none=>some 0
def zem (len known:Nat)(lo hi mx:Option Value):Option (Nat×Nat×Option Nat):=
 match bM known mx with
 |none=>none
 |some m=>
  match bH len known hi m with
  |none=>none
  |some h=>
   match bL h lo with
   |none=>none
   |some l=>some (l,h,m)
def cM (cap:Nat)(sl:Bool):Option Value→Sem Nat
 |some v=>Instr.sliceBound v cap (if sl then .slice3Acap else .slice3Alen)
 |none=>pure cap
def cH (len m:Nat)(sl:Bool)(mx:Option Value):Option Value→Sem Nat
 |some v=>match mx with
  |some _=>Instr.sliceBound v m .slice3B
  |none=>Instr.sliceBound v m (if sl then .sliceAcap else .sliceAlen)
 |none=>match mx with
  |some _=>stuck "Slice: max without high"
  |none=>pure len
def cL (h:Nat)(mx:Option Value):Option Value→Sem Nat
 |some v=>Instr.sliceBound v h (if mx.isSome then .slice3C else .sliceB)
 |none=>pure 0
theorem zn2 (sl:Bool)(len cap:Nat)(lo hi mx:Option Value) :
  Instr.sliceBounds sl len cap lo hi mx=(cM cap sl mx >>= fun m=>cH len m sl mx hi >>= fun h=>cL h mx lo >>= fun l=>pure (l,h,m)):=by
 unfold Instr.sliceBounds
 cases mx<;>cases hi<;>cases lo<;>rfl
def zse (μ:Mu):Option Value→Option Value→Prop
 |none,none=>True
 |some v,some v'=>RelV μ v v'
 |_,_=>False
theorem zfk {P:Program}{μ:Mu}{w:World}{len known:Nat}{lo hi mx lo' hi' mx':Option Value}{l h:Nat}{m:Option Nat}(hlo:zse μ lo lo')(hhi:zse μ hi hi')(hmx:zse μ mx mx')
  (ha:zem len known lo hi mx=some (l,h,m)) (cap:Nat) (hc:known≤cap) (hl:len≤known) (sl:Bool) :
  (Instr.sliceBounds sl len cap lo' hi' mx').run P w=.ok (l,h,m.getD cap) w∧l≤h∧h≤known∧(∀x,m=some x→h≤x∧x≤known):=by
 unfold zem at ha
 cases hm:bM known mx with
 |none=>simp[hm] at ha
 |some m0=>
  simp only[hm] at ha
  cases hh:bH len known hi m0 with
  |none=>simp[hh] at ha
  |some h0=>
   simp only[hh] at ha
   cases hll:bL h0 lo with
   |none=>simp[hll] at ha
   |some l0=>
    simp only[hll,xfm,xfn] at ha
    obtain⟨rfl,rfl,rfl⟩:=ha
    have hm0:(cM cap sl mx').run P w=.ok (m0.getD cap) w∧(∀x,m0=some x→x≤known)∧(m0.isSome=mx'.isSome):=by
     cases mx with
     |none=>
      cases mx' with
      |none=>simp only[bM,xfm] at hm;subst hm;exact⟨rfl,by simp,rfl⟩
      |some v'=>exact hmx.elim
     |some v=>
      cases mx' with
      |none=>exact hmx.elim
      |some v'=>
       simp only[bM] at hm
       cases hb:abnd v known with
       |none=>rw[hb] at hm;simp at hm
       |some x=>
        rw[hb] at hm;simp only[Option.map_some,xfm] at hm;subst hm
        have hr:=fun c=>(zpn (P:=P) (w:=w) (show RelV μ v v' from hmx) hb cap hc c)
        exact⟨(hr _).1,fun y hy=>by simp only[xfm] at hy;subst hy;exact(hr .index).2,rfl⟩
    obtain⟨hm1,hm2,hm3⟩:=hm0
    have hh0:(cH len (m0.getD cap) sl mx' hi').run P w=.ok h0 w∧h0≤known∧(∀x,m0=some x→h0≤x):=by
     cases hi with
     |none=>
      cases hi' with
      |some v'=>exact hhi.elim
      |none=>
       cases m0 with
       |some x=>simp[bH] at hh
       |none=>
        simp only[bH,xfm] at hh;subst hh
        cases mx' with
        |some v'=>simp at hm3
        |none=>exact⟨rfl,hl,by simp⟩
     |some v=>
      cases hi' with
      |none=>exact hhi.elim
      |some v'=>
       cases m0 with
       |some x=>
        cases mx' with
        |none=>simp at hm3
        |some u=>
         have hr:=zpn (P:=P) (w:=w) (show RelV μ v v' from hhi) hh x (Nat.le_refl _) .slice3B
         exact⟨hr.1,Nat.le_trans hr.2 (hm2 x rfl),fun y hy=>by simp only[xfm] at hy;subst hy;exact hr.2⟩
       |none=>
        cases mx' with
        |some u=>simp at hm3
        |none=>
         have hr:=fun c=>zpn (P:=P) (w:=w) (show RelV μ v v' from hhi) hh cap hc c
         exact⟨(hr _).1,(hr .index).2,by simp⟩
    obtain⟨hh1,hh2,hh3⟩:=hh0
    have hfin:(cL h0 mx' lo').run P w=.ok l0 w∧l0≤h0:=by
     cases lo with
     |none=>
      cases lo' with
      |some v'=>exact hlo.elim
      |none=>simp only[bL,xfm] at hll;subst hll;exact⟨rfl,Nat.zero_le _⟩
     |some v=>
      cases lo' with
      |none=>exact hlo.elim
      |some v'=>
       have hr:=fun c=>zpn (P:=P) (w:=w) (show RelV μ v v' from hlo) hll h0 (Nat.le_refl _) c
       exact⟨(hr _).1,(hr .index).2⟩
    refine⟨?_,hfin.2,hh2,fun x hx=>⟨hh3 x hx,hm2 x hx⟩⟩
    rw[zn2,Sem.run_bind,hm1,Result.andThen_ok,Sem.run_bind,hh1,Result.andThen_ok,Sem.run_bind,hfin.1,Result.andThen_ok,Sem.run_pure]
def zdb (P:Program)(t:TypeId)(x:Value)(lo hi mx:Option Value):Option Value:=
 match x with
 |.slice none 0 0=>
  match zc8 P t,zem 0 0 lo hi mx with
  |some _,some _=>some (.slice none 0 0)
  |_,_=>none
 |.slice (some ⟨o,off,none⟩) len k=>
  match zc8 P t with
  |some (_,sz)=>
   bif Nat.blt k inex then
    match zem len k lo hi mx with
    |some (l,h,m)=>
     let m':=m.getD k
     some (.slice (some ⟨o,bif Nat.beq m' l then off else off+l*sz,none⟩) (h - l) (m' - l))
    |none=>none
   else bif Nat.blt k unk then
    match zem len len lo hi mx with
    |some (l,h,some m)=>bif Nat.blt m inex then some (.slice (some ⟨o,bif Nat.beq m l then off else off+l*sz,none⟩) (h - l) (m - l)) else none
    |some (l,h,none)=>
     bif Nat.beq l 0 then some (.slice (some ⟨o,off,none⟩) h k)
     else bif Nat.beq h l then some (.slice (some ⟨o,off,none⟩) 0 unk)
     else bif Nat.blt (k+l) unk then some (.slice (some ⟨o,off+l*sz,none⟩) (h - l) (k+l)) else none
    |none=>none
   else
    match zem 0 0 lo hi mx with
    |some (_,_,none)=>some (.slice (some ⟨o,off,none⟩) 0 unk)
    |some (_,_,some _)=>some (.slice (some ⟨o,off,none⟩) 0 0)
    |none=>none
  |none=>none
 |_=>none
theorem zam (a b:Nat):(Nat.beq a b=true∧a=b)∨(Nat.beq a b=false∧a≠b):=by
 cases h:Nat.beq a b with
 |true=>exact .inl ⟨rfl,by simpa using h⟩
 |false=>exact .inr ⟨rfl,by intro e;subst e;simp at h⟩
theorem zdw {P:Program}{w:World}{t e:TypeId}{n:Nat}(hu:P.underlying t=some (.slice e))(hn:tsz P e=some n)(p:Option Addr)(len cap:Nat)(lo hi mx:Option Value){l h m:Nat}
  (hb:(Instr.sliceBounds true len cap lo hi mx).run P w=.ok (l,h,m) w) :
  (Instr.sliceAt t (.slice p len cap) lo hi mx).run P w=.ok (.slice (if m=l then p else p.map (·.add (l*n))) (h - l) (m - l)) w:=by
 simp only[Instr.sliceAt,Sem.run_bind,run_underlying hu,Result.andThen_ok,Instr.slice,hb,zc6 hn,Sem.run_pure]
theorem zx0 {P:Program}{μ:Mu}{w:World}{t:TypeId}{x x':Value}{lo hi mx lo' hi' mx':Option Value}{v:Value}(hx:RelV μ x x')(hlo:zse μ lo lo')(hhi:zse μ hi hi')(hmx:zse μ mx mx')
  (ha:zdb P t x lo hi mx=some v):∃v',(Instr.sliceAt t x' lo' hi' mx').run P w=.ok v' w∧RelV μ v v':=by
 unfold zdb at ha
 split at ha
 ·split at ha
  ·rename_i e q hte hb
   obtain⟨e1,n⟩:=e
   obtain⟨hu,hn⟩:=zc2 hte
   obtain⟨l,h,m⟩:=q
   cases hx
   obtain⟨h1,h2,h3,h4⟩:=zfk (P:=P) (w:=w) hlo hhi hmx hb 0 (Nat.le_refl _) (Nat.le_refl _) true
   simp only[xfm] at ha;subst ha
   have hm:m.getD 0=0:=by
    cases m with
    |none=>rfl
    |some x=>have:=(h4 x rfl).2;simp;omega
   have hh:h=0:=by omega
   have hl:l=0:=by omega
   subst hh hl
   rw[hm] at h1
   exact⟨_,zdw hu hn none 0 0 lo' hi' mx' h1,by simp;exact .sliceNil⟩
  simp at ha
 ·rename_i o off len k
  split at ha
  ·rename_i e sz hte
   obtain⟨hu,hn⟩:=zc2 hte
   cases hk:Nat.blt k inex with
   |true=>
    have hk':k<inex:=by rw[Nat.blt_eq] at hk;exact hk
    rw[hk] at ha
    simp only[xfp] at ha
    split at ha
    ·rename_i l h m hb
     simp only[xfm] at ha;subst ha
     cases hx with
     |slice _ _ _ _ b a C hm hl hku=>
      rw[zcr hk'] at hl ⊢
      obtain⟨h1,h2,h3,h4⟩:=zfk (P:=P) (w:=w) hlo hhi hmx hb k (Nat.le_refl _) hl true
      refine⟨_,zdw hu hn _ _ _ _ _ _ h1,?_⟩
      have hmk:m.getD k≤k∧h≤m.getD k:=by
       cases m with
       |none=>exact⟨Nat.le_refl _,h3⟩
       |some x=>exact⟨(h4 x rfl).2,(h4 x rfl).1⟩
      have hlt:m.getD k - l<inex:=by omega
      rcases zam (m.getD k) l with⟨hq,hq'⟩|⟨hq,hq'⟩
      ·rw[hq]
       simp only[hq',if_true,xfp]
       have:=RelV.slice o off (h - l) (l - l) b a C hm (by rw[zcr (by omega)];omega) (by unfold unk;unfold inex at *;omega)
       rwa [zcr (by omega)] at this
      rw[hq]
      simp only[hq',if_false,xfq,Option.map_some,zd4]
      have:=RelV.slice o (off+l*sz) (h - l) (m.getD k - l) b a C hm (by rw[zcr hlt];omega) (by unfold unk;unfold inex at *;omega)
      rwa [zcr hlt,← Nat.add_assoc] at this
     |sliceZ=>unfold unk inex at hk';omega
     |slice0 p p'=>
      obtain⟨h1,h2,h3,h4⟩:=zfk (P:=P) (w:=w) hlo hhi hmx hb 0 (Nat.le_refl _) (Nat.le_refl _) true
      refine⟨_,zdw hu hn _ _ _ _ _ _ h1,?_⟩
      have hm:m.getD 0=0:=by
       cases m with
       |none=>rfl
       |some x=>have:=(h4 x rfl).2;simp;omega
      have hh:h=0:=by omega
      have hl:l=0:=by omega
      subst hh hl
      simp only[hm,if_true]
      exact .slice0 _ _
    simp at ha
   |false=>
    rw[hk] at ha
    simp only[xfq] at ha
    have hk':¬k<inex:=by intro h;rw[← Nat.blt_eq,hk] at h;cases h
    cases hk2:Nat.blt k unk with
    |true=>
     rw[hk2] at ha
     simp only[xfp] at ha
     have hk2':k<unk:=by rw[Nat.blt_eq] at hk2;exact hk2
     cases hx with
     |sliceZ=>omega
     |slice0=>unfold inex at hk';omega
     |slice _ _ _ _ b a C hm hl hku=>
      split at ha
      ·rename_i l h m hb
       cases hmx2:Nat.blt m inex with
       |false=>rw[hmx2] at ha;simp at ha
       |true=>
       rw[hmx2] at ha
       simp only[xfp,xfm] at ha;subst ha
       have hmi:m<inex:=by rw[Nat.blt_eq] at hmx2;exact hmx2
       obtain⟨h1,h2,h3,h4⟩:=zfk (P:=P) (w:=w) hlo hhi hmx hb (zcy C k) hl (Nat.le_refl _) true
       refine⟨_,zdw hu hn _ _ _ _ _ _ h1,?_⟩
       obtain⟨h5,h6⟩:=h4 m rfl
       simp only[Option.getD_some]
       have hcl:zcy C k=C - (k - inex):=by simp[zcy,hk']
       have hbig:m - l<inex:=by omega
       ·rcases zam m l with⟨hq,hq'⟩|⟨hq,hq'⟩
        ·rw[hq]
         simp only[hq',if_true,xfp]
         have:=RelV.slice o off (h - l) (l - l) b a C hm (by rw[zcr (by omega)];omega) (by unfold unk;unfold inex at *;omega)
         rwa [zcr (by omega)] at this
        rw[hq]
        simp only[hq',if_false,xfq,Option.map_some,zd4]
        have:=RelV.slice o (off+l*sz) (h - l) (m - l) b a C hm (by rw[zcr hbig];omega) (by unfold unk;unfold inex at *;omega)
        rwa [zcr hbig,← Nat.add_assoc] at this
      ·rename_i l h hb
       obtain⟨h1,h2,h3,h4⟩:=zfk (P:=P) (w:=w) hlo hhi hmx hb (zcy C k) hl (Nat.le_refl _) true
       have hrun:=zdw hu hn (some ⟨b,a+off,none⟩) len (zcy C k) lo' hi' mx' h1
       simp only[Option.getD_none] at hrun
       have hcl:zcy C k=C - (k - inex):=by simp[zcy,hk']
       rcases zam l 0 with⟨hq,hq'⟩|⟨hq,hq'⟩
       ·rw[hq] at ha
        simp only[xfp,xfm] at ha;subst ha hq'
        refine⟨_,hrun,?_⟩
        have:=RelV.slice o off h k b a C hm (by omega) hku
        simp only[Nat.zero_mul,Option.map_some,zd4,Nat.add_zero,ite_self,Nat.sub_zero]
        exact this
       rw[hq] at ha
       simp only[xfq] at ha
       rcases zam h l with⟨hr,hr'⟩|⟨hr,hr'⟩
       ·rw[hr] at ha
        simp only[xfp,xfm] at ha;subst ha hr'
        refine⟨_,hrun,?_⟩
        rw[Nat.sub_self]
        split
        ·exact .sliceZ _ _ _
        exact .sliceZ _ _ _
       rw[hr] at ha
       simp only[xfq] at ha
       cases hz:Nat.blt (k+l) unk with
       |false=>rw[hz] at ha;simp at ha
       |true=>
        rw[hz] at ha
        simp only[xfp,xfm] at ha;subst ha
        refine⟨_,hrun,?_⟩
        rw[if_neg (by omega)]
        simp only[Option.map_some,zd4]
        have hc2:zcy C (k+l)=zcy C k - l:=by
         rw[hcl];unfold zcy;rw[if_neg (by omega)];omega
        have:=RelV.slice o (off+l*sz) (h - l) (k+l) b a C hm (by rw[hc2];omega) (by rw[Nat.blt_eq] at hz;exact hz)
        rwa [hc2,← Nat.add_assoc] at this
      simp at ha
    |false=>
     rw[hk2] at ha
     simp only[xfq] at ha
     have hk2':¬k<unk:=by intro h;rw[← Nat.blt_eq,hk2] at h;cases h
     cases hx with
     |slice _ _ _ _ b a C hm hl hku=>omega
     |slice0=>unfold unk at hk2';omega
     |sliceZ p p' c=>
      split at ha
      ·rename_i l h hb
       simp only[xfm] at ha;subst ha
       obtain⟨h1,h2,h3,h4⟩:=zfk (P:=P) (w:=w) hlo hhi hmx hb c (Nat.zero_le _) (Nat.le_refl _) true
       have hrun:=zdw hu hn (some p') 0 c lo' hi' mx' h1
       have hh:h=0:=by omega
       have hl:l=0:=by omega
       subst hh hl
       refine⟨_,hrun,?_⟩
       simp only[Option.getD_none,Nat.sub_zero]
       split
       ·exact .sliceZ _ _ _
       exact .sliceZ _ _ _
      ·rename_i l h m hb
       simp only[xfm] at ha;subst ha
       obtain⟨h1,h2,h3,h4⟩:=zfk (P:=P) (w:=w) hlo hhi hmx hb c (Nat.zero_le _) (Nat.le_refl _) true
       have hrun:=zdw hu hn (some p') 0 c lo' hi' mx' h1
       have hm:=(h4 m rfl).2
       have hh:h=0:=by omega
       have hl:l=0:=by omega
       have hm0:m=0:=by omega
       subst hh hl hm0
       refine⟨_,hrun,?_⟩
       simp only[Option.getD_some,Nat.sub_zero,if_true]
       exact .slice0 _ _
      simp at ha
  simp at ha
 simp at ha
end Go.Am
end
/-
 The abstract machine, part H: append, copy, len and their like.
-/
section
namespace Go.Am
def zdp (h:zaa)(n:Nat)(x:Value)(m:Nat):Option (List Value):=
 bif Nat.beq m 0 then some [] else
 match x with
 |.slice (some ⟨o,off,none⟩) _ _=>
  match h.get o with
  |some (.cells _ cs)=>bif Nat.ble (off+m*n) cs.length then some ((cs.drop off).take (m*n)) else none
  |_=>none
 |_=>none
def alen:Value→Option Nat
 |.slice _ l _=>some l
 |_=>none
theorem zsh {P:Program}{μ:Mu}{w:World}{x x':Value}{m:Nat}(hx:RelV μ x x')(h:alen x=some m):(Builtin.lenOf x').run P w=.ok m w∧∃p c,x'=.slice p m c:=by
 unfold alen at h
 split at h
 ·simp only[xfm] at h;subst h
  cases hx<;>exact⟨rfl,_,_,rfl⟩
 simp at h
theorem zic {P:Program}{lo:Nat}{μ:Mu}{h:zaa}{w:World}(r:Rel μ lo h w){n m:Nat}{x x':Value}{xs:List Value}(hx:RelV μ x x'){p:Option Addr}{l c:Nat}(hsl:x'=.slice p l c)(hml:m≤l)(hs:zdp h n x m=some xs) :
  ∃xs':List Value,(∀w2:World,(∀a,w2.cell? a=w.cell? a)→(Builtin.firstCells n m x').run P w2=.ok xs'.toArray w2)∧zas μ xs xs'∧xs.length=m*n:=by
 unfold zdp at hs
 rcases zam m 0 with⟨hq,hq'⟩|⟨hq,hq'⟩
 ·rw[hq] at hs;simp only[xfp,xfm] at hs;subst hs hq'
  refine⟨[],fun w2 _=>?_,zas.nil μ,by simp⟩
  subst hsl
  cases p<;>simp[Builtin.firstCells,loadCells,loadCellsFrom]
 rw[hq] at hs
 simp only[xfq] at hs
 split at hs
 ·rename_i o off l0 k0
  split at hs
  ·rename_i s cs ho
   cases hle:Nat.ble (off+m*n) cs.length with
   |false=>rw[hle] at hs;simp at hs
   |true=>
    rw[hle] at hs;simp only[xfp,xfm] at hs;subst hs
    have hle':off+m*n≤cs.length:=by simpa using hle
    cases hx with
    |slice _ _ _ _ b a C hm hl hku=>
     obtain⟨cs',h1,h2,h3⟩:=zif (ze0 r ho hm) off (m*n) hle'
     refine⟨cs',fun w2 hw2=>?_,h1,by simp;omega⟩
     have hrun:=run_loadCells_list (P:=P) w2 _ cs' (fun j v hj=>by rw[hw2];exact h3 j v hj)
     rw[h2] at hrun
     simpa[Builtin.firstCells] using hrun
    |sliceZ=>simp only[Value.slice.injEq] at hsl;omega
    |slice0=>simp only[Value.slice.injEq] at hsl;omega
  simp at hs
 simp at hs
theorem zvl (need old:Nat)(h:old<need):Builtin.nextslicecap need old≤2*need+192:=by
 have grow:∀(rounds c:Nat),c≤2*need+192→Builtin.growBy need rounds c≤2*need+192:=by
  intro rounds
  induction rounds with
  |zero=>intro c hc;simpa[Builtin.growBy] using hc
  |succ r ih=>
   intro c hc
   simp only[Builtin.growBy]
   split
   ·exact hc
   exact ih _ (by omega)
 unfold Builtin.nextslicecap
 split
 ·omega
 split
 ·omega
 exact grow 4 old (by omega)
section
variable {P:Program} {w:World} {sT xT ty e:TypeId} {i:TypeInfo} {d0:TypeId} {x:Value} {base:Option Addr} {sLen sCap m:Nat} {new:List Value}
theorem run_append_fits' (hu:P.underlying sT=some (.slice e))(hi:P.info? e=some i)(hx:P.underlying xT=some (.slice d0))(hl:(Builtin.lenOf x).run P w=.ok m w)
  (hf:(Builtin.firstCells i.size m x).run P w=.ok new.toArray w) (hn:sLen+m≤sCap) :
  (Builtin.append_ #[sT,xT] ty #[.slice base sLen sCap,x]).run P w =
   (match base with|some a=>(storeCells (a.add (sLen*i.size)) new).run P w|none=>.ok () w).andThen fun _ w'=>.ok (.slice base (sLen+m) sCap) w':=by
 cases base with
 |none=>simp[Builtin.append_,run_underlying hu,run_underlying hx,sizeOf,typeInfo,hi,hl,hn,hf]
 |some a=>simp[Builtin.append_,run_underlying hu,run_underlying hx,sizeOf,typeInfo,hi,hl,hn,hf]
theorem run_append_more' {z:Value}{olds:List Value}(hu:P.underlying sT=some (.slice e))(hi:P.info? e=some i)(hz:i.zero=some z)(hx:P.underlying xT=some (.slice d0))(hl:(Builtin.lenOf x).run P w=.ok m w)
  (hfo:(Builtin.firstCells i.size sLen (.slice base sLen sCap)).run P w.drew=.ok olds.toArray w.drew) (hf:(Builtin.firstCells i.size m x).run P w.drew=.ok new.toArray w.drew)
  (hn:sCap<sLen+m) (h63:sLen+m≤17592186044416) (h48:(2*(sLen+m)+192)*i.bytes≤281474976710656) :
  (Builtin.append_ #[sT,xT] ty #[.slice base sLen sCap,x]).run P w =
   .ok (.slice (some ⟨w.heap.size,0,none⟩) (sLen+m) (grownCap w (sLen+m) sCap e))
    (w.drew.alloc (.cells (olds.toArray++new.toArray++Builtin.zeroCells z.cells (grownCap w (sLen+m) sCap e - (sLen+m))) e)):=by
 have hn':¬(sLen+m≤sCap):=by omega
 have h63':¬(9223372036854775807<((sLen:Int)+(m:Int))):=by omega
 have h48':¬(281474976710656<Builtin.nextslicecap (sLen+m) sCap*i.bytes):=by
  have:=Nat.mul_le_mul_right i.bytes (zvl (sLen+m) sCap hn)
  omega
 simp[Builtin.append_,run_underlying hu,run_underlying hx,sizeOf,typeInfo,zeroValue,hi,hz,hl,hn',h63',h48',Question.forced,hf,hfo,newRow,grownCap]
 congr 2
 apply Array.ext'
 simp[List.append_assoc]
end
theorem grownCap_ge (w:World)(need old:Nat)(e:TypeId):need≤grownCap w need old e:=by
 simp[grownCap,Question.cut]
def zd1 (P:Program)(lo:Nat)(h:zaa)(sT xT:TypeId)(s x:Value):Option (Value×zaa):=
 match zc8 P sT,zc8 P xT,alen x with
 |some (e,n),some _,some m=>
  match zg8 P e,(P.info? e).map (·.bytes),zdp h n x m with
  |some z,some bytes,some xs=>
   bif !(Nat.beq z.length n&&Nat.blt 0 n&&xs.all (·.oneCell')) then none else
   match s with
   |.slice none 0 0=>
    bif Nat.beq m 0 then some (.slice none 0 0,h) else
    bif Nat.ble m 17592186044416&&Nat.ble ((2*m+192)*bytes) 281474976710656 then some (.slice (some ⟨h.next,0,none⟩) m inex,h.alloc (.cells n xs)) else none
   |.slice (some ⟨o,off,none⟩) l k=>
    bif Nat.beq m 0 then some (.slice (some ⟨o,off,none⟩) l k,h) else
    bif Nat.blt k inex then
     bif Nat.ble (l+m) k then
      match h.get o with
      |some (.cells s cs)=>
       bif Nat.ble lo o&&Nat.ble (off+(l+m)*n) cs.length then
        some (.slice (some ⟨o,off,none⟩) (l+m) k,h.put o (some (.cells s (zcb cs (off+l*n) xs)))) else none
      |_=>none
     else
      match zdp h n s l with
      |some olds=>
       bif Nat.ble (l+m) 17592186044416&&Nat.ble ((2*(l+m)+192)*bytes) 281474976710656 then
        some (.slice (some ⟨h.next,0,none⟩) (l+m) inex,h.alloc (.cells n (olds++xs))) else none
      |none=>none
    else bif Nat.blt k unk then
     match h.get o with
     |some (.cells s cs)=>
      bif !(Nat.ble lo o&&Nat.beq off ((k - inex)*n)&&Nat.beq s n&&Nat.ble (l+m) 17592186044416&&Nat.ble ((2*(l+m)+192)*bytes) 281474976710656) then none else
      bif Nat.ble (off+(l+m)*n) cs.length then
       some (.slice (some ⟨o,off,none⟩) (l+m) k,h.put o (some (.cells s (zcb cs (off+l*n) xs))))
      else bif Nat.ble (off+l*n) cs.length then
       some (.slice (some ⟨h.next,0,none⟩) (l+m) inex,(h.put o none).alloc (.cells n ((cs.drop off).take (l*n)++xs)))
      else none
     |_=>none
    else none
   |_=>none
  |_,_,_=>none
 |_,_,_=>none
theorem zvm {μ:Mu}{lo:Nat}{h:zaa}{w:World}(r:Rel μ lo h w){o:Nat}(ho:lo≤o)(hlt:o<h.next):Rel μ lo (h.put o none) w∧Frame lo μ h w μ (h.put o none) w:=by
 have hsub:∀p x,(h.put o none).get p=some x→h.get p=some x:=fun p x hx=>by
  rw[zaa.zaw _ _ _ _ hlt] at hx
  by_cases hp:p=o
  ·simp[hp] at hx
  simpa[hp] using hx
 refine⟨r.sub (Nat.le_refl _) hsub (Nat.le_refl _) r.lole,⟨Mu.le_refl μ,Nat.le_refl _,Nat.le_refl _,fun _ _ _=>rfl,fun b _=>?_,fun p hp=>?_,fun _ _=>rfl,fun p hp hn=>?_,.refl w⟩⟩
 ·rintro⟨p,x,a,C,h1,h2,h3⟩;exact⟨p,x,a,C,h1,hsub p x h2,h3⟩
 ·rw[zaa.zaw _ _ _ _ hlt]
  have:p≠o:=by omega
  simp[this]
 rw[zaa.zaw _ _ _ _ hlt]
 by_cases h1:p=o
 ·simp[h1]
 simpa[h1] using hn
theorem zwe {μ:Mu}{lo:Nat}{h:zaa}{w w':World}(r:Rel μ lo h w){o:Nat}{x:AObj}(hx:h.get o=some x)(hl:lo≤o){b a C:Nat}(hm:μ o=some (b,a,C))(y:AObj)(a' C':Nat)
  (hsz:w'.heap.size=w.heap.size) (hk:∀b',b'≠b→w'.heap[b']?=w.heap[b']?) (hy:∀ν,μ.le ν→RelO ν w' b a' C' y) (hfz:∀off,w'.frozen? ⟨b,off,none⟩=false) (hcalm:Calm w w') :
  ∃μ',μ' h.next=some (b,a',C')∧Rel μ' lo ((h.put o none).alloc y) w'∧Frame lo μ h w μ' ((h.put o none).alloc y) w':=by
 have hlt:=zaa.zai hx
 have hle:=r.zjq (b,a',C')
 have hget:∀p z,((h.put o none).alloc y).get p=some z→(p=h.next∧z=y)∨(p≠h.next∧p≠o∧h.get p=some z):=fun p z hz=>by
  rw[zaa.zay] at hz
  simp only[zaa.zlw] at hz
  by_cases hp:p=h.next
  ·simp[hp] at hz;exact .inl ⟨hp,hz.symm⟩
  simp only[hp,if_false] at hz
  rw[zaa.zaw _ _ _ _ hlt] at hz
  by_cases hp':p=o
  ·simp[hp'] at hz
  simp only[hp',if_false] at hz;exact .inr ⟨hp,hp',hz⟩
 have hsame:∀p z b' a'' C'',h.get p=some z→μ p=some (b',a'',C'')→p≠o→b'≠b:=fun p z b' a'' C'' hz hm' hp hb=>by
  subst hb;exact hp (r.inj o p x z b' a C a'' C'' hl hx hz hm hm').symm
 refine⟨μ.put h.next (b,a',C'),Mu.zaf _ _ _,⟨?_,?_,?_,?_,?_⟩,⟨hle,by omega,by simp,fun b' _ hn=>hk b' (fun hb=>hn (hb▸⟨o,x,a,C,hl,hx,hm⟩)),?_,?_,fun p hp=>Mu.zaj _ (by omega),fun p hp hn=>?_,hcalm⟩⟩
 ·intro p z hz
  rcases hget p z hz with⟨rfl,rfl⟩|⟨h1,h2,h3⟩
  ·exact⟨b,a',C',Mu.zaf _ _ _,hy _ hle⟩
  obtain⟨b',a'',C'',h4,h5⟩:=r.objs p z h3
  exact⟨b',a'',C'',by rw[Mu.zaj _ h1];exact h4,(h5.mono hle).kept (hk b' (hsame p z b' a'' C'' h3 h4 h2))⟩
 ·intro p p' z z' b' a1 C1 a2 C2 hlp hz hz' hm1 hm2
  rcases hget p z hz with⟨rfl,rfl⟩|⟨h1,h2,h3⟩
  ·rcases hget p' z' hz' with⟨rfl,rfl⟩|⟨h1',h2',h3'⟩
   ·rfl
   rw[Mu.zaj _ h1'] at hm2
   rw[Mu.zaf] at hm1;injection hm1 with hm1;injection hm1 with hm1 _;subst hm1
   exact absurd rfl (hsame p' z' _ _ _ h3' hm2 h2')
  rw[Mu.zaj _ h1] at hm1
  rcases hget p' z' hz' with⟨rfl,rfl⟩|⟨h1',h2',h3'⟩
  ·rw[Mu.zaf] at hm2;injection hm2 with hm2;injection hm2 with hm2 _;subst hm2
   exact absurd rfl (hsame p z _ _ _ h3 hm1 h2)
  rw[Mu.zaj _ h1'] at hm2
  exact r.inj p p' z z' b' a1 C1 a2 C2 hlp h3 h3' hm1 hm2
 ·intro p z hz
  by_cases hp:p=h.next
  ·subst hp;simp
  rw[Mu.zaj _ hp] at hz
  have:=r.dom p z hz
  simp;omega
 ·intro p z b' a1 C1 hlp hz hm1 off
  rcases hget p z hz with⟨rfl,rfl⟩|⟨h1,h2,h3⟩
  ·rw[Mu.zaf] at hm1;injection hm1 with hm1;injection hm1 with hm1 _;subst hm1;exact hfz off
  rw[Mu.zaj _ h1] at hm1
  rw[zbn (hk b' (hsame p z b' a1 C1 h3 hm1 h2))]
  exact r.thaw p z b' a1 C1 hlp h3 hm1 off
 ·have:=r.lole;simp;omega
 ·intro b' hb'
  rintro⟨p,z,a1,C1,hlp,hz,hm1⟩
  rcases hget p z hz with⟨rfl,rfl⟩|⟨h1,h2,h3⟩
  ·rw[Mu.zaf] at hm1;injection hm1 with hm1;injection hm1 with hm1 _;subst hm1;exact⟨o,x,a,C,hl,hx,hm⟩
  rw[Mu.zaj _ h1] at hm1;exact⟨p,z,a1,C1,hlp,h3,hm1⟩
 ·intro p hp
  rw[zaa.zay,zaa.zlw]
  have h1:p≠h.next:=by have:=r.lole;omega
  have h2:p≠o:=by omega
  simp only[h1,if_false]
  rw[zaa.zaw _ _ _ _ hlt]
  simp[h2]
 rw[zaa.zay,zaa.zlw,if_neg (by omega),zaa.zaw _ _ _ _ hlt]
 by_cases h1:p=o
 ·simp[h1]
 simpa[h1] using hn
theorem zn0 {P:Program}{e:TypeId}{z:List Value}{i:TypeInfo}(hz:zg8 P e=some z)(hi:P.info? e=some i):∃zv,i.zero=some zv∧zv.cells.toList=z∧zen zv=true:=by
 unfold zg8 at hz
 simp only[hi,Option.bind_some] at hz
 cases h0:i.zero with
 |none=>simp[h0] at hz
 |some v=>
  simp only[h0] at hz
  cases hs:zen v with
  |false=>simp[hs] at hz
  |true=>simp[hs] at hz;exact⟨v,rfl,hz,hs⟩
theorem zml:inex<unk:=by decide
theorem zkp (h:unk<inex):False:=absurd h (by decide)
theorem zpz (h:¬0<inex):False:=h (by decide)
theorem zoo (C:Nat):zcy C inex=C:=by unfold zcy;rw[if_neg (Nat.lt_irrefl _),Nat.sub_self,Nat.sub_zero]
theorem zv1 {P:Program}{lo:Nat}{μ:Mu}{h:zaa}{w:World}(r:Rel μ lo h w){sT xT ty:TypeId}{s s' x x' v:Value}{h':zaa}(hs:RelV μ s s')(hx:RelV μ x x')
    (ha:zd1 P lo h sT xT s x=some (v,h')):OpOK P lo (Builtin.append_ #[sT,xT] ty #[s',x']) μ h w v h':=by
  unfold zd1 at ha
  split at ha
  · rename_i e n q m hte htx hlen
    obtain⟨d0,n0⟩:=q
    obtain⟨hu,hn⟩:=zc2 hte
    obtain⟨hux,_⟩:=zc2 htx
    obtain⟨hl,px,cx,hxs⟩:=zsh (P:=P) (w:=w) hx hlen
    split at ha
    · rename_i z bytes xs hz hb hsrc
      cases hi:P.info? e with
      |none=>simp[hi] at hb
      |some i=>
      simp only[hi,Option.map_some,xfm] at hb
      have hin:i.size=n:=by simpa[tsz,hi] using hn
      obtain⟨zv,hzv,hzl,hzs⟩:=zn0 hz hi
      cases hc0:(Nat.beq z.length n&&Nat.blt 0 n&&xs.all (·.oneCell')) with
      |false=>rw[hc0] at ha;simp at ha
      |true=>
      rw[hc0] at ha
      simp only[Bool.not_true,xfq] at ha
      simp only[xfr] at hc0
      obtain⟨⟨hc1,hc2⟩,hc3⟩:=hc0
      have hc1:z.length=n:=by simpa using hc1
      have hc2:0<n:=by rw[Nat.blt_eq] at hc2;exact hc2
      obtain⟨xs',hf,hxs',hxl⟩:=zic (P:=P) r hx hxs (Nat.le_refl _) hsrc
      have hf0:(Builtin.firstCells i.size m x').run P w=.ok xs'.toArray w:=by rw[hin];exact hf w (fun _=>rfl)
      have hfd:(Builtin.firstCells i.size m x').run P w.drew=.ok xs'.toArray w.drew:=by rw[hin];exact hf w.drew (fun _=>rfl)
      have more:∀(base:Option Addr) (sLen sCap:Nat) (olds olds':List Value) (hh:zaa),s'=.slice base sLen sCap→zas μ olds olds'→olds.length=sLen*n→
          (Builtin.firstCells i.size sLen (.slice base sLen sCap)).run P w.drew=.ok olds'.toArray w.drew→sCap<sLen+m→sLen+m≤17592186044416→(2*(sLen+m)+192)*bytes≤281474976710656→
          Rel μ lo hh w→Frame lo μ h w μ hh w→
          OpOK P lo (Builtin.append_ #[sT,xT] ty #[s',x']) μ h w (.slice (some ⟨hh.next,0,none⟩) (sLen+m) inex) (hh.alloc (.cells n (olds++xs))):=by
        intro base sLen sCap olds olds' hh hs' ho hol hfo hcap h63 h48 rr ff
        subst hs'
        have hrun:=run_append_more' (P:=P) (w:=w) (sT:=sT) (xT:=xT) (ty:=ty) hu hi hzv hux hl hfo hfd hcap h63 (by rw[hb];exact h48)
        generalize hC:grownCap w (sLen+m) sCap e=C at hrun
        have hCge:sLen+m≤C:=by rw[← hC];exact grownCap_ge w (sLen+m) sCap e
        have hzsz:zv.cells.size=n:=by rw[← hc1,← hzl];simp
        have hxl':xs'.length=m*n:=by rw[← hxs'.1];exact hxl
        have hol':olds'.length=sLen*n:=by rw[← ho.1];exact hol
        have harr:(olds'.toArray++xs'.toArray++Builtin.zeroCells zv.cells (C - (sLen+m))).toList=olds'++xs'++reps z (C - (sLen+m)):=by
          have:=range_zero zv.cells (C - (sLen+m))
          rw[hzl] at this
          simp only[Array.toList_append,Builtin.zeroCells,this]
        obtain⟨μ',h1,h2,h3⟩:=zh2 rr.drew (olds'.toArray++xs'.toArray++Builtin.zeroCells zv.cells (C - (sLen+m))) e n C (olds++xs)
          (fun j u hj=>by
            obtain⟨u',h1,h2⟩:=(ho.append hxs').2 j u hj
            refine⟨u',?_,h2⟩
            rw[← Array.getElem?_toList,harr,List.getElem?_append_left ?_]
            · exact h1
            rcases Nat.lt_or_ge j (olds'++xs').length with h|h
            · exact h
            rw[List.getElem?_eq_none h] at h1;simp at h1)
          (fun _=>by
            have hsz:(olds'.toArray++xs'.toArray++Builtin.zeroCells zv.cells (C - (sLen+m))).size=C*n:=by
              rw[← Array.length_toList,harr]
              simp only[List.length_append,zhm,hol',hxl',hc1]
              rw[← Nat.add_mul,← Nat.add_mul]
              congr 1;omega
            refine⟨?_,by rw[hsz];exact Nat.le_refl _⟩
            simp only[List.length_append,hol,hxl]
            rw[← Nat.add_mul]
            exact Nat.mul_le_mul_right n hCge)
        refine⟨_,_,μ',hrun,?_,h2,ff.trans ((Frame.drew lo μ hh w).trans h3)⟩
        have hco:zcy C inex=C:=zoo C
        have:=RelV.slice hh.next 0 (sLen+m) inex w.heap.size 0 C h1 (by rw[hco];exact hCge) zml
        rwa [hco] at this
      have idle:m=0→∀(base:Option Addr) (sLen sCap:Nat),s'=.slice base sLen sCap→sLen≤sCap→(Builtin.append_ #[sT,xT] ty #[s',x']).run P w=.ok s' w:=by
        intro hm base sLen sCap hs' hle
        subst hs'
        have hx0:xs'=[]:=by
          have:xs'.length=0:=by rw[← hxs'.1,hxl,hm];simp
          exact List.eq_nil_of_length_eq_zero this
        subst hx0
        rw[run_append_fits' (P:=P) (w:=w) (sT:=sT) (xT:=xT) (ty:=ty) hu hi hux hl hf0 (by omega)]
        cases base<;>simp[storeCells,hm]
      have fits:∀(o off l k b a C so:Nat) (cs:List Value),s'=.slice (some ⟨b,a+off,none⟩) l (zcy C k)→μ o=some (b,a,C)→h.get o=some (.cells so cs)→lo≤o→off+(l+m)*n≤cs.length→l+m≤zcy C k→k<unk→
          OpOK P lo (Builtin.append_ #[sT,xT] ty #[s',x']) μ h w (.slice (some ⟨o,off,none⟩) (l+m) k) (h.put o (some (.cells so (zcb cs (off+l*n) xs)))):=by
        intro o off l k b a C so cs hs' hm ho hlo hfit hcap hku
        subst hs'
        have hlen2:off+l*n+xs.length≤cs.length:=by rw[hxl];rw[Nat.add_mul] at hfit;omega
        obtain⟨h5,h6⟩:=zj0 r ho hlo hm (off+l*n) xs xs' hxs' hlen2
        have hst:=zd7 (P:=P) r ho hlo hm (off+l*n) xs xs' hxs' hc3 hlen2
        refine⟨.slice (some ⟨b,a+off,none⟩) (l+m) (zcy C k),w.setCells b (a+(off+l*n)) xs',μ,?_,?_,h5,h6⟩
        · rw[run_append_fits' (P:=P) (w:=w) (sT:=sT) (xT:=xT) (ty:=ty) hu hi hux hl hf0 hcap]
          simp only[zd4,hin]
          rw[show a+off+l*n=a+(off+l*n) by omega,hst,Result.andThen_ok]
        exact .slice o off (l+m) k b a C hm hcap hku
      split at ha
      · -- nil
        cases hs
        rcases zam m 0 with⟨hq,hq'⟩|⟨hq,hq'⟩
        · rw[hq] at ha;simp only[xfp,xfm,xfn] at ha;obtain⟨rfl,rfl⟩:=ha
          exact .same r (idle hq' none 0 0 rfl (Nat.le_refl _)) .sliceNil
        rw[hq] at ha;simp only[xfq] at ha
        cases hc:(Nat.ble m 17592186044416&&Nat.ble ((2*m+192)*bytes) 281474976710656) with
        |false=>rw[hc] at ha;simp at ha
        | true =>
          rw[hc] at ha;simp only[xfp,xfm,xfn] at ha;obtain⟨rfl,rfl⟩:=ha
          simp only[xfr] at hc
          have e1:m≤17592186044416:=by simpa using hc.1
          have e2:(2*m+192)*bytes≤281474976710656:=by simpa using hc.2
          have:=more none 0 0 [] [] h rfl (zas.nil μ) (by simp) (by simp[Builtin.firstCells]) (by omega) (by omega) (by simpa using e2) r (Frame.refl _ _ _ _)
          simpa using this
      · rename_i o off l k
        rcases zam m 0 with⟨hq,hq'⟩|⟨hq,hq'⟩
        · rw[hq] at ha;simp only[xfp,xfm,xfn] at ha;obtain⟨rfl,rfl⟩:=ha
          have hs0:=hs
          cases hs with
          |slice _ _ _ _ b a C hm hl2 hku=>exact .same r (idle hq' _ _ _ rfl hl2) hs0
          |sliceZ p p' c=>exact .same r (idle hq' _ _ _ rfl (Nat.zero_le _)) hs0
          |slice0 p p'=>exact .same r (idle hq' _ _ _ rfl (Nat.zero_le _)) hs0
        rw[hq] at ha;simp only[xfq] at ha
        cases hk:Nat.blt k inex with
        | true =>
          rw[hk] at ha;simp only[xfp] at ha
          have hk':k<inex:=by rw[Nat.blt_eq] at hk;exact hk
          cases hfit:Nat.ble (l+m) k with
          | true =>
            rw[hfit] at ha;simp only[xfp] at ha
            have hfit':l+m≤k:=by simpa using hfit
            split at ha
            · rename_i so cs ho
              cases hc:(Nat.ble lo o&&Nat.ble (off+(l+m)*n) cs.length) with
              |false=>rw[hc] at ha;simp at ha
              | true =>
                rw[hc] at ha;simp only[xfp,xfm,xfn] at ha;obtain⟨rfl,rfl⟩:=ha
                simp only[xfr] at hc
                have e1:lo≤o:=by simpa using hc.1
                have e2:off+(l+m)*n≤cs.length:=by simpa using hc.2
                cases hs with
                |slice _ _ _ _ b a C hm hl2 hku=>exact fits o off l k b a C so cs rfl hm ho e1 e2 (by rw[zcr hk'];exact hfit') hku
                |sliceZ p p' c=>exact(zkp hk').elim
                |slice0 p p'=>omega
            simp at ha
          | false =>
            rw[hfit] at ha;simp only[xfq] at ha
            have hfit' : ¬ l + m ≤ k := by intro hh; have : Nat.ble (l + m) k = true := by simpa using hh
                                           rw[hfit] at this;cases this
            split at ha
            · rename_i olds hso
              cases hc:(Nat.ble (l+m) 17592186044416&&Nat.ble ((2*(l+m)+192)*bytes) 281474976710656) with
              |false=>rw[hc] at ha;simp at ha
              | true =>
                rw[hc] at ha;simp only[xfp,xfm,xfn] at ha;obtain⟨rfl,rfl⟩:=ha
                simp only[xfr] at hc
                have e1:l+m≤17592186044416:=by simpa using hc.1
                have e2:(2*(l+m)+192)*bytes≤281474976710656:=by simpa using hc.2
                have hs0:=hs
                cases hs with
                | slice _ _ _ _ b a C hm hl2 hku =>
                  rw[zcr hk'] at hs0
                  obtain⟨os',g1,g2,g3⟩:=zic (P:=P) r hs0 rfl (Nat.le_refl _) hso
                  rw[zcr hk']
                  have:=more (some ⟨b,a+off,none⟩) l k olds os' h (by rw[zcr hk']) g2 g3 (by rw[hin];exact g1 w.drew (fun _=>rfl)) (by omega) e1 e2 r (Frame.refl _ _ _ _)
                  rwa [zcr hk'] at this
                |sliceZ p p' c=>exact(zkp hk').elim
                | slice0 p p' =>
                  obtain⟨os',g1,g2,g3⟩:=zic (P:=P) r hs0 rfl (Nat.le_refl _) hso
                  exact more (some p') 0 0 olds os' h rfl g2 g3 (by rw[hin];exact g1 w.drew (fun _=>rfl)) (by omega) e1 e2 r (Frame.refl _ _ _ _)
            simp at ha
        | false =>
          rw[hk] at ha;simp only[xfq] at ha
          have hk':¬k<inex:=by intro hh;rw[← Nat.blt_eq,hk] at hh;cases hh
          cases hk2:Nat.blt k unk with
          |false=>rw[hk2] at ha;simp at ha
          |true=>
          rw[hk2] at ha;simp only[xfp] at ha
          have hk2':k<unk:=by rw[Nat.blt_eq] at hk2;exact hk2
          split at ha
          · rename_i so cs ho
            cases hc:(Nat.ble lo o&&Nat.beq off ((k - inex)*n)&&Nat.beq so n&&Nat.ble (l+m) 17592186044416&&Nat.ble ((2*(l+m)+192)*bytes) 281474976710656) with
            |false=>rw[hc] at ha;simp at ha
            | true =>
              rw[hc] at ha;simp only[Bool.not_true,xfq] at ha
              simp only[xfr] at hc
              obtain⟨⟨⟨⟨c1,c2⟩,c3⟩,c4⟩,c5⟩:=hc
              have c1:lo≤o:=by simpa using c1
              have c2:off=(k - inex)*n:=by simpa using c2
              have c3:so=n:=by simpa using c3
              have c4:l+m≤17592186044416:=by simpa using c4
              have c5:(2*(l+m)+192)*bytes≤281474976710656:=by simpa using c5
              subst c3
              cases hs with
              |sliceZ p p' c=>omega
              |slice0 p p'=>exact(zpz hk').elim
              | slice _ _ _ _ b a C hm hl2 hku =>
                have hobj:=ze0 r ho hm
                obtain⟨hblk,hcells,hroom⟩:=hobj
                obtain⟨hr1,hr2⟩:=hroom hc2
                have hcap:zcy C k=C - (k - inex):=by simp[zcy,hk']
                cases hin1:Nat.ble (off+(l+m)*so) cs.length with
                | true =>
                  rw[hin1] at ha;simp only[xfp,xfm,xfn] at ha;obtain⟨rfl,rfl⟩:=ha
                  have e2:off+(l+m)*so≤cs.length:=by simpa using hin1
                  refine fits o off l k b a C so cs rfl hm ho c1 e2 ?_ hku
                  rw[hcap]
                  have:(k - inex+(l+m))*so≤C*so:=by rw[Nat.add_mul];omega
                  have:=Nat.le_of_mul_le_mul_right this hc2
                  omega
                | false =>
                  rw[hin1] at ha;simp only[xfq] at ha
                  cases hin2:Nat.ble (off+l*so) cs.length with
                  |false=>rw[hin2] at ha;simp at ha
                  | true =>
                    rw[hin2] at ha;simp only[xfp,xfm,xfn] at ha;obtain⟨rfl,rfl⟩:=ha
                    have e2:off+l*so≤cs.length:=by simpa using hin2
                    have hlt:=zaa.zai ho
                    obtain⟨fr,ff⟩:=zvm r c1 hlt
                    obtain⟨os',g1,g2,g3⟩:=zif (ze0 r ho hm) off (l*so) e2
                    have hrun0:=run_loadCells_list (P:=P) w.drew _ os' (fun j v hj=>g3 j v hj)
                    rw[g2] at hrun0
                    by_cases hroom2:l+m≤zcy C k
                    · -- in place, beyond what was known
                      have hpos:off+l*so+xs'.length≤C*so:=by
                        rw[← hxs'.1,hxl]
                        have:(k - inex+(l+m))*so≤C*so:=Nat.mul_le_mul_right so (by omega)
                        rw[Nat.add_mul,Nat.add_mul] at this
                        omega
                      have hthere:∀j,j<xs'.length→(w.cell? ⟨b,a+off+l*so+j,none⟩).isSome=true:=fun j hj=>by
                        obtain⟨v',h3⟩:=hr2 (off+l*so+j) (by omega)
                        rw[show a+off+l*so+j=a+(off+l*so+j) by omega,h3];rfl
                      have hst:=run_storeCells_cells (P:=P) b (a+off+l*so) xs' 0 w (by simpa using hthere) (fun j hj=>r.thaw o _ b a C c1 ho hm _) (zlh hxs' hc3)
                      simp only[Nat.add_zero] at hst
                      have hcs_out:∀j,j<l*so→(w.setCells b (a+off+l*so) xs').cell? ⟨b,a+off+j,none⟩=w.cell? ⟨b,a+off+j,none⟩:=fun j hj=>
                        World.cell?_setCells_out b xs' _ w _ (fun _ _=>by simp;omega)
                      obtain⟨μ',q1,q2,q3⟩:=zwe r ho c1 hm (.cells so ((cs.drop off).take (l*so)++xs)) (a+off) (C - (k - inex)) (w':=w.setCells b (a+off+l*so) xs')
                        (zc5 _ _ _ _) (fun b' hb'=>zel _ _ _ _ hb')
                        (fun ν hν=>by
                          refine⟨by rw[zc5];exact hblk,fun j u hj=>?_,fun _=>⟨?_,fun j hj=>?_⟩⟩
                          · have hlen1:((cs.drop off).take (l*so)).length=l*so:=by simp;omega
                            by_cases hjl:j<l*so
                            · rw[List.getElem?_append_left (by omega)] at hj
                              obtain⟨u',t1,t2⟩:=g1.2 j u hj
                              refine⟨u',?_,t2.mono hν⟩
                              rw[hcs_out j hjl]
                              have:=g3 j u' t1
                              rwa [zd4] at this
                            rw[List.getElem?_append_right (by omega),hlen1] at hj
                            obtain⟨u',t1,t2⟩:=hxs'.2 _ u hj
                            have hjx:j - l*so<xs'.length:=by
                              rcases Nat.lt_or_ge (j - l*so) xs'.length with h|h
                              · exact h
                              rw[List.getElem?_eq_none h] at t1;simp at t1
                            refine⟨u',?_,t2.mono hν⟩
                            have:=World.cell?_setCells_in b xs' (a+off+l*so) w hthere (j - l*so) hjx
                            rw[show a+off+l*so+(j - l*so)=a+off+j by omega] at this
                            rw[this]
                            rw[List.getElem?_eq_getElem hjx] at t1
                            exact t1
                          · simp only[List.length_append,List.length_take,List.length_drop,hxl]
                            rw[Nat.min_eq_left (by omega),← Nat.add_mul]
                            exact Nat.mul_le_mul_right so (by omega)
                          have hjC:off+j<C*so:=by
                            rw[Nat.sub_mul] at hj;omega
                          obtain⟨v',h3⟩:=hr2 (off+j) hjC
                          by_cases hjin:l*so≤j∧j<l*so+xs'.length
                          · have:=World.cell?_setCells_in b xs' (a+off+l*so) w hthere (j - l*so) (by omega)
                            rw[show a+off+l*so+(j - l*so)=a+off+j by omega] at this
                            exact⟨_,this⟩
                          refine⟨v',?_⟩
                          rw[World.cell?_setCells_out b xs' _ w _ (fun _ _=>by simp;omega)]
                          rw[show a+off+j=a+(off+j) by omega]
                          exact h3)
                        (fun off'=>by rw[World.frozen?_setCells];exact r.thaw o _ b a C c1 ho hm off') (zhd _ _ _ _)
                      refine⟨.slice (some ⟨b,a+off,none⟩) (l+m) (zcy C k),w.setCells b (a+off+l*so) xs',μ',?_,?_,q2,q3⟩
                      · rw[run_append_fits' (P:=P) (w:=w) (sT:=sT) (xT:=xT) (ty:=ty) hu hi hux hl hf0 hroom2]
                        simp only[zd4,hin]
                        rw[hst,Result.andThen_ok]
                      have hco:zcy (C - (k - inex)) inex=C - (k - inex):=zoo _
                      have:=RelV.slice h.next 0 (l+m) inex b (a+off) (C - (k - inex)) q1 (by rw[hco];omega) zml
                      rw[hco] at this
                      rw[hcap]
                      exact this
                    have:=more (some ⟨b,a+off,none⟩) l (zcy C k) ((cs.drop off).take (l*so)) os' (h.put o none) rfl g1 (by simp;omega) (by simpa[Builtin.firstCells,hin] using hrun0) (by omega) c4 c5 fr ff
                    simpa using this
          simp at ha
      simp at ha
    simp at ha
  simp at ha
end Go.Am
end
/-
 The abstract machine, part I: the other builtins; maps with integer keys.
-/
section
namespace Go.Am
theorem OpOK.mk {P:Program}{lo:Nat}{s:Sem Value}{μ μ':Mu}{h h':zaa}{w w':World}{v v':Value}(hr:s.run P w=.ok v' w')(hv:RelV μ' v v')(r:Rel μ' lo h' w')(f:Frame lo μ h w μ' h' w') :
 OpOK P lo s μ h w v h':=⟨v',w',μ',hr,hv,r,f⟩
def zdq (n:Nat):Value:=.int .i64 n
def zvi (P:Program)(lo:Nat)(h:zaa)(dT:TypeId)(d x:Value):Option (Value×zaa):=
 match zc8 P dT,alen d,alen x with
 |some (_,n),some dl,some xl=>
  match zdp h n x (Nat.min xl dl) with
  |some xs=>
   bif Nat.beq (Nat.min xl dl) 0 then some (zdq 0,h) else
   match d with
   |.slice (some ⟨o,off,none⟩) _ _=>
    match h.get o with
    |some (.cells s cs)=>
     bif Nat.ble lo o&&Nat.ble (off+xs.length) cs.length&&xs.all (·.oneCell') then some (zdq (Nat.min xl dl),h.put o (some (.cells s (zcb cs off xs)))) else none
    |_=>none
   |_=>none
  |none=>none
 |_,_,_=>none
theorem z0p {P:Program}{lo:Nat}{μ:Mu}{h:zaa}{w:World}(r:Rel μ lo h w){dT xT ty:TypeId}{d d' x x' v:Value}{h':zaa}(hd:RelV μ d d')(hx:RelV μ x x')
  (ha:zvi P lo h dT d x=some (v,h')):OpOK P lo (Builtin.copy_ #[dT,xT] ty #[d',x']) μ h w v h':=by
 unfold zvi at ha
 split at ha
 ·rename_i e n dl xl hte hdl hxl
  obtain⟨hu,hn⟩:=zc2 hte
  obtain⟨hl1,px,cx,hxs⟩:=zsh (P:=P) (w:=w) hx hxl
  obtain⟨_,pd,cd,hds⟩:=zsh (P:=P) (w:=w) hd hdl
  split at ha
  ·rename_i xs hsrc
   obtain⟨xs',hf,hxs',hlen⟩:=zic (P:=P) r hx hxs (Nat.min_le_left _ _) hsrc
   have hf0:(Builtin.firstCells n (Nat.min xl dl) x').run P w=.ok xs'.toArray w:=hf w (fun _=>rfl)
   have hlen:xs.length=Nat.min xl dl*n:=hlen
   have hmm:min xl dl=Nat.min xl dl:=rfl
   rcases zam (Nat.min xl dl) 0 with⟨hq,hq'⟩|⟨hq,hq'⟩
   ·rw[hq] at ha;simp only[xfp,xfm,xfn] at ha;obtain⟨rfl,rfl⟩:=ha
    have hx0:xs'=[]:=by
     have:xs'.length=0:=by rw[← hxs'.1,hlen,hq'];simp
     exact List.eq_nil_of_length_eq_zero this
    subst hx0
    rw[hq'] at hf0
    refine .same r (v':=.int .i64 0) ?_ (.int _ _)
    subst hds
    cases pd<;>simp[Builtin.copy_,run_underlying hu,hl1,zc6 hn,hq',hf0,storeCells,goInt]
   rw[hq] at ha;simp only[xfq] at ha
   split at ha
   ·rename_i o off l0 k0
    split at ha
    ·rename_i so cs ho
     cases hc:(Nat.ble lo o&&Nat.ble (off+xs.length) cs.length&&xs.all (·.oneCell')) with
     |false=>rw[hc] at ha;simp at ha
     |true=>
      rw[hc] at ha;simp only[xfp,xfm,xfn] at ha;obtain⟨rfl,rfl⟩:=ha
      simp only[xfr] at hc
      obtain⟨⟨c1,c2⟩,c3⟩:=hc
      have c1:lo≤o:=by simpa using c1
      have c2:off+xs.length≤cs.length:=by simpa using c2
      simp only[alen,xfm] at hdl
      subst hdl
      cases hd with
      |slice _ _ _ _ b a C hm hl hku=>
       obtain⟨h5,h6⟩:=zj0 r ho c1 hm off xs xs' hxs' c2
       have hst:=zd7 (P:=P) r ho c1 hm off xs xs' hxs' c3 c2
       refine .mk (v':=.int .i64 (Nat.min xl l0)) (w':=w.setCells b (a+off) xs') ?_ (.int _ _) h5 h6
       simp[Builtin.copy_,run_underlying hu,hl1,zc6 hn,hf0,hst,goInt]
      |sliceZ=>exact(hq' (by simp)).elim
      |slice0=>exact(hq' (by simp)).elim
    simp at ha
   simp at ha
  simp at ha
 simp at ha
def zec (P:Program)(h:zaa)(t:TypeId)(x:Value):Option Value:=
 match P.underlying t,x with
 |some .string,.string s=>some (zdq s.size)
 |some (.slice _),.slice _ n _=>some (zdq n)
 |some (.array n _),_=>some (zdq n)
 |some (.map _ _),.map none=>some (zdq 0)
 |some (.map _ _),.map (some o)=>match h.get o with
  |some (.map es)=>some (zdq es.length)
  |_=>none
 |_,_=>none
theorem zyb {P:Program}{lo:Nat}{μ:Mu}{h:zaa}{w:World}(r:Rel μ lo h w){t ty:TypeId}{x x' v:Value}(hx:RelV μ x x')(ha:zec P h t x=some v) :
  OpOK P lo (Builtin.len_ #[t] ty #[x']) μ h w v h:=by
 unfold zec at ha
 split at ha
 ·rename_i hu;simp only[xfm] at ha;subst ha;cases hx
  exact .same r (by simp[Builtin.len_,run_underlying hu];rfl) (.int _ _)
 ·rename_i hu;simp only[xfm] at ha;subst ha
  cases hx<;>exact .same r (by simp[Builtin.len_,run_underlying hu];rfl) (.int _ _)
 ·rename_i hu;simp only[xfm] at ha;subst ha
  exact .same r (by simp[Builtin.len_,run_underlying hu];rfl) (.int _ _)
 ·rename_i hu;simp only[xfm] at ha;subst ha;cases hx
  exact .same r (by simp[Builtin.len_,run_underlying hu];rfl) (.int _ _)
 ·rename_i hu
  split at ha
  ·rename_i es ho
   simp only[xfm] at ha;subst ha
   cases hx with
   |map o b C hm=>
    obtain⟨_,entries,clock,h1,l,h2,h3,h4,_⟩:=ze0 r ho hm
    have hl:entries.size=es.length:=by rw[← h4];exact h2.length_eq
    refine .same r (v':=.int .i64 es.length) ?_ (.int _ _)
    simp[Builtin.len_,run_underlying hu,getObj,Sem.run,h1,hl,goInt]
  simp at ha
 simp at ha
def acap (P:Program)(t:TypeId)(x:Value):Option Value:=
 match P.underlying t,x with
 |some (.slice _),.slice _ _ k=>bif Nat.blt k inex then some (zdq k) else none
 |_,_=>none
theorem z4s {P:Program}{μ:Mu}{w:World}{t ty:TypeId}{x x' v:Value}(hx:RelV μ x x')(ha:acap P t x=some v):∃v',(Builtin.cap_ #[t] ty #[x']).run P w=.ok v' w∧RelV μ v v':=by
 unfold acap at ha
 split at ha
 ·rename_i e p l k hu
  cases hk:Nat.blt k inex with
  |false=>rw[hk] at ha;simp at ha
  |true=>
   rw[hk] at ha;simp only[xfp,xfm] at ha;subst ha
   have hk':k<inex:=by rw[Nat.blt_eq] at hk;exact hk
   cases hx with
   |sliceNil=>exact⟨_,by simp[Builtin.cap_,run_underlying hu];rfl,.int _ _⟩
   |slice _ _ _ _ b a C hm hl hku=>exact⟨_,by simp[Builtin.cap_,run_underlying hu,zcr hk'];rfl,.int _ _⟩
   |sliceZ=>exact(zkp hk').elim
   |slice0=>exact⟨_,by simp[Builtin.cap_,run_underlying hu];rfl,.int _ _⟩
 simp at ha
def zi0 (P:Program)(lo:Nat)(h:zaa)(t:TypeId)(x:Value):Option zaa:=
 match zc8 P t,x with
 |some _,.slice none _ _=>some h
 |some _,.slice (some _) 0 _=>some h
 |some (e,n),.slice (some ⟨o,off,none⟩) l _=>
  match zg8 P e,h.get o with
  |some z,some (.cells s cs)=>
   bif Nat.ble lo o&&Nat.beq z.length n&&Nat.ble (off+l*n) cs.length&&z.all (·.oneCell') then some (h.put o (some (.cells s (zcb cs off (reps z l))))) else none
  |_,_=>none
 |_,_=>none
theorem zux {z:List Value}(h:z.all (·.oneCell')=true):∀n,(reps z n).all (·.oneCell')=true
 |0=>rfl
 |n+1=>by rw[reps,List.all_append,h,zux h n];rfl
theorem zmn {P:Program}{t:TypeId}{q:TypeId×Nat}(h:zc8 P t=some q):P.underlying t=some (.slice q.1):=(zc2 (e:=q.1) (n:=q.2) h).1
theorem zwk {P:Program}{lo:Nat}{μ:Mu}{h:zaa}{w:World}(r:Rel μ lo h w){t ty:TypeId}{x x':Value}{h':zaa}(hx:RelV μ x x')(ha:zi0 P lo h t x=some h') :
  OpOK P lo (Builtin.clear_ #[t] ty #[x']) μ h w Go.undef h':=by
 unfold zi0 at ha
 split at ha
 ·rename_i hte
  have hu:=zmn hte
  simp only[xfm] at ha;subst ha
  cases hx
  exact .same r (v':=Go.undef) (by simp[Builtin.clear_,run_underlying hu,Go.undef]) .undef
 ·rename_i hte
  have hu:=zmn hte
  simp only[xfm] at ha;subst ha
  cases hx<;>exact .same r (v':=Go.undef) (by simp[Builtin.clear_,run_underlying hu,Go.undef]) .undef
 ·rename_i e n o off l k hne hte
  obtain⟨hu,hn⟩:=zc2 hte
  split at ha
  ·rename_i z s cs hz ho
   cases hc:(Nat.ble lo o&&Nat.beq z.length n&&Nat.ble (off+l*n) cs.length&&z.all (·.oneCell')) with
   |false=>rw[hc] at ha;simp at ha
   |true=>
    rw[hc] at ha;simp only[xfp,xfm] at ha;subst ha
    simp only[xfr] at hc
    obtain⟨⟨⟨c1,c2⟩,c3⟩,c4⟩:=hc
    have c1:lo≤o:=by simpa using c1
    have c2:z.length=n:=by simpa using c2
    have c3:off+l*n≤cs.length:=by simpa using c3
    obtain⟨zv,h1,h2,h3⟩:=zez hz w
    have hl0:l≠0:=fun h=>hne h
    cases hx with
    |slice _ _ _ _ b a C hm hl hku=>
     have hrel:zas μ (reps z l) (reps z l):=zin (h2▸zhj h3) l
     have hlen:off+(reps z l).length≤cs.length:=by rw[zhm,c2];exact c3
     obtain⟨h5,h6⟩:=zj0 r ho c1 hm off _ _ hrel hlen
     have hst:=zd7 (P:=P) r ho c1 hm off _ _ hrel (zux c4 l) hlen
     have hzc:(Builtin.zeroCells zv.cells l).toList=reps z l:=by
      have:=range_zero zv.cells l
      rw[h2] at this;exact this
     refine .mk (v':=Go.undef) (w':=w.setCells b (a+off) (reps z l)) ?_ .undef h5 h6
     cases l with
     |zero=>exact(hl0 rfl).elim
     |succ l=>simp[Builtin.clear_,run_underlying hu,h1,hzc,hst,Go.undef]
    |sliceZ=>exact(hl0 rfl).elim
    |slice0=>exact(hl0 rfl).elim
  simp at ha
 simp at ha
def zd0 (mx:Bool):Value→Value→Option Value
 |.int k x,.int _ y=>some (.int k (bif mx then (if y > x then y else x) else (if y<x then y else x)))
 |_,_=>none
def zcx (mx:Bool):Value→List Value→Option Value
 |x,[]=>some x
 |x,y::r=>match zd0 mx x y with
  |some z=>zcx mx z r
  |none=>none
theorem zul {P:Program}{μ:Mu}{w:World}:∀ {r r':List Value} {x x' v:Value},RelV μ x x'→zas μ r r'→zcx true x r=some v→∃v',(r'.foldlM Builtin.max2 x').run P w=.ok v' w∧RelV μ v v'
 |[],r',x,x',v,hx,hr,h=>by
  have:=hr.zcd;subst this
  simp only[zcx,xfm] at h;subst h
  exact⟨x',rfl,hx⟩
 |y::r,r',x,x',v,hx,hr,h=>by
  obtain⟨y',r2,rfl,hy,hr2⟩:=hr.zax
  simp only[zcx] at h
  split at h
  ·rename_i z hz
   unfold zd0 at hz
   split at hz
   ·cases hx;cases hy
    simp only[xfp,xfm] at hz;subst hz
    obtain⟨v',h1,h2⟩:=zul (P:=P) (w:=w) (RelV.int _ _) hr2 h
    exact⟨v',by simp only[List.foldlM_cons,Sem.run_bind,Builtin.max2,Sem.run_pure,Result.andThen_ok];exact h1,h2⟩
   simp at hz
  simp at h
theorem ztw {P:Program}{μ:Mu}{w:World}:∀ {r r':List Value} {x x' v:Value},RelV μ x x'→zas μ r r'→zcx false x r=some v→∃v',(r'.foldlM Builtin.min2 x').run P w=.ok v' w∧RelV μ v v'
 |[],r',x,x',v,hx,hr,h=>by
  have:=hr.zcd;subst this
  simp only[zcx,xfm] at h;subst h
  exact⟨x',rfl,hx⟩
 |y::r,r',x,x',v,hx,hr,h=>by
  obtain⟨y',r2,rfl,hy,hr2⟩:=hr.zax
  simp only[zcx] at h
  split at h
  ·rename_i z hz
   unfold zd0 at hz
   split at hz
   ·cases hx;cases hy
    simp only[xfq,xfm] at hz;subst hz
    obtain⟨v',h1,h2⟩:=ztw (P:=P) (w:=w) (RelV.int _ _) hr2 h
    exact⟨v',by simp only[List.foldlM_cons,Sem.run_bind,Builtin.min2,Sem.run_pure,Result.andThen_ok];exact h1,h2⟩
   simp at hz
  simp at h
def zkk (kd:IntKind)(n:Int):List (Value×Value)→Option (Option Value)
 |[]=>some none
 |(.int k a,v)::r=>
  bif decide (k=kd) then
   match zkk kd n r with
   |none=>none
   |some q=>some (bif decide (a=n) then some v else q)
  else none
 |_=>none
theorem zit {kd:IntKind}{n:Int}:∀ {es:List (Value×Value)} {q:Option Value},zkk kd n es=some q→
  (∀p∈es,∃a,p.1=.int kd a)∧(∀v,q=some v→(Value.int kd n,v)∈es)∧(q=none→∀p∈es,p.1≠.int kd n)
 |[],q,h=>by simp only[zkk,xfm] at h;subst h;exact⟨by simp,by simp,by simp⟩
 |(k,v)::r,q,h=>by
  unfold zkk at h
  split at h
  ·rename_i heq;cases heq
  ·rename_i k a v' r' heq
   simp only[List.cons.injEq,xfn] at heq
   obtain⟨⟨rfl,rfl⟩,rfl⟩:=heq
   cases hk:decide (k=kd) with
   |false=>rw[hk] at h;simp at h
   |true=>
    rw[hk] at h;simp only[xfp] at h
    have hk':k=kd:=by simpa using hk
    subst hk'
    split at h
    ·simp at h
    rename_i q' hq'
    obtain⟨i1,i2,i3⟩:=zit hq'
    simp only[xfm] at h;subst h
    refine⟨?_,?_,?_⟩
    ·intro p hp
     cases List.mem_cons.1 hp with
     |inl e=>subst e;exact⟨a,rfl⟩
     |inr e=>exact i1 p e
    ·intro u hu
     cases ha:decide (a=n) with
     |true=>rw[ha] at hu;simp at hu ha;subst hu ha;simp
     |false=>rw[ha] at hu;simp only[xfq] at hu;exact List.mem_cons_of_mem _ (i2 u hu)
    intro hn p hp
    cases ha:decide (a=n) with
    |true=>rw[ha] at hn;simp at hn
    |false=>
     rw[ha] at hn;simp only[xfq] at hn
     have ha':a≠n:=by simpa using ha
     cases List.mem_cons.1 hp with
     |inl e=>subst e;simpa using ha'
     |inr e=>exact i3 hn p e
  simp at h
theorem findNow_spec {k0 kd:IntKind}{n:Int}:∀(L:List MapEntry) (i:Nat),(∀e∈L,∃a,e.key=.int kd a)→
  (∃j e,L[j]?=some e∧e.key=.int kd n∧Instr.findNow (.int k0) (.int kd n) L i=some (some (i+j,e.val)))∨((∀e∈L,e.key≠.int kd n)∧Instr.findNow (.int k0) (.int kd n) L i=some none)
 |[],i,_=>.inr ⟨by simp,rfl⟩
 |e::L,i,h=>by
  obtain⟨a,ha⟩:=h e (by simp)
  simp only[Instr.findNow,ha,Instr.sameNow,if_true]
  by_cases hn:n=a
  ·subst hn
   simp only[beq_self_eq_true]
   exact .inl ⟨0,e,by simp,ha,by simp⟩
  have:(n==a)=false:=by simpa using hn
  simp only[this]
  rcases findNow_spec (k0:=k0) (kd:=kd) (n:=n) L (i+1) (fun e he=>h e (List.mem_cons_of_mem _ he)) with⟨j,e',h1,h2,h3⟩|⟨h1,h2⟩
  ·exact .inl ⟨j+1,e',by simpa using h1,h2,by rw[h3];simp;omega⟩
  refine .inr ⟨fun e' he'=>?_,h2⟩
  cases List.mem_cons.1 he' with
  |inl e''=>subst e'';rw[ha];simp;exact fun h=>hn h.symm
  |inr e''=>exact h1 e' e''
def tkey (P:Program)(t:TypeId):Option (TypeId×TypeId):=
 match P.underlying t with
 |some (.map k e)=>match P.underlying k with
  |some (.int _)=>some (k,e)
  |_=>none
 |_=>none
theorem zmm {P:Program}{t k e:TypeId}(h:tkey P t=some (k,e)):P.underlying t=some (.map k e)∧∃k0,P.underlying k=some (.int k0):=by
 unfold tkey at h
 split at h
 ·rename_i k' e' hu
  split at h
  ·rename_i k0 hk
   simp only[xfm,xfn] at h
   obtain⟨rfl,rfl⟩:=h
   exact⟨hu,k0,hk⟩
  simp at h
 simp at h
theorem zr2 {α:Type}{l:List α}(h:l.Nodup){i j:Nat}(hi:i<l.length)(hj:j<l.length)(he:l[i]=l[j]):i=j:=by
 rcases Nat.lt_trichotomy i j with h1|h1|h1
 ·exact absurd he (List.pairwise_iff_getElem.1 h i j hi hj h1)
 ·exact h1
 exact absurd he.symm (List.pairwise_iff_getElem.1 h j i hj hi h1)
theorem zht {P:Program}{w:World}{μ:Mu}{es:List (Value×Value)}{entries:Array MapEntry}{clock:Nat}(hM:RelM μ es entries clock){kT:TypeId}{k0 kd:IntKind}{n:Int}{q:Option Value}(hk:P.underlying kT=some (.int k0))(hq:zkk kd n es=some q) :
  (∃v j e,q=some v∧entries[j]?=some e∧e.key=.int kd n∧RelV μ v e.val∧(Instr.findKey kT (.int kd n) entries.toList).run P w=.ok (some (j,e.val)) w)∨
  (q=none∧(∀e∈entries.toList,e.key≠.int kd n)∧(Instr.findKey kT (.int kd n) entries.toList).run P w=.ok none w):=by
 obtain⟨l,h1,h0,h2,h3,h4,h5⟩:=hM
 obtain⟨i1,i2,i3⟩:=zit hq
 have hall:∀e∈entries.toList,∃p∈es,RelE μ p e:=fun e he=>by
  obtain⟨j,hj⟩:=List.getElem?_of_mem he
  have hj':entries[j]?=some e:=by simpa using hj
  have hjl:j<l.length:=by
   rw[h2]
   rcases Nat.lt_or_ge j entries.size with h|h
   ·exact h
   rw[Array.getElem?_eq_none h] at hj';simp at hj'
  exact⟨l[j],h1.mem_iff.1 (List.getElem_mem hjl),h3 j l[j] e (by simp[hjl]) hj'⟩
 have hkeys:∀e∈entries.toList,∃a,e.key=.int kd a:=fun e he=>by
  obtain⟨p,hp,hr⟩:=hall e he
  obtain⟨a,ha⟩:=i1 p hp
  exact⟨a,by rw[hr.1,ha]⟩
 rcases findNow_spec (k0:=k0) (n:=n) entries.toList 0 hkeys with⟨j,e,g1,g2,g3⟩|⟨g1,g2⟩
 ·have he:e∈entries.toList:=List.mem_of_getElem? g1
  have g1':entries[j]?=some e:=by simpa using g1
  have hjl:j<l.length:=by
   rw[h2]
   rcases Nat.lt_or_ge j entries.size with h|h
   ·exact h
   rw[Array.getElem?_eq_none h] at g1';simp at g1'
  have hr:=h3 j l[j] e (by simp[hjl]) g1'
  have hmem:l[j]∈es:=h1.mem_iff.1 (List.getElem_mem hjl)
  cases q with
  |none=>exact absurd (hr.1▸g2) (i3 rfl _ hmem)
  |some v=>
   have hv:=i2 v rfl
   have hvl:(Value.int kd n,v)∈l:=h1.mem_iff.2 hv
   have:l[j]=(Value.int kd n,v):=by
    obtain⟨j2,hj2,hj2e⟩:=List.getElem_of_mem hvl
    have hkk:(l.map (·.1))[j]'(by simpa using hjl)=(l.map (·.1))[j2]'(by simpa using hj2):=by
     simp only[List.getElem_map,hj2e]
     rw[← hr.1,g2]
    have hjj:j=j2:=zr2 h0 _ _ hkk
    subst hjj
    exact hj2e
   refine .inl ⟨v,j,e,rfl,g1',g2,?_,?_⟩
   ·have:=hr.2;rwa [‹l[j]=_›] at this
   simp only[Instr.findKey,Sem.run_bind,run_underlying hk,Result.andThen_ok,g3,Sem.run_pure,Nat.zero_add]
 refine .inr ⟨?_,g1,?_⟩
 ·cases q with
  |none=>rfl
  |some v=>
   have hv:=i2 v rfl
   have hvl:(Value.int kd n,v)∈l:=h1.mem_iff.2 hv
   obtain⟨j2,hj2,hj2e⟩:=List.getElem_of_mem hvl
   have hje:j2<entries.size:=by omega
   have:=h3 j2 l[j2] entries[j2] (by simp[hj2]) (by simp[hje])
   rw[hj2e] at this
   exact absurd this.1 (g1 _ (by simp))
 simp only[Instr.findKey,Sem.run_bind,run_underlying hk,Result.andThen_ok,g2,Sem.run_pure]
def zb9 (P:Program)(t:TypeId):Option Value:=
 match (P.info? t).bind (·.zero) with
 |some v=>bif zen v then some v else none
 |none=>none
theorem zx6 {P:Program}{t:TypeId}{z:Value}(h:zb9 P t=some z)(w:World):(zeroValue t).run P w=.ok z w∧zen z=true:=by
 unfold zb9 at h
 cases hi:P.info? t with
 |none=>simp[hi] at h
 |some i=>
  simp only[hi,Option.bind_some] at h
  cases hz:i.zero with
  |none=>simp[hz] at h
  |some v=>
   simp only[hz] at h
   cases hs:zen v with
   |false=>simp[hs] at h
   |true=>simp[hs] at h;subst h;exact⟨by simp[zeroValue,typeInfo,hi,hz],hs⟩
theorem run_checkKey {P:Program}{w:World}{kT:TypeId}{k0 kd:IntKind}{n:Int}(hk:P.underlying kT=some (.int k0))(b:Bool):(Instr.checkKey b 10000 kT (.int kd n)).run P w=.ok () w:=by
 have:∀d,(Instr.checkKey b (d+1) kT (.int kd n)).run P w=.ok () w:=fun d=>by
  simp only[Instr.checkKey,Sem.run_bind,run_underlying hk,Result.andThen_ok,Sem.run_pure]
 exact this 9999
def zfs (P:Program)(h:zaa)(t:TypeId)(m k:Value)(ok:Bool):Option Value:=
 match tkey P t,k with
 |some (_,e),.int kd n=>
  match zb9 P e with
  |some z=>
   let r:Option (Option Value):=match m with
    |.map none=>some none
    |.map (some o)=>match h.get o with
     |some (.map es)=>zkk kd n es
     |_=>none
    |_=>none
   match r with
   |some (some v)=>some (bif ok then .tuple #[v,.bool true] else v)
   |some none=>some (bif ok then .tuple #[z,.bool false] else z)
   |none=>none
  |none=>none
 |_,_=>none
theorem RelV.pair {μ:Mu}{a b a' b':Value}(ha:RelV μ a a')(hb:RelV μ b b'):RelV μ (.tuple #[a,b]) (.tuple #[a',b']):=by
 have:=RelV.tuple' (zas.cons ha (zas.cons hb (zas.nil μ)))
 simpa using this
theorem zv5 {P:Program}{lo:Nat}{μ:Mu}{h:zaa}{w:World}(r:Rel μ lo h w){t:TypeId}{m m' k k' v:Value}{ok:Bool}(hm:RelV μ m m')(hk:RelV μ k k')(ha:zfs P h t m k ok=some v) :
  OpOK P lo (Instr.lookup t m' k' ok) μ h w v h:=by
 unfold zfs at ha
 split at ha
 ·rename_i kT e kd n hte
  obtain⟨hu,k0,hku⟩:=zmm hte
  cases hk
  split at ha
  ·rename_i z hz
   obtain⟨hz1,hz2⟩:=zx6 hz w
   have hz3:RelV μ z z:=.zfv hz2
   simp only at ha
   split at ha
   ·rename_i v0 hr
    simp only[xfm] at ha;subst ha
    split at hr
    ·simp at hr
    ·rename_i o
     split at hr
     ·rename_i es ho
      cases hm with
      |map _ b C hmo=>
       obtain⟨_,entries,clock,h1,hM⟩:=ze0 r ho hmo
       rcases zht (P:=P) (w:=w) hM hku hr with⟨v1,j,e1,g1,g2,g3,g4,g5⟩|⟨g1,_⟩
       ·simp only[xfm] at g1;subst g1
        cases ok with
        |true=>exact .same r (by simp[Instr.lookup,run_underlying hu,getObj,Sem.run,h1,run_checkKey hku,g5]) (.pair g4 (.bool true))
        |false=>exact .same r (by simp[Instr.lookup,run_underlying hu,getObj,Sem.run,h1,run_checkKey hku,g5]) g4
       cases g1
     simp at hr
    simp at hr
   ·rename_i hr
    simp only[xfm] at ha;subst ha
    split at hr
    ·cases hm
     cases ok with
     |true=>exact .same r (by simp[Instr.lookup,run_underlying hu,run_checkKey hku,Instr.findKey,run_underlying hku,Instr.findNow,hz1]) (.pair hz3 (.bool false))
     |false=>exact .same r (by simp[Instr.lookup,run_underlying hu,run_checkKey hku,Instr.findKey,run_underlying hku,Instr.findNow,hz1]) hz3
    ·rename_i o
     split at hr
     ·rename_i es ho
      cases hm with
      |map _ b C hmo=>
       obtain⟨_,entries,clock,h1,hM⟩:=ze0 r ho hmo
       rcases zht (P:=P) (w:=w) hM hku hr with⟨v1,j,e1,g1,_⟩|⟨_,_,g5⟩
       ·cases g1
       cases ok with
       |true=>exact .same r (by simp[Instr.lookup,run_underlying hu,getObj,Sem.run,h1,run_checkKey hku,g5,hz1]) (.pair hz3 (.bool false))
       |false=>exact .same r (by simp[Instr.lookup,run_underlying hu,getObj,Sem.run,h1,run_checkKey hku,g5,hz1]) hz3
     simp at hr
    simp at hr
   simp at ha
  simp at ha
 simp at ha
end Go.Am
end
/-
 The abstract machine, part J: maps written; all operations that make no call, together.
-/
section
namespace Go.Am
def mput (n:Int)(v:Value)(p:Value×Value):Value×Value:=
 match p with
 |(.int k a,u)=>bif decide (a=n) then (.int k a,v) else (.int k a,u)
 |p=>p
def zhr (n:Int)(p:Value×Value):Bool:=
 match p.1 with
 |.int _ a=>!decide (a=n)
 |_=>true
def zer (P:Program)(lo:Nat)(h:zaa)(t:TypeId)(m k v:Value):Option zaa:=
 match tkey P t,m,k with
 |some _,.map (some o),.int kd n=>
  match h.get o with
  |some (.map es)=>
   bif Nat.ble lo o then
    match zkk kd n es with
    |some (some _)=>some (h.put o (some (.map (es.map (mput n v)))))
    |some none=>some (h.put o (some (.map (es++[(.int kd n,v)]))))
    |none=>none
   else none
  |_=>none
 |_,_,_=>none
theorem zrp (d:Nat)(k:IntKind)(n:Int):Instr.sameBits d (.int k n) (.int k n)=true:=by
 cases d<;>simp[Instr.sameBits]
theorem zil {P:Program}{w:World}{b:Nat}{entries entries':Array MapEntry}{clock clock':Nat}(h:w.heap[b]?=some (.map entries clock)) :
  (setObj b (.map entries' clock')).run P w=.ok () { w with heap:=w.heap.setIfInBounds b (.map entries' clock') }:=by
 simp[setObj,Sem.run,h]
theorem zid {μ:Mu}{lo:Nat}{h:zaa}{w:World}(r:Rel μ lo h w){o:Nat}{es es':List (Value×Value)}(hx:h.get o=some (.map es))(hl:lo≤o){b C:Nat}(hm:μ o=some (b,0,C))
  {entries entries':Array MapEntry} {clock clock':Nat} (hb:w.heap[b]?=some (.map entries clock)) (hM:RelM μ es' entries' clock') :
  Rel μ lo (h.put o (some (.map es'))) { w with heap:=w.heap.setIfInBounds b (.map entries' clock') }∧Frame lo μ h w μ (h.put o (some (.map es'))) { w with heap:=w.heap.setIfInBounds b (.map entries' clock') }:=by
 have hlt:b<w.heap.size:=by
  rcases Nat.lt_or_ge b w.heap.size with h'|h'
  ·exact h'
  simp[Array.getElem?_eq_none h'] at hb
 refine zkw r hx hl hm (.map es') (by simp) (fun b' hb'=>?_) ⟨rfl,entries',clock',by simp[hlt],hM⟩ (fun off=>?_) ⟨rfl,rfl⟩
 ·have:b≠b':=fun h=>hb' h.symm
  simp[this]
 simp[World.frozen?,hlt]
theorem zqj {P:Program}{lo:Nat}{μ:Mu}{h:zaa}{w:World}(r:Rel μ lo h w){t:TypeId}{m m' k k' v v':Value}{h':zaa}(hm:RelV μ m m')(hk:RelV μ k k')(hv:RelV μ v v')
  (ha:zer P lo h t m k v=some h'):∃w',(Instr.mapUpdate t m' k' v').run P w=.ok () w'∧Rel μ lo h' w'∧Frame lo μ h w μ h' w':=by
 unfold zer at ha
 split at ha
 ·rename_i q o kd n hte
  obtain⟨kT,e⟩:=q
  obtain⟨hu,k0,hku⟩:=zmm hte
  cases hk
  split at ha
  ·rename_i es ho
   cases hlo:Nat.ble lo o with
   |false=>rw[hlo] at ha;simp at ha
   |true=>
   rw[hlo] at ha;simp only[xfp] at ha
   have hlo':lo≤o:=by simpa using hlo
   cases hm with
   |map _ b C hmo=>
    obtain⟨_,entries,clock,h1,hM⟩:=ze0 r ho hmo
    split at ha
    ·rename_i v0 hq
     simp only[xfm] at ha;subst ha
     rcases zht (P:=P) (w:=w) hM hku hq with⟨v1,j,e1,g1,g2,g3,g4,g5⟩|⟨g1,_⟩
     ·have hM':RelM μ (es.map (mput n v)) (entries.modify j fun e=>{ e with key:=.int kd n,val:=v' }) clock:=by
       obtain⟨l,p1,p0,p2,p3,p4,p5⟩:=hM
       obtain⟨i1,_,_⟩:=zit hq
       have hkeys:∀p∈l,∃a,p.1=.int kd a:=fun p hp=>i1 p (p1.mem_iff.1 hp)
       have hjl:j<l.length:=by
        rw[p2]
        rcases Nat.lt_or_ge j entries.size with h|h
        ·exact h
        rw[Array.getElem?_eq_none h] at g2;simp at g2
       have hfst:∀p,(mput n v p).1=p.1:=by
        intro p;unfold mput;split
        ·rename_i k1 a1 u1;cases decide (a1=n)<;>rfl
        rfl
       refine⟨l.map (mput n v),p1.map _,?_,by simp[p2],?_,?_,?_⟩
       ·rw[List.map_map]
        have:((fun x:Value×Value=>x.1)∘mput n v)=(fun x=>x.1):=funext hfst
        rw[this];exact p0
       ·intro i p e' hp he'
        rw[List.getElem?_map] at hp
        cases hli:l[i]? with
        |none=>rw[hli] at hp;simp at hp
        |some p'=>
         rw[hli] at hp;simp only[Option.map_some,xfm] at hp;subst hp
         rw[Array.getElem?_modify] at he'
         by_cases hij:j=i
         ·subst hij
          simp only[if_true,g2,Option.map_some,xfm] at he';subst he'
          have hr:=p3 j p' e1 hli g2
          have hp1:p'.1=.int kd n:=by rw[← hr.1,g3]
          obtain⟨pk,pv⟩:=p'
          simp only at hp1;subst hp1
          refine⟨?_,?_⟩
          ·simp[mput]
          simpa[mput] using hv
         simp only[hij,if_false] at he'
         have hr:=p3 i p' e' hli he'
         obtain⟨a,ha⟩:=hkeys p' (List.mem_of_getElem? hli)
         have hne:a≠n:=by
          intro hh;subst hh
          have hil:i<l.length:=by
           rcases Nat.lt_or_ge i l.length with h|h
           ·exact h
           rw[List.getElem?_eq_none h] at hli;simp at hli
          have e2:l[j].1=.int kd a:=by
           have:=p3 j l[j] e1 (by simp[hjl]) g2
           rw[← this.1,g3]
          have e3:l[i].1=.int kd a:=by
           rw[List.getElem?_eq_getElem hil] at hli;injection hli with hli;rw[hli,ha]
          exact hij (zr2 p0 (i:=j) (j:=i) (by simpa using hjl) (by simpa using hil) (by simp[e2,e3]))
         obtain⟨pk,pv⟩:=p'
         simp only at ha;subst ha
         have hd:decide (a=n)=false:=by simpa using hne
         have:mput n v (Value.int kd a,pv)=(Value.int kd a,pv):=by simp[mput,hd]
         rw[this];exact hr
       ·have:((entries.modify j fun e=>{ e with key:=.int kd n,val:=v' }).toList.map (·.born))=entries.toList.map (·.born):=by
         apply List.ext_getElem?
         intro i
         simp only[List.getElem?_map,Array.getElem?_toList,Array.getElem?_modify]
         by_cases hij:j=i
         ·simp[hij]
          cases entries[i]?<;>rfl
         simp[hij]
        rw[this];exact p4
       intro e' he'
       obtain⟨i,hi⟩:=List.getElem?_of_mem he'
       rw[Array.getElem?_toList,Array.getElem?_modify] at hi
       by_cases hij:j=i
       ·subst hij
        simp only[if_true,g2,Option.map_some,xfm] at hi;subst hi
        exact p5 e1 (by simpa using List.mem_of_getElem? (l:=entries.toList) (by simpa using g2))
       simp only[hij,if_false] at hi
       exact p5 e' (by simpa using List.mem_of_getElem? (l:=entries.toList) (by simpa using hi))
      obtain⟨h5,h6⟩:=zid r ho hlo' hmo h1 hM'
      refine⟨_,?_,h5,h6⟩
      have hkey:(Instr.keyThatStays (((entries[j]?).map (·.key)).getD (.int kd n)) (.int kd n)).run P w=.ok (.int kd n) w:=by
       simp[g2,g3,Instr.keyThatStays,zrp]
      simp only[Instr.mapUpdate,Sem.run_bind,run_underlying hu,Result.andThen_ok]
      have hgo:(getObj b).run P w=.ok (.map entries clock) w:=by simp[getObj,Sem.run,h1]
      simp only[Sem.run_bind,hgo,Result.andThen_ok,run_checkKey hku,g5,hkey,zil h1]
     cases g1
    ·rename_i hq
     simp only[xfm] at ha;subst ha
     rcases zht (P:=P) (w:=w) hM hku hq with⟨v1,j,e1,g1,_⟩|⟨_,g4,g5⟩
     ·cases g1
     have hM':RelM μ (es++[(.int kd n,v)]) (entries.push { key:=.int kd n,val:=v',born:=clock }) (clock+1):=by
      obtain⟨l,p1,p0,p2,p3,p4,p5⟩:=hM
      have hnk:∀p∈l,p.1≠.int kd n:=fun p hp=>by
       obtain⟨i,hi⟩:=List.getElem?_of_mem hp
       have hil:i<entries.size:=by
        rw[← p2]
        rcases Nat.lt_or_ge i l.length with h|h
        ·exact h
        rw[List.getElem?_eq_none h] at hi;simp at hi
       have hr:=p3 i p entries[i] hi (by simp[hil])
       rw[← hr.1]
       exact g4 _ (by simp)
      refine⟨l++[(.int kd n,v)],p1.append_right _,?_,by simp[p2],?_,?_,?_⟩
      ·rw[List.map_append,List.nodup_append]
       refine⟨p0,by simp,?_⟩
       intro a ha b hb
       simp at hb;subst hb
       obtain⟨p,hp,rfl⟩:=List.mem_map.1 ha
       exact hnk p hp
      ·intro i p e' hp he'
       rw[Array.getElem?_push] at he'
       by_cases hi:i=entries.size
       ·simp only[hi,if_true,xfm] at he';subst he'
        rw[List.getElem?_append_right (by omega),hi,p2] at hp
        simp at hp;subst hp
        exact⟨rfl,hv⟩
       simp only[hi,if_false] at he'
       have hil:i<entries.size:=by
        rcases Nat.lt_or_ge i entries.size with h|h
        ·exact h
        rw[Array.getElem?_eq_none h] at he';simp at he'
       rw[List.getElem?_append_left (by omega)] at hp
       exact p3 i p e' hp he'
      ·simp only[Array.toList_push,List.map_append,List.map_cons,List.map_nil]
       rw[List.pairwise_append]
       refine⟨p4,by simp,?_⟩
       intro a ha b hb
       simp at hb;subst hb
       obtain⟨e',he',rfl⟩:=List.mem_map.1 ha
       exact p5 e' he'
      intro e' he'
      simp only[Array.toList_push,List.mem_append,List.mem_singleton] at he'
      rcases he' with he'|he'
      ·have:=p5 e' he';omega
      subst he';simp
     obtain⟨h5,h6⟩:=zid r ho hlo' hmo h1 hM'
     refine⟨_,?_,h5,h6⟩
     have hgo:(getObj b).run P w=.ok (.map entries clock) w:=by simp[getObj,Sem.run,h1]
     simp only[Instr.mapUpdate,Sem.run_bind,run_underlying hu,Result.andThen_ok,hgo,run_checkKey hku,g5,zil h1]
    simp at ha
  simp at ha
 simp at ha
def zjh (P:Program)(lo:Nat)(h:zaa)(t:TypeId)(m k:Value):Option zaa:=
 match tkey P t,m,k with
 |some _,.map (some o),.int kd n=>
  match h.get o with
  |some (.map es)=>
   bif Nat.ble lo o then
    match zkk kd n es with
    |some _=>some (h.put o (some (.map (es.filter (zhr n)))))
    |none=>none
   else none
  |_=>none
 |_,_,_=>none
theorem znf {l:List (Value×Value)}{kd:IntKind}{n:Int}(hk:∀p∈l,∃a,p.1=.int kd a)(h0:(l.map (·.1)).Nodup){j:Nat}(hj:j<l.length)(he:l[j].1=.int kd n):l.filter (zhr n)=l.eraseIdx j:=by
 induction l generalizing j with
 |nil=>simp at hj
 |cons p r ih=>
  obtain⟨pk,pv⟩:=p
  obtain⟨a,ha⟩:=hk (pk,pv) (by simp)
  simp only at ha;subst ha
  simp only[List.map_cons,List.nodup_cons] at h0
  cases j with
  |zero=>
   simp only[List.getElem_cons_zero,Value.int.injEq,true_and] at he
   subst he
   have hall:∀q∈r,zhr a q=true:=by
    intro q hq
    obtain⟨b,hb⟩:=hk q (List.mem_cons_of_mem _ hq)
    have:b≠a:=by
     intro hh;subst hh
     exact h0.1 (List.mem_map.2 ⟨q,hq,hb⟩)
    simp[zhr,hb,this]
   have h1:zhr a (Value.int kd a,pv)=false:=by simp[zhr]
   simp only[List.filter_cons,h1,Bool.false_eq_true,if_false,List.eraseIdx_cons_zero]
   exact List.filter_eq_self.2 hall
  |succ j=>
   simp only[List.length_cons,Nat.add_lt_add_iff_right] at hj
   simp only[List.getElem_cons_succ] at he
   have hne:a≠n:=by
    intro hh;subst hh
    exact h0.1 (List.mem_map.2 ⟨r[j],List.getElem_mem hj,he⟩)
   have h1:zhr n (Value.int kd a,pv)=true:=by simp[zhr,hne]
   simp only[List.filter_cons,h1,if_true,List.eraseIdx_cons_succ]
   rw[ih (fun q hq=>hk q (List.mem_cons_of_mem _ hq)) h0.2 hj he]
theorem zvh {P:Program}{lo:Nat}{μ:Mu}{h:zaa}{w:World}(r:Rel μ lo h w){t kT0 ty:TypeId}{m m' k k':Value}{h':zaa}(hm:RelV μ m m')(hk:RelV μ k k')
  (ha:zjh P lo h t m k=some h'):OpOK P lo (Builtin.delete_ #[t,kT0] ty #[m',k']) μ h w Go.undef h':=by
 unfold zjh at ha
 split at ha
 ·rename_i q o kd n hte
  obtain⟨kT,e⟩:=q
  obtain⟨hu,k0,hku⟩:=zmm hte
  cases hk
  split at ha
  ·rename_i es ho
   cases hlo:Nat.ble lo o with
   |false=>rw[hlo] at ha;simp at ha
   |true=>
   rw[hlo] at ha;simp only[xfp] at ha
   have hlo':lo≤o:=by simpa using hlo
   cases hm with
   |map _ b C hmo=>
    obtain⟨_,entries,clock,h1,hM⟩:=ze0 r ho hmo
    split at ha
    ·rename_i q0 hq
     simp only[xfm] at ha;subst ha
     have hgo:(getObj b).run P w=.ok (.map entries clock) w:=by simp[getObj,Sem.run,h1]
     obtain⟨i1,i2,i3⟩:=zit hq
     rcases zht (P:=P) (w:=w) hM hku hq with⟨v1,j,e1,g1,g2,g3,g4,g5⟩|⟨g1,g4,g5⟩
     ·have hM':RelM μ (es.filter (zhr n)) (entries.eraseIdxIfInBounds j) clock:=by
       obtain⟨l,p1,p0,p2,p3,p4,p5⟩:=hM
       have hje:j<entries.size:=by
        rcases Nat.lt_or_ge j entries.size with h|h
        ·exact h
        rw[Array.getElem?_eq_none h] at g2;simp at g2
       have hjl:j<l.length:=by omega
       have hkeys:∀p∈l,∃a,p.1=.int kd a:=fun p hp=>i1 p (p1.mem_iff.1 hp)
       have hlj:l[j].1=.int kd n:=by
        have:=p3 j l[j] e1 (by simp[hjl]) g2
        rw[← this.1,g3]
       have hfe:=znf hkeys p0 hjl hlj
       have hlist:(entries.eraseIdxIfInBounds j).toList=entries.toList.eraseIdx j:=by
        simp[Array.eraseIdxIfInBounds,hje]
       refine⟨l.filter (zhr n),p1.filter _,?_,?_,?_,?_,?_⟩
       ·exact p0.sublist ((List.filter_sublist).map _)
       ·rw[hfe,List.length_eraseIdx,if_pos hjl,p2]
        have:(entries.eraseIdxIfInBounds j).toList.length=entries.size - 1:=by rw[hlist,List.length_eraseIdx,if_pos (by simpa using hje)];simp
        rw[Array.length_toList] at this
        omega
       ·intro i p e' hp he'
        rw[hfe,List.getElem?_eraseIdx] at hp
        rw[← Array.getElem?_toList,hlist,List.getElem?_eraseIdx] at he'
        split at hp
        ·rename_i hlt;rw[if_pos hlt] at he';exact p3 i p e' hp (by simpa using he')
        rename_i hlt;rw[if_neg hlt] at he';exact p3 (i+1) p e' hp (by simpa using he')
       ·rw[hlist];exact p4.sublist ((List.eraseIdx_sublist _ _).map _)
       intro e' he';rw[hlist] at he';exact p5 e' ((List.eraseIdx_sublist _ _).subset he')
      obtain⟨h5,h6⟩:=zid r ho hlo' hmo h1 hM'
      refine .mk (v':=Go.undef) ?_ .undef h5 h6
      simp[Builtin.delete_,hgo,run_checkKey hku,g5,zil h1,Go.undef,run_underlying hu]
     have hM':RelM μ (es.filter (zhr n)) entries clock:=by
      have:es.filter (zhr n)=es:=by
       rw[List.filter_eq_self]
       intro p hp
       obtain⟨a,ha⟩:=i1 p hp
       have:=i3 g1 p hp
       have hne:a≠n:=by intro hh;subst hh;exact this ha
       simp[zhr,ha,hne]
      rw[this];exact hM
     obtain⟨h5,h6⟩:=zid r ho hlo' hmo h1 hM'
     refine .mk (v':=Go.undef) ?_ .undef h5 h6
     simp[Builtin.delete_,hgo,run_checkKey hku,g5,zil h1,Go.undef,run_underlying hu]
    simp at ha
  simp at ha
 simp at ha
end Go.Am
end
/-
 The abstract machine, part Ja: maps whose keys are structs of integers.
-/
section
namespace Go.Am
def zij (P:Program)(h:zaa)(t:TypeId)(m:Value)(xs:Array Value)(ok:Bool):Option Value:=none
theorem zso {P:Program}{lo:Nat}{μ:Mu}{h:zaa}{w:World}(r:Rel μ lo h w){t:TypeId}{m m' k' v:Value}{xs:Array Value}{ok:Bool}(hm:RelV μ m m')(hk:RelV μ (.agg xs) k')(ha:zij P h t m xs ok=some v) :
  OpOK P lo (Instr.lookup t m' k' ok) μ h w v h:=by
 simp[zij] at ha
def zjn (P:Program)(lo:Nat)(h:zaa)(t:TypeId)(m:Value)(xs:Array Value)(v:Value):Option zaa:=none
theorem znx {P:Program}{lo:Nat}{μ:Mu}{h:zaa}{w:World}(r:Rel μ lo h w){t:TypeId}{m m' k' v v':Value}{xs:Array Value}{h':zaa}(hm:RelV μ m m')(hk:RelV μ (.agg xs) k')(hv:RelV μ v v')
  (ha:zjn P lo h t m xs v=some h'):∃w',(Instr.mapUpdate t m' k' v').run P w=.ok () w'∧Rel μ lo h' w'∧Frame lo μ h w μ h' w':=by
 simp[zjn] at ha
def zpi (P:Program)(lo:Nat)(h:zaa)(t:TypeId)(m:Value)(xs:Array Value):Option zaa:=none
theorem ztf {P:Program}{lo:Nat}{μ:Mu}{h:zaa}{w:World}(r:Rel μ lo h w){t kT0 ty:TypeId}{m m' k':Value}{xs:Array Value}{h':zaa}(hm:RelV μ m m')(hk:RelV μ (.agg xs) k')
  (ha:zpi P lo h t m xs=some h'):OpOK P lo (Builtin.delete_ #[t,kT0] ty #[m',k']) μ h w Go.undef h':=by
 simp[zpi] at ha
def zn4 (P:Program)(h:zaa)(t:TypeId)(m k:Value)(ok:Bool):Option Value:=match k with
 |.agg xs=>zij P h t m xs ok
 |k=>zfs P h t m k ok
def znz (P:Program)(lo:Nat)(h:zaa)(t:TypeId)(m k v:Value):Option zaa:=match k with
 |.agg xs=>zjn P lo h t m xs v
 |k=>zer P lo h t m k v
def adel (P:Program)(lo:Nat)(h:zaa)(t:TypeId)(m k:Value):Option zaa:=match k with
 |.agg xs=>zpi P lo h t m xs
 |k=>zjh P lo h t m k
theorem zzv {P:Program}{lo:Nat}{μ:Mu}{h:zaa}{w:World}(r:Rel μ lo h w){t:TypeId}{m m' k k' v:Value}{ok:Bool}(hm:RelV μ m m')(hk:RelV μ k k')(ha:zn4 P h t m k ok=some v):OpOK P lo (Instr.lookup t m' k' ok) μ h w v h:=by
 unfold zn4 at ha
 split at ha
 ·exact zso r hm hk ha
 exact zv5 r hm hk ha
theorem zt1 {P:Program}{lo:Nat}{μ:Mu}{h:zaa}{w:World}(r:Rel μ lo h w){t:TypeId}{m m' k k' v v':Value}{h':zaa}(hm:RelV μ m m')(hk:RelV μ k k')(hv:RelV μ v v')
  (ha:znz P lo h t m k v=some h'):∃w',(Instr.mapUpdate t m' k' v').run P w=.ok () w'∧Rel μ lo h' w'∧Frame lo μ h w μ h' w':=by
 unfold znz at ha
 split at ha
 ·exact znx r hm hk hv ha
 exact zqj r hm hk hv ha
theorem z2i {P:Program}{lo:Nat}{μ:Mu}{h:zaa}{w:World}(r:Rel μ lo h w){t kT0 ty:TypeId}{m m' k k':Value}{h':zaa}(hm:RelV μ m m')(hk:RelV μ k k')
  (ha:adel P lo h t m k=some h'):OpOK P lo (Builtin.delete_ #[t,kT0] ty #[m',k']) μ h w Go.undef h':=by
 unfold adel at ha
 split at ha
 ·exact ztf r hm hk ha
 exact zvh r hm hk ha
end Go.Am
end
/-
 The abstract machine, part K: all operations that make no call, together.
-/
section
namespace Go.Am
def zea (ts:Tmps):List Operand→Option (List Value)
 |[]=>some []
 |x::r=>match za7 ts x,zea ts r with
  |some v,some l=>some (v::l)
  |_,_=>none
theorem zf1 {μ:Mu}{ts:Tmps}{a:Act}(h:RelT μ ts a.tmps):∀ {xs:List Operand} {l:List Value},zea ts xs=some l→zas μ l (xs.map a.eval)
 |[],l,hl=>by simp only[zea,xfm] at hl;subst hl;exact zas.nil μ
 |x::r,l,hl=>by
  simp only[zea] at hl
  split at hl
  ·rename_i v l' h1 h2
   simp only[xfm] at hl;subst hl
   exact .cons (zan h h1) (zf1 h h2)
  simp at hl
def zgg (ts:Tmps):List (Nat×Operand)→Option (List (Nat×Value))
 |[]=>some []
 |(i,x)::r=>match za7 ts x,zgg ts r with
  |some v,some l=>some ((i,v)::l)
  |_,_=>none
theorem zia {μ:Mu}{ts:Tmps}{a:Act}(h:RelT μ ts a.tmps):∀ {xs:List (Nat×Operand)} {l:List (Nat×Value)},zgg ts xs=some l→RelP μ l (xs.map fun (i,x)=>(i,a.eval x))
 |[],l,hl=>by simp only[zgg,xfm] at hl;subst hl;exact⟨rfl,zas.nil μ⟩
 |(i,x)::r,l,hl=>by
  simp only[zgg] at hl
  split at hl
  ·rename_i v l' h1 h2
   simp only[xfm] at hl;subst hl
   have ih:=zia h h2
   exact⟨by simp only[List.map_cons];rw[ih.1],.cons (zan h h1) ih.2⟩
  simp at hl
def zg3 (ts:Tmps):Option Operand→Option (Option Value)
 |none=>some none
 |some x=>(za7 ts x).map some
theorem zko {μ:Mu}{ts:Tmps}{a:Act}(h:RelT μ ts a.tmps){x:Option Operand}{v:Option Value}(hv:zg3 ts x=some v):zse μ v (x.map a.eval):=by
 cases x with
 |none=>simp only[zg3,xfm] at hv;subst hv;trivial
 |some x=>
  simp only[zg3] at hv
  cases hx:za7 ts x with
  |none=>rw[hx] at hv;simp at hv
  |some u=>rw[hx] at hv;simp only[Option.map_some,xfm] at hv;subst hv;exact zan h hx
def zcs (P:Program)(lo:Nat)(h:zaa)(b:Builtin)(argTypes:List TypeId)(args:List Value):Option (Value×zaa):=
 match b,argTypes,args with
 |.len,[t],[x]=>(zec P h t x).map (·,h)
 |.cap,[t],[x]=>(acap P t x).map (·,h)
 |.append,[s,x],[a,b]=>zd1 P lo h s x a b
 |.copy,[d,_],[a,b]=>zvi P lo h d a b
 |.clear,[t],[x]=>(zi0 P lo h t x).map fun h'=>(Go.undef,h')
 |.delete,[t,_],[m,k]=>(adel P lo h t m k).map fun h'=>(Go.undef,h')
 |.max,_,x::r=>(zcx true x r).map (·,h)
 |.min,_,x::r=>(zcx false x r).map (·,h)
 |_,_,_=>none
theorem ztm {P:Program}{lo:Nat}{μ:Mu}{h:zaa}{w:World}(r:Rel μ lo h w){b:Builtin}{aT:Array TypeId}{ty:TypeId}{cs:Array Bool}{args:List Value}{args':Array Value}{v:Value}{h':zaa}
  (ha:zas μ args args'.toList) (hb:zcs P lo h b aT.toList args=some (v,h')):∃s:Sem Value,(Go.builtin b aT ty cs args')=(do pure (.value (← s)))∧OpOK P lo s μ h w v h':=by
 have hat:∀ {l:List TypeId},aT.toList=l→aT=l.toArray:=fun hl=>by rw[← hl]
 have hag:∀ {l:List Value},args'.toList=l→args'=l.toArray:=fun hl=>by rw[← hl]
 unfold zcs at hb
 split at hb
 ·rename_i t x hl
  obtain⟨x',r1,h1,hx,h2⟩:=ha.zax
  have:=h2.zcd;subst this
  rw[hat hl,hag h1]
  cases hq:zec P h t x with
  |none=>rw[hq] at hb;simp at hb
  |some u=>
   rw[hq] at hb;simp only[Option.map_some,xfm,xfn] at hb;obtain⟨rfl,rfl⟩:=hb
   exact⟨_,rfl,zyb r hx hq⟩
 ·rename_i t x hl
  obtain⟨x',r1,h1,hx,h2⟩:=ha.zax
  have:=h2.zcd;subst this
  rw[hat hl,hag h1]
  cases hq:acap P t x with
  |none=>rw[hq] at hb;simp at hb
  |some u=>
   rw[hq] at hb;simp only[Option.map_some,xfm,xfn] at hb;obtain⟨rfl,rfl⟩:=hb
   obtain⟨v',g1,g2⟩:=z4s (w:=w) (ty:=ty) hx hq
   exact⟨_,rfl,.same r g1 g2⟩
 ·rename_i s x a b hl
  obtain⟨a',r1,h1,hx,h2⟩:=ha.zax
  obtain⟨b',r2,rfl,hy,h3⟩:=h2.zax
  have:=h3.zcd;subst this
  rw[hat hl,hag h1]
  exact⟨_,rfl,zv1 r hx hy hb⟩
 ·rename_i d u a b hl
  obtain⟨a',r1,h1,hx,h2⟩:=ha.zax
  obtain⟨b',r2,rfl,hy,h3⟩:=h2.zax
  have:=h3.zcd;subst this
  rw[hat hl,hag h1]
  exact⟨_,rfl,z0p r hx hy hb⟩
 ·rename_i t x hl
  obtain⟨x',r1,h1,hx,h2⟩:=ha.zax
  have:=h2.zcd;subst this
  rw[hat hl,hag h1]
  cases hq:zi0 P lo h t x with
  |none=>rw[hq] at hb;simp at hb
  |some u=>
   rw[hq] at hb;simp only[Option.map_some,xfm,xfn] at hb;obtain⟨rfl,rfl⟩:=hb
   exact⟨_,rfl,zwk r hx hq⟩
 ·rename_i t u m k hl
  obtain⟨a',r1,h1,hx,h2⟩:=ha.zax
  obtain⟨b',r2,rfl,hy,h3⟩:=h2.zax
  have:=h3.zcd;subst this
  rw[hat hl,hag h1]
  cases hq:adel P lo h t m k with
  |none=>rw[hq] at hb;simp at hb
  |some u=>
   rw[hq] at hb;simp only[Option.map_some,xfm,xfn] at hb;obtain⟨rfl,rfl⟩:=hb
   exact⟨_,rfl,z2i r hx hy hq⟩
 ·rename_i x rs
  obtain⟨x',r1,h1,hx,h2⟩:=ha.zax
  cases hq:zcx true x rs with
  |none=>rw[hq] at hb;simp at hb
  |some u=>
   rw[hq] at hb;simp only[Option.map_some,xfm,xfn] at hb;obtain⟨rfl,rfl⟩:=hb
   obtain⟨v',g1,g2⟩:=zul (P:=P) (w:=w) hx h2 hq
   exact⟨Builtin.max_ aT ty args',rfl,.same r (by simp only[Builtin.max_,h1];exact g1) g2⟩
 ·rename_i x rs
  obtain⟨x',r1,h1,hx,h2⟩:=ha.zax
  cases hq:zcx false x rs with
  |none=>rw[hq] at hb;simp at hb
  |some u=>
   rw[hq] at hb;simp only[Option.map_some,xfm,xfn] at hb;obtain⟨rfl,rfl⟩:=hb
   obtain⟨v',g1,g2⟩:=ztw (P:=P) (w:=w) hx h2 hq
   exact⟨Builtin.min_ aT ty args',rfl,.same r (by simp only[Builtin.min_,h1];exact g1) g2⟩
 simp at hb
def aop (P:Program)(lo:Nat)(ts:Tmps)(h:zaa):Op→Option (Value×zaa)
 |.move x=>(za7 ts x).map (·,h)
 |.assign x=>(za7 ts x).map (·,h)
 |.pick c a b=>match za7 ts c with
  |some (.bool true)=>(za7 ts a).map (·,h)
  |some (.bool false)=>(za7 ts b).map (·,h)
  |_=>none
 |.alloc t=>zl2 P h t
 |.box _ x=>(za7 ts x).map (abox h)
 |.build t parts=>match zgg ts parts.toList with
  |some l=>(zmj P t l).map (·,h)
  |none=>none
 |.buildSlice t n parts=>match zgg ts parts.toList with
  |some l=>zdy P h t n l
  |none=>none
 |.load t a=>match za7 ts a with
  |some p=>(zjd P h t p).map (·,h)
  |none=>none
 |.store t a x=>match za7 ts a,za7 ts x with
  |some p,some v=>(zj6 P lo h t p v).map fun h'=>(Go.undef,h')
  |_,_=>none
 |.nilCheck x=>match za7 ts x with
  |some v=>(zf4 v).map (·,h)
  |none=>none
 |.binOp op t x y _=>match za7 ts x,za7 ts y with
  |some a,some b=>(zbv P op t a b).map (·,h)
  |_,_=>none
 |.unOp op _ x=>match za7 ts x with
  |some a=>(zdl op a).map (·,h)
  |none=>none
 |.convert s d x=>match za7 ts x with
  |some a=>(za8 P s d a).map (·,h)
  |none=>none
 |.makeFunc (.func f) first captured=>match zea ts first.toList,zea ts captured.toList with
  |some xs,some ys=>some (.func (.func f) xs.toArray ys.toArray,h)
  |_,_=>none
 |.makeMap _ none=>some (.map (some h.next),h.alloc (.map []))
 |.makeSlice t l c=>match za7 ts l,za7 ts c with
  |some a,some b=>zfh P h t a b
  |_,_=>none
 |.slice t x lo hi mx=>match za7 ts x,zg3 ts lo,zg3 ts hi,zg3 ts mx with
  |some v,some l,some u,some m=>(zdb P t v l u m).map (·,h)
  |_,_,_,_=>none
 |.fieldAddr s x f=>match za7 ts x with
  |some p=>(zfg P s p f).map (·,h)
  |none=>none
 |.field s x f=>match za7 ts x with
  |some p=>(zou P s p f).map (·,h)
  |none=>none
 |.indexAddr t x i=>match za7 ts x,za7 ts i with
  |some a,some b=>(zc9 P t a b).map (·,h)
  |_,_=>none
 |.index t x i=>match za7 ts x,za7 ts i with
  |some a,some b=>(zll P t a b).map (·,h)
  |_,_=>none
 |.lookup t m k ok=>match za7 ts m,za7 ts k with
  |some a,some b=>(zn4 P h t a b ok).map (·,h)
  |_,_=>none
 |.mapUpdate t m k x=>match za7 ts m,za7 ts k,za7 ts x with
  |some a,some b,some c=>(znz P lo h t a b c).map fun h'=>(Go.undef,h')
  |_,_,_=>none
 |.insert t m k x=>match za7 ts m,za7 ts k,za7 ts x with
  |some a,some b,some c=>(znz P lo h t a b c).map fun h'=>(Go.undef,h')
  |_,_,_=>none
 |.extract x i=>match za7 ts x with
  |some a=>(zhg a i).map (·,h)
  |none=>none
 |.call ⟨.builtin b,args,argTypes⟩=>match zea ts args.toList with
  |some l=>zcs P lo h b argTypes.toList l
  |none=>none
 |_=>none
def zoh (P:Program)(lo:Nat)(s:Sem Next)(μ:Mu)(h:zaa)(w:World)(v:Value)(h':zaa):Prop:=
 ∃nx v' w' μ',s.run P w=.ok nx w'∧(nx=.value v'∨(nx=.skip∧v'=Go.undef))∧RelV μ' v v'∧Rel μ' lo h' w'∧Frame lo μ h w μ' h' w'
theorem OpOK.runs {P:Program}{lo:Nat}{s:Sem Value}{μ:Mu}{h h':zaa}{w:World}{v:Value}(ho:OpOK P lo s μ h w v h'):zoh P lo (do pure (.value (← s))) μ h w v h':=by
 obtain⟨v',w',μ',h1,h2,h3,h4⟩:=ho
 exact⟨.value v',v',w',μ',by simp[h1],.inl rfl,h2,h3,h4⟩
theorem zoh.zex {P:Program}{lo:Nat}{s:Sem Value}{μ:Mu}{h:zaa}{w:World}{v:Value}(r:Rel μ lo h w)(hs:∃v',s.run P w=.ok v' w∧RelV μ v v'):zoh P lo (do pure (.value (← s))) μ h w v h:=
 let ⟨_,h1,h2⟩:=hs
 (OpOK.same r h1 h2).runs
theorem zoh.zs2 {P:Program}{lo:Nat}{s:Sem Unit}{μ:Mu}{h h':zaa}{w:World}(hs:∃w',s.run P w=.ok () w'∧Rel μ lo h' w'∧Frame lo μ h w μ h' w'):zoh P lo (do s;pure .skip) μ h w Go.undef h':=by
 obtain⟨w',h1,h2,h3⟩:=hs
 exact⟨.skip,Go.undef,w',μ,by simp[h1],.inr ⟨rfl,rfl⟩,.undef,h2,h3⟩
theorem zad {α β:Type}{f:α→β}{o:Option α}{b:β}(h:o.map f=some b):∃a,o=some a∧f a=b:=by
 cases o with
 |none=>simp at h
 |some a=>exact⟨a,rfl,by simpa using h⟩
theorem xaq {P:Program}{lo:Nat}{μ:Mu}{h:zaa}{w:World}{ts:Tmps}{a:Act}{o:Oper}{v:Value}{h':zaa}(r:Rel μ lo h w)(ht:RelT μ ts a.tmps)(ha:aop P lo ts h o.op=some (v,h')) :
  zoh P lo (execOp a.eval o) μ h w v h':=by
 unfold aop at ha
 split at ha
 all_goals (rename_i hop;try unfold execOp;try rw[hop])
 ·obtain⟨u,h1,h2⟩:=zad ha
  simp only[xfn] at h2;obtain⟨rfl,rfl⟩:=h2
  exact⟨_,_,w,μ,rfl,.inl rfl,zan ht h1,r,Frame.refl _ _ _ _⟩
 ·obtain⟨u,h1,h2⟩:=zad ha
  simp only[xfn] at h2;obtain⟨rfl,rfl⟩:=h2
  exact⟨_,_,w,μ,rfl,.inl rfl,zan ht h1,r,Frame.refl _ _ _ _⟩
 ·rename_i c x y
  split at ha
  ·rename_i hc
   obtain⟨u,h1,h2⟩:=zad ha
   simp only[xfn] at h2;obtain⟨rfl,rfl⟩:=h2
   have hcr:=zan ht hc
   generalize hce:a.eval c=ce at hcr
   cases hcr
   exact⟨_,_,w,μ,by simp[hce,asBool],.inl rfl,zan ht h1,r,Frame.refl _ _ _ _⟩
  ·rename_i hc
   obtain⟨u,h1,h2⟩:=zad ha
   simp only[xfn] at h2;obtain⟨rfl,rfl⟩:=h2
   have hcr:=zan ht hc
   generalize hce:a.eval c=ce at hcr
   cases hcr
   exact⟨_,_,w,μ,by simp[hce,asBool],.inl rfl,zan ht h1,r,Frame.refl _ _ _ _⟩
  simp at ha
 ·exact(zxh r ha).runs
 ·rename_i el x
  obtain⟨u,h1,h2⟩:=zad ha
  have:=(z5r (P:=P) r el (zan ht h1)).runs
  rw[h2] at this
  exact this
 ·split at ha
  ·rename_i l hl
   obtain⟨u,h1,h2⟩:=zad ha
   simp only[xfn] at h2;obtain⟨rfl,rfl⟩:=h2
   exact .zex r (zws (by simpa using zia ht hl) h1)
  simp at ha
 ·split at ha
  ·rename_i l hl
   exact(zn6 r (by simpa using zia ht hl) ha).runs
  simp at ha
 ·split at ha
  ·rename_i p hp
   obtain⟨u,h1,h2⟩:=zad ha
   simp only[xfn] at h2;obtain⟨rfl,rfl⟩:=h2
   exact(zo2 r (zan ht hp) h1).runs
  simp at ha
 ·split at ha
  ·rename_i p x hp hx
   obtain⟨u,h1,h2⟩:=zad ha
   simp only[xfn] at h2;obtain⟨rfl,rfl⟩:=h2
   exact .zs2 (zxs r (zan ht hp) (zan ht hx) h1)
  simp at ha
 ·rename_i x
  split at ha
  ·rename_i u hu
   obtain⟨u2,h1,h2⟩:=zad ha
   simp only[xfn] at h2;obtain⟨rfl,rfl⟩:=h2
   have hr:=zan ht hu
   generalize hxe:a.eval x=xe at hr
   have hr0:=hr
   unfold zf4 at h1
   split at h1
   ·simp only[xfm] at h1;subst h1
    cases hr with
    |ptr=>exact⟨_,_,w,μ,by simp[hxe],.inl rfl,hr0,r,Frame.refl _ _ _ _⟩
   ·simp only[xfm] at h1;subst h1
    cases hr with
    |func=>exact⟨_,_,w,μ,by simp[hxe],.inl rfl,hr0,r,Frame.refl _ _ _ _⟩
   simp at h1
  simp at ha
 ·split at ha
  ·rename_i p q hp hq
   obtain⟨u,h1,h2⟩:=zad ha
   simp only[xfn] at h2;obtain⟨rfl,rfl⟩:=h2
   exact .zex r (zyx (zan ht hp) (zan ht hq) h1)
  simp at ha
 ·split at ha
  ·rename_i p hp
   obtain⟨u,h1,h2⟩:=zad ha
   simp only[xfn] at h2;obtain⟨rfl,rfl⟩:=h2
   exact .zex r (z0i (zan ht hp) h1)
  simp at ha
 ·split at ha
  ·rename_i p hp
   obtain⟨u,h1,h2⟩:=zad ha
   simp only[xfn] at h2;obtain⟨rfl,rfl⟩:=h2
   exact .zex r (zsr (zan ht hp) h1)
  simp at ha
 ·rename_i f first captured
  split at ha
  ·rename_i xs ys hx hy
   simp only[xfm,xfn] at ha;obtain⟨rfl,rfl⟩:=ha
   have e1:=(zba (cs:=xs.toArray) (cs':=first.map a.eval)).1 (by simpa using zf1 ht hx)
   have e2:=(zba (cs:=ys.toArray) (cs':=captured.map a.eval)).1 (by simpa using zf1 ht hy)
   exact .zex r ⟨.func (.func f) (first.map a.eval) (captured.map a.eval),by simp[Instr.makeFunc],.func f _ _ _ _ e1.1 e2.1 e1.2 e2.2⟩
  simp at ha
 ·rename_i t
  simp only[xfm,xfn] at ha;obtain⟨rfl,rfl⟩:=ha
  obtain⟨μ',h1,h2,h3⟩:=zpv r
  exact(OpOK.mk (P:=P) (s:=Instr.makeMap t none) (v':=.map (some w.heap.size)) (by simp[Instr.makeMap]) (.map _ _ _ h1) h2 h3).runs
 ·split at ha
  ·rename_i p q hp hq
   exact(zo6 r (zan ht hp) (zan ht hq) ha).runs
  simp at ha
 ·split at ha
  ·rename_i p q1 q2 q3 hp hq1 hq2 hq3
   obtain⟨u,h1,h2⟩:=zad ha
   simp only[xfn] at h2;obtain⟨rfl,rfl⟩:=h2
   exact .zex r (zx0 (zan ht hp) (zko ht hq1) (zko ht hq2) (zko ht hq3) h1)
  simp at ha
 ·split at ha
  ·rename_i p hp
   obtain⟨u,h1,h2⟩:=zad ha
   simp only[xfn] at h2;obtain⟨rfl,rfl⟩:=h2
   exact .zex r (zow (zan ht hp) h1)
  simp at ha
 ·split at ha
  ·rename_i p hp
   obtain⟨u,h1,h2⟩:=zad ha
   simp only[xfn] at h2;obtain⟨rfl,rfl⟩:=h2
   exact .zex r (zxc (zan ht hp) h1)
  simp at ha
 ·split at ha
  ·rename_i p q hp hq
   obtain⟨u,h1,h2⟩:=zad ha
   simp only[xfn] at h2;obtain⟨rfl,rfl⟩:=h2
   exact .zex r (zoz (zan ht hp) (zan ht hq) h1)
  simp at ha
 ·split at ha
  ·rename_i p q hp hq
   obtain⟨u,h1,h2⟩:=zad ha
   simp only[xfn] at h2;obtain⟨rfl,rfl⟩:=h2
   exact .zex r (zx5 (zan ht hp) (zan ht hq) h1)
  simp at ha
 ·split at ha
  ·rename_i p q hp hq
   obtain⟨u,h1,h2⟩:=zad ha
   simp only[xfn] at h2;obtain⟨rfl,rfl⟩:=h2
   exact(zzv r (zan ht hp) (zan ht hq) h1).runs
  simp at ha
 ·split at ha
  ·rename_i p q x hp hq hx
   obtain⟨u,h1,h2⟩:=zad ha
   simp only[xfn] at h2;obtain⟨rfl,rfl⟩:=h2
   exact .zs2 (zt1 r (zan ht hp) (zan ht hq) (zan ht hx) h1)
  simp at ha
 ·split at ha
  ·rename_i p q x hp hq hx
   obtain⟨u,h1,h2⟩:=zad ha
   simp only[xfn] at h2;obtain⟨rfl,rfl⟩:=h2
   exact .zs2 (zt1 r (zan ht hp) (zan ht hq) (zan ht hx) h1)
  simp at ha
 ·split at ha
  ·rename_i p hp
   obtain⟨u,h1,h2⟩:=zad ha
   simp only[xfn] at h2;obtain⟨rfl,rfl⟩:=h2
   exact .zex r (zmf (zan ht hp) h1)
  simp at ha
 ·rename_i b args argTypes
  split at ha
  ·rename_i l hl
   have hrel:=zf1 ht hl
   obtain⟨s,h1,h2⟩:=ztm (ty:=o.type) (cs:=args.map fun|.const _=>true|_=>false) (args':=args.map a.eval) r (by simpa using hrel) ha
   have:((do let d ← resolve a.eval { callee:=.builtin b,args:=args,argTypes:=argTypes } o.type;invoke d.target d.args):Sem Next)=(do pure (.value (← s))):=by
    rw[← h1];rfl
   simp only[this]
   exact h2.runs
  simp at ha
 simp at ha
end Go.Am
end
