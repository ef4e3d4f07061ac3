/-
 What is used in the proof of a statement (part Am3); no condition.
-/
import Derived.Laws.IdiomRangeMap
import Derived.Sort.Row
import Derived.Sort.Grow
import Derived.Shelf.SortM.Plain
import Derived.Test.YthnmgbgmlhackaaGreatDoorAm2
set_option linter.all false
set_option maxHeartbeats 40000000
set_option maxRecDepth 100000
section
namespace Go.Am
variable [bF]
section
variable {P:Program}
theorem zn6 {ts:aL}{t:Nat}{v:Value}(h:t<ts.length):(bE ts (some t) v).getD t Go.undef=v:=by
 simp[bE,h]
theorem Tc {ts:aL}{t u:Nat}{v:Value}(h:t≠u):(bE ts (some t) v).getD u Go.undef=ts.getD u Go.undef:=by
 rw[List.getD_eq_getElem?_getD,List.getD_eq_getElem?_getD,Hd (by intro hh;injection hh with hh;exact h hh)]
section
variable {lo:Nat} {i j id1 id2 tI tN tB tE m it nT:Nat} {o1 o2 o3:Oper} {NO:Array Oper} {body:Code} {es:List (Value×Value)} {Inv:List (Value×Value)→aL→ah→Prop} {Q:lW}
end
end
section
variable {P:Program} {lo:Nat} {h:ah}
theorem nU.KU {f:FuncId}{args:List Value}{R:Value→ah→Prop}
  (hc:∀U w ba,bA U args ba.toList→Rel U lo h w→Calls P f ba w fun e w'=>∃r v h' aS,e=.returned v∧ak aS r v∧Rel aS lo h' w'∧Frame lo U h w aS h' w'∧R r h'):nU P lo f args h R:=by
 intro F hF qC n U w ba ha r
 rw[hF.eq qC]
 exact callsIn_wide.2 (hc U w ba ha r)
theorem z2z {U:Mu}{w:World}(os:Array Obj)(n:Nat)(r:Rel U lo h w):Rel U lo h (Sort.grow (Sort.ahead w n) os)∧Frame lo U h w U h (Sort.grow (Sort.ahead w n) os):=by
 have hk:∀b,b<w.heap.size→(Sort.grow (Sort.ahead w n) os).heap[b]?=w.heap[b]?:=fun b hb=>by
  simp only[Sort.grow,Sort.heap_ahead,Array.getElem?_append,hb,if_true]
 refine⟨⟨fun o x hx=>?_,r.inj,r.pF,fun o x b a C hl hx hm off=>?_,r.bO,r.kq.step (by simp[Sort.grow]) (fun b hb _=>hk b hb) fun o x b a C h1 h2 h3 _=>⟨o,x,a,C,h1,h2,h3⟩⟩,⟨Mu.le_refl _,by simp[Sort.grow],Nat.le_refl _,fun b hb _=>hk b hb,fun _ _ h=>h,fun _ _=>rfl,fun _ _=>rfl,fun _ _ h=>h,⟨rfl,rfl,rfl,fun _=>by first|exact Nat.le_refl _|exact Nat.le_add_right _ _|exact Nat.le_succ _⟩⟩⟩
 ·obtain⟨b,a,C,h1,h2⟩:=r.bq o x hx
  exact⟨b,a,C,h1,h2.kept (hk b h2.tZ)⟩
 rw[Ak (hk b (oP r hx hm).tZ)]
 exact r.eY o x b a C hl hx hm off
end
inductive PV where
  |bool (b:Bool)
  |int (k:IntKind) (n:Int)
  |str (s:ByteArray)
  |nilFunc
  |nilIface
  |ft
  |aI
  |dF
  |e0
  |func (f:FuncId) (xs ys:List PV)
  |agg (cs:List PV)
  |bx (cs:List PV)
  |iface (t:TypeId) (v:PV)
  |vec (es:List PV)
  |vp (cs:List PV)
  |aC (es:List (PV×PV))
  |ptr (i off:Nat)
  |own (i off len k:Nat)
  |sub (i off len:Nat)
  |grow (i n:Nat) (nl:Bool)
  |aW (i:Nat)
  |bY (i:Nat)
  deriving Inhabited
def PV.cells:PV→List PV
 |.agg cs=>cs
 |v=>[v]
mutual
def PV.aG:PV→Bool
 |.func _ xs ys=>PV.aF xs&&PV.aF ys
 |.agg cs=>PV.aF cs
 |.bx cs=>PV.aF cs
 |.iface _ v=>v.aG
 |.ptr .. | .own .. | .sub .. | .grow .. | .aW .. | .bY ..=>false
 |_=>true
def PV.aF:List PV→Bool
 |[]=>true
 |v::r=>v.aG&&PV.aF r
end
mutual
def PV.dc:PV→Bool
 |.func _ xs ys=>PV.fu xs&&PV.fu ys
 |.agg cs=>PV.fu cs
 |.bx cs=>PV.fu cs
 |.iface _ v=>v.dc
 |.bool .. | .int .. | .str .. | .nilFunc|.nilIface|.ft|.aI|.dF=>true
 |_=>false
def PV.fu:List PV→Bool
 |[]=>true
 |v::r=>v.dc&&PV.fu r
end
theorem PV.FI:∀ {l:List PV} {i:Nat} {v:PV},PV.aF l=true→l[i]?=some v→v.aG=true
 |[],i,v,_,h=>by simp at h
 |u::r,i,v,ha,h=>by
  simp only[PV.aF,bS] at ha
  cases i with
  |zero=>simp at h;subst h;exact ha.1
  |succ i=>simp at h;exact PV.FI ha.2 h
theorem PV.Hy:∀ {l:List PV} {i:Nat} {v:PV},PV.fu l=true→l[i]?=some v→v.dc=true
 |[],i,v,_,h=>by simp at h
 |u::r,i,v,ha,h=>by
  simp only[PV.fu,bS] at ha
  cases i with
  |zero=>simp at h;subst h;exact ha.1
  |succ i=>simp at h;exact PV.Hy ha.2 h
theorem PV.Td:∀ {l:List PV},(∀v∈l,v.aG=true)→PV.aF l=true
 |[],_=>rfl
 |v::r,h=>by simp only[PV.aF,bS];exact⟨h v (by simp),PV.Td fun u hu=>h u (List.mem_cons_of_mem _ hu)⟩
abbrev Fz:=Nat→Option bc
inductive FR (g:Fz):PV→Value→Prop where
  |bool (b:Bool):FR g (.bool b) (.bool b)
  |int (k:IntKind) (n:Int):FR g (.int k n) (.int k n)
  |str (s:ByteArray):FR g (.str s) (.string s)
  |nilFunc:FR g .nilFunc .nilFunc
  |nilIface:FR g .nilIface .nilIface
  |ft:FR g .ft (.pointer none)
  |aI:FR g .aI (.slice none 0 0)
  |dF:FR g .dF (.map none)
  |vW:FR g .e0 (.slice none 0 0)
  |e0 (o off:Nat):FR g .e0 (.slice (some ⟨o,off,none⟩) 0 0)
  |func (f:FuncId) (xs ys:List PV) (bw dK:Array Value) (hx:xs.length=bw.size) (hy:ys.length=dK.size)
      (rx:∀(i:Nat) v v',xs[i]?=some v→bw[i]?=some v'→FR g v v') (ry:∀(i:Nat) v v',ys[i]?=some v→dK[i]?=some v'→FR g v v') :
      FR g (.func f xs ys) (.func (.func f) bw dK)
  |agg (cs:List PV) (ar:Array Value) (hs:cs.length=ar.size) (r:∀(i:Nat) v v',cs[i]?=some v→ar[i]?=some v'→FR g v v'):FR g (.agg cs) (.agg ar)
  |bx (cs:List PV) (ar:Array Value) (hs:cs.length=ar.size) (r:∀(i:Nat) v v',cs[i]?=some v→ar[i]?=some v'→FR g v v'):FR g (.bx cs) (.tuple ar)
  |iface (t:TypeId) (v:PV) (v':Value) (h:FR g v v'):FR g (.iface t v) (.iface t v')
  |fw:FR g (.vec []) (.slice none 0 0)
  |dv (o off k:Nat):FR g (.vec []) (.slice (some ⟨o,off,none⟩) 0 k)
  |vec (es:List PV) (o off k s sz:Nat) (ar:List Value) (hk:es.length≤k) (dZ:k+es.length<dW) (hg:g o=some (.cells s ar)) (h0:0<sz) (eJ:∀(i:Nat) e,es[i]?=some e→e.cells.length=sz) (hlen:off+es.length*sz≤ar.length)
      (r:∀(i:Nat) e (j:Nat) v v',es[i]?=some e→e.cells[j]?=some v→ar[off+i*sz+j]?=some v'→FR g v v'):FR g (.vec es) (.slice (some ⟨o,off,none⟩) es.length k)
  |vp (cs:List PV) (o off s:Nat) (ar:List Value) (hg:g o=some (.cells s ar)) (hlen:off+cs.length≤ar.length)
      (r:∀(j:Nat) v v',cs[j]?=some v→ar[off+j]?=some v'→FR g v v'):FR g (.vp cs) (.pointer (some ⟨o,off,none⟩))
  |aC (es:List (PV×PV)) (o:Nat) (br:List (Value×Value)) (hg:g o=some (.map br)) (hlen:es.length=br.length)
      (rk:∀(j:Nat) p p',es[j]?=some p→br[j]?=some p'→FR g p.1 p'.1) (rv:∀(j:Nat) p p',es[j]?=some p→br[j]?=some p'→FR g p.2 p'.2):FR g (.aC es) (.map (some o))
def Fz.le (g g':Fz):Prop:=∀o x,g o=some x→g' o=some x
theorem Fz.le_refl (g:Fz):g.le g:=fun _ _ h=>h
theorem Fz.le_trans {a b c:Fz}(h:a.le b)(h':b.le c):a.le c:=fun o x hx=>h' o x (h o x hx)
theorem FR.mono {g g':Fz}(hle:g.le g'){v:PV}{v':Value}(h:FR g v v'):FR g' v v':=by
 induction h with
 |bool b=>exact .bool b
 |int k n=>exact .int k n
 |str s=>exact .str s
 |nilFunc=>exact .nilFunc
 |nilIface=>exact .nilIface
 |ft=>exact .ft
 |aI=>exact .aI
 |dF=>exact .dF
 |vW=>exact .vW
 |e0 o off=>exact .e0 o off
 |func f xs ys bw dK hx hy _ _ rx ry=>exact .func f xs ys bw dK hx hy rx ry
 |agg cs ar hs _ r=>exact .agg cs ar hs r
 |bx cs ar hs _ r=>exact .bx cs ar hs r
 |iface t v v' _ ih=>exact .iface t v v' ih
 |fw=>exact .fw
 |dv o off k=>exact .dv o off k
 |vec es o off k s sz ar hk dZ hg h0 eJ hlen _ r=>exact .vec es o off k s sz ar hk dZ (hle _ _ hg) h0 eJ hlen r
 |vp cs o off s ar hg hlen _ r=>exact .vp cs o off s ar (hle _ _ hg) hlen r
 |aC es o br hg hlen _ _ rk rv=>exact .aC es o br (hle _ _ hg) hlen rk rv
abbrev Sg:=Nat→Nat×Nat×Nat
inductive VR (g:Fz) (σ:Sg) (n:Nat):PV→Value→Prop where
  |fr (v:PV) (v':Value) (h:FR g v v'):VR g σ n v v'
  |ptr (i off o a k:Nat) (hi:i<n) (h:σ i=(o,a,k)):VR g σ n (.ptr i off) (.pointer (some ⟨o,a+off,none⟩))
  |own (i off len k o a kk:Nat) (hi:i<n) (h:σ i=(o,a,kk)) (hl:len≤k) (hk:k<az):VR g σ n (.own i off len k) (.slice (some ⟨o,a+off,none⟩) len k)
  |sub (i off len k o a kk:Nat) (hi:i<n) (h:σ i=(o,a,kk)) (hl:len≤k) (hk:k+len<dW):VR g σ n (.sub i off len) (.slice (some ⟨o,a+off,none⟩) len k)
  |b8 (i:Nat) (nl:Bool):VR g σ n (.grow i 0 nl) (.slice none 0 0)
  |b9 (i o off:Nat):VR g σ n (.grow i 0 false) (.slice (some ⟨o,off,none⟩) 0 0)
  |grow (i m o a k:Nat) (nl:Bool) (hi:i<n) (h:σ i=(o,a,k)) (hn:0<m):VR g σ n (.grow i m nl) (.slice (some ⟨o,a,none⟩) m k)
  |aW (i o a k:Nat) (hi:i<n) (h:σ i=(o,a,k)):VR g σ n (.aW i) (.map (some o))
  |bY (i o a k:Nat) (hi:i<n) (h:σ i=(o,a,k)):VR g σ n (.bY i) (.func (.yield o) #[] #[])
  |agg (cs:List PV) (ar:Array Value) (hs:cs.length=ar.size) (r:∀(i:Nat) v v',cs[i]?=some v→ar[i]?=some v'→VR g σ n v v'):VR g σ n (.agg cs) (.agg ar)
  |bx (cs:List PV) (ar:Array Value) (hs:cs.length=ar.size) (r:∀(i:Nat) v v',cs[i]?=some v→ar[i]?=some v'→VR g σ n v v'):VR g σ n (.bx cs) (.tuple ar)
  |func (f:FuncId) (xs ys:List PV) (bw dK:Array Value) (hx:xs.length=bw.size) (hy:ys.length=dK.size)
      (rx:∀(i:Nat) v v',xs[i]?=some v→bw[i]?=some v'→VR g σ n v v') (ry:∀(i:Nat) v v',ys[i]?=some v→dK[i]?=some v'→VR g σ n v v') :
      VR g σ n (.func f xs ys) (.func (.func f) bw dK)
theorem VR.mono {g g':Fz}{σ aR:Sg}{n n':Nat}(hle:g.le g')(hn:n≤n')(cy:∀i,i<n→aR i=σ i){v:PV}{v':Value}(h:VR g σ n v v'):VR g' aR n' v v':=by
 induction h with
 |fr v v' h=>exact .fr v v' (h.mono hle)
 |ptr i off o a k hi h=>exact .ptr i off o a k (by omega) ((cy i hi).trans h)
 |own i off len k o a kk hi h hl hk=>exact .own i off len k o a kk (by omega) ((cy i hi).trans h) hl hk
 |sub i off len k o a kk hi h hl hk=>exact .sub i off len k o a kk (by omega) ((cy i hi).trans h) hl hk
 |b8 i nl=>exact .b8 i nl
 |b9 i o off=>exact .b9 i o off
 |grow i m o a k nl hi h hn=>exact .grow i m o a k nl (by omega) ((cy i hi).trans h) hn
 |aW i o a k hi h=>exact .aW i o a k (by omega) ((cy i hi).trans h)
 |bY i o a k hi h=>exact .bY i o a k (by omega) ((cy i hi).trans h)
 |agg cs ar hs _ r=>exact .agg cs ar hs r
 |bx cs ar hs _ r=>exact .bx cs ar hs r
 |func f xs ys bw dK hx hy _ _ rx ry=>exact .func f xs ys bw dK hx hy rx ry
theorem PV.Te {f:FuncId}{xs ys:List PV}:(PV.func f xs ys).aG=(PV.aF xs&&PV.aF ys):=by simp only[PV.aG]
theorem PV.NP {cs:List PV}:(PV.agg cs).aG=PV.aF cs:=by simp only[PV.aG]
theorem PV.Tf {cs:List PV}:(PV.bx cs).aG=PV.aF cs:=by simp only[PV.aG]
theorem VR.aG {g:Fz}{σ:Sg}{n:Nat}{v:PV}{v':Value}(h:VR g σ n v v'):v.aG=true→FR g v v':=by
 induction h with
 |fr v v' h=>exact fun _=>h
 |ptr=>intro h;simp[PV.aG] at h
 |own=>intro h;simp[PV.aG] at h
 |sub=>intro h;simp[PV.aG] at h
 |b8=>intro h;simp[PV.aG] at h
 |b9=>intro h;simp[PV.aG] at h
 |grow=>intro h;simp[PV.aG] at h
 |aW=>intro h;simp[PV.aG] at h
 |bY=>intro h;simp[PV.aG] at h
 |agg cs ar hs _ r=>intro h;rw[PV.NP] at h;exact .agg cs ar hs fun i v v' hv aQ=>r i v v' hv aQ (PV.FI h hv)
 |bx cs ar hs _ r=>intro h;rw[PV.Tf] at h;exact .bx cs ar hs fun i v v' hv aQ=>r i v v' hv aQ (PV.FI h hv)
 |func f xs ys bw dK hx hy _ _ rx ry=>intro h;rw[PV.Te,bS] at h;exact .func f xs ys bw dK hx hy (fun i v v' hv aQ=>rx i v v' hv aQ (PV.FI h.1 hv)) (fun i v v' hv aQ=>ry i v v' hv aQ (PV.FI h.2 hv))
def bh (R:PV→Value→Prop)(l:List PV)(l':List Value):Prop:=l.length=l'.length∧∀(i:Nat) v v',l[i]?=some v→l'[i]?=some v'→R v v'
section
variable {R R':PV→Value→Prop}
theorem bh.mono (hm:∀v v',R v v'→R' v v'){l:List PV}{l':List Value}(h:bh R l l'):bh R' l l':=⟨h.1,fun i v v' a b=>hm _ _ (h.2 i v v' a b)⟩
theorem bh.nil:bh R [] []:=⟨rfl,fun i v v' h=>by simp at h⟩
theorem bh.cons {v:PV}{v':Value}{l:List PV}{l':List Value}(hv:R v v')(h:bh R l l'):bh R (v::l) (v'::l'):=by
 refine⟨by simp[h.1],fun i u u' hu s7=>?_⟩
 cases i with
 |zero=>simp at hu s7;subst hu;subst s7;exact hv
 |succ i=>simp at hu s7;exact h.2 i u u' hu s7
theorem bh.jM {l:List Value}(h:bh R [] l):l=[]:=by
 have:=h.1;simp at this;exact List.eq_nil_of_length_eq_zero this.symm
theorem bh.dE {v:PV}{l:List PV}{r:List Value}(h:bh R (v::l) r):∃v' l',r=v'::l'∧R v v'∧bh R l l':=by
 cases r with
 |nil=>have:=h.1;simp at this
 |cons v' l'=>exact⟨v',l',rfl,h.2 0 v v' (by simp) (by simp),by have:=h.1;simpa using this,fun i x x' hx vH=>h.2 (i+1) x x' (by simpa using hx) (by simpa using vH)⟩
theorem bh.get {l:List PV}{l':List Value}(h:bh R l l'){i:Nat}{v:PV}(hv:l[i]?=some v):∃v',l'[i]?=some v'∧R v v':=by
 have aP:i<l.length:=by
  rcases Nat.lt_or_ge i l.length with h|h
  ·exact h
  rw[List.getElem?_eq_none h] at hv;cases hv
 have:i<l'.length:=h.1▸aP
 exact⟨l'[i],by simp[this],h.2 i v _ hv (by simp[this])⟩
theorem bh.append {l r:List PV}{l' r':List Value}(h:bh R l l')(h2:bh R r r'):bh R (l++r) (l'++r'):=by
 refine⟨by simp[h.1,h2.1],fun i v v' hv aQ=>?_⟩
 by_cases hi:i<l.length
 ·rw[List.getElem?_append_left hi] at hv
  rw[List.getElem?_append_left (by have:=h.1;omega)] at aQ
  exact h.2 i v v' hv aQ
 rw[List.getElem?_append_right (by omega)] at hv
 rw[List.getElem?_append_right (by have:=h.1;omega),← h.1] at aQ
 exact h2.2 _ v v' hv aQ
theorem bh.take {l:List PV}{l':List Value}(n:Nat)(h:bh R l l'):bh R (l.take n) (l'.take n):=by
 refine⟨by simp[h.1],fun i v v' hv aQ=>?_⟩
 rw[List.getElem?_take] at hv aQ
 split at hv
 ·rename_i aP;simp only[aP,if_true] at aQ;exact h.2 i v v' hv aQ
 simp at hv
theorem bh.drop {l:List PV}{l':List Value}(n:Nat)(h:bh R l l'):bh R (l.drop n) (l'.drop n):=by
 refine⟨by simp[h.1],fun i v v' hv aQ=>?_⟩
 rw[List.getElem?_drop] at hv aQ
 exact h.2 _ v v' hv aQ
def jn (cs:List PV)(off:Nat)(vs:List PV):List PV:=cs.take off++vs++cs.drop (off+vs.length)
theorem bh.fT {l r:List PV}{l' r':List Value}(off:Nat)(h:bh R l l')(h2:bh R r r'):bh R (jn l off r) (fT l' off r'):=by
 unfold jn Go.Am.fT
 rw[h2.1]
 exact((h.take off).append h2).append (h.drop _)
theorem bh.aG {g:Fz}{σ:Sg}{n:Nat}{l:List PV}{l':List Value}(h:bh (VR g σ n) l l')(hf:PV.aF l=true):bh (FR g) l l':=⟨h.1,fun i v v' hv aQ=>(h.2 i v v' hv aQ).aG (PV.FI hf hv)⟩
theorem bh.vr {g:Fz}{σ:Sg}{n:Nat}{l:List PV}{l':List Value}(h:bh (FR g) l l'):bh (VR g σ n) l l':=h.mono fun _ _ h=>.fr _ _ h
end
theorem FR.cells {g:Fz}{v:PV}{v':Value}(h:FR g v v'):bh (FR g) v.cells v'.cells.toList:=by
 cases h with
 |agg cs ar hs r=>exact⟨by simpa[PV.cells,Value.cells] using hs,fun i v v' hv aQ=>r i v v' hv (by simpa[Value.cells] using aQ)⟩
 |bool=>exact .cons (.bool _) .nil
 |int=>exact .cons (.int _ _) .nil
 |str=>exact .cons (.str _) .nil
 |nilFunc=>exact .cons .nilFunc .nil
 |nilIface=>exact .cons .nilIface .nil
 |ft=>exact .cons .ft .nil
 |aI=>exact .cons .aI .nil
 |dF=>exact .cons .dF .nil
 |vW=>exact .cons .vW .nil
 |e0 o off=>exact .cons (.e0 o off) .nil
 |func f xs ys bw dK hx hy rx ry=>exact .cons (.func f xs ys bw dK hx hy rx ry) .nil
 |bx cs ar hs r=>exact .cons (.bx cs ar hs r) .nil
 |iface t v v' h=>exact .cons (.iface t v v' h) .nil
 |fw=>exact .cons .fw .nil
 |dv o off k=>exact .cons (.dv o off k) .nil
 |vec es o off k s sz ar hk dZ hg h0 eJ hlen r=>exact .cons (.vec es o off k s sz ar hk dZ hg h0 eJ hlen r) .nil
 |vp cs o off s ar hg hlen r=>exact .cons (.vp cs o off s ar hg hlen r) .nil
 |aC es o br hg hlen rk rv=>exact .cons (.aC es o br hg hlen rk rv) .nil
theorem VR.cells {g:Fz}{σ:Sg}{n:Nat}{v:PV}{v':Value}(h:VR g σ n v v'):bh (VR g σ n) v.cells v'.cells.toList:=by
 cases h with
 |fr _ _ h=>exact h.cells.vr
 |agg cs ar hs r=>exact⟨by simpa[PV.cells,Value.cells] using hs,fun i v v' hv aQ=>r i v v' hv (by simpa[Value.cells] using aQ)⟩
 |ptr i off o a k hi h=>exact .cons (.ptr i off o a k hi h) .nil
 |own i off len k o a kk hi h hl hk=>exact .cons (.own i off len k o a kk hi h hl hk) .nil
 |sub i off len k o a kk hi h hl hk=>exact .cons (.sub i off len k o a kk hi h hl hk) .nil
 |b8 i nl=>exact .cons (.b8 i nl) .nil
 |b9 i o off=>exact .cons (.b9 i o off) .nil
 |grow i m o a k nl hi h hn=>exact .cons (.grow i m o a k nl hi h hn) .nil
 |aW i o a k hi h=>exact .cons (.aW i o a k hi h) .nil
 |bY i o a k hi h=>exact .cons (.bY i o a k hi h) .nil
 |bx cs ar hs r=>exact .cons (.bx cs ar hs r) .nil
 |func f xs ys bw dK hx hy rx ry=>exact .cons (.func f xs ys bw dK hx hy rx ry) .nil
def PV.one:PV→Bool
 |.agg _=>false
 |.bx _=>false
 |_=>true
theorem FR.one {g:Fz}{v:PV}{v':Value}(h:FR g v v'):v'.oneCell'=v.one:=by cases h<;>rfl
theorem VR.one {g:Fz}{σ:Sg}{n:Nat}{v:PV}{v':Value}(h:VR g σ n v v'):v'.oneCell'=v.one:=by
 cases h with
 |fr _ _ h=>exact h.one
 |_=>rfl
theorem bh.xu {g:Fz}{σ:Sg}{n:Nat}{l:List PV}{l':List Value}(h:bh (VR g σ n) l l')(ho:l.all PV.one=true):l'.all (·.oneCell')=true:=by
 rw[List.all_eq_true] at ho ⊢
 intro v' aQ
 obtain⟨i,hi⟩:=List.getElem?_of_mem aQ
 have aP:i<l'.length:=by
  rcases Nat.lt_or_ge i l'.length with h|h
  ·exact h
  rw[List.getElem?_eq_none h] at hi;cases hi
 have hl:i<l.length:=h.1▸aP
 rw[(h.2 i l[i] v' (by simp[hl]) hi).one]
 exact ho _ (List.getElem_mem hl)
inductive aM where
  |box (cs:List PV)
  |arr (ag:Bool) (sz:Nat) (cs:List PV)
  |grow (sz:Nat) (es:List PV)
  |map (es:List (PV×PV))
  |dS (es:List (PV×PV))
  |bW (es:List PV)
  |emap (es:List (PV×PV)) (k:Value) (born:Nat)
  |loop (N:Nat) (ps:Array Tmp) (assign body:Code) (ab:List (Nat×PV)) (jump:Option Code)
  deriving Inhabited
structure ai where
  next:Nat
  bq:List (Nat×aM)
def bt (i:Nat):List (Nat×aM)→Option aM
 |[]=>none
 |(j,x)::r=>bif Nat.beq i j then some x else bt i r
def ai.get (vh:ai)(i:Nat):Option aM:=bt i vh.bq
def ai.alloc (vh:ai)(x:aM):ai:=⟨vh.next+1,(vh.next,x)::vh.bq⟩
def cZ (i:Nat)(x:aM):List (Nat×aM)→List (Nat×aM)
 |[]=>[]
 |(j,y)::r=>bif Nat.beq i j then (j,x)::cZ i x r else (j,y)::cZ i x r
def ai.put (vh:ai)(i:Nat)(x:aM):ai:=⟨vh.next,cZ i x vh.bq⟩
def iw (i:Nat):List (Nat×aM)→List (Nat×aM)
 |[]=>[]
 |(j,y)::r=>bif Nat.beq i j then iw i r else (j,y)::iw i r
def ai.drop (vh:ai)(i:Nat):ai:=⟨vh.next,iw i vh.bq⟩
def ai.empty:ai:=⟨0,[]⟩
theorem beq_eq (i j:Nat):Nat.beq i j=decide (i=j):=by rw[Bool.eq_iff_iff];simp
theorem Tg (i j:Nat)(x:aM):∀l,bt j (cZ i x l)=if j=i then (bt i l).map (fun _=>x) else bt j l
 |[]=>by simp[cZ,bt]
 |(k,y)::r=>by
  have ih:=Tg i j x r
  simp only[cZ,beq_eq]
  by_cases AR:i=k
  ·subst AR
   simp only[decide_true,aO,bt,beq_eq,ih]
   by_cases iZ:j=i<;>simp[iZ]
  simp only[AR,decide_false,bz,bt,beq_eq,ih]
  by_cases vX:j=k
  ·subst vX
   have:¬j=i:=fun h=>AR h.symm
   simp[this]
  by_cases iZ:j=i
  ·subst iZ;simp[vX]
  simp[vX,iZ]
theorem NQ (i j:Nat):∀l,bt j (iw i l)=if j=i then none else bt j l
 |[]=>by simp[iw,bt]
 |(k,y)::r=>by
  have ih:=NQ i j r
  simp only[iw,beq_eq]
  by_cases AR:i=k
  ·subst AR
   simp only[decide_true,aO,bt,beq_eq,ih]
   by_cases iZ:j=i<;>simp[iZ]
  simp only[AR,decide_false,bz,bt,beq_eq,ih]
  by_cases vX:j=k
  ·subst vX
   have:¬j=i:=fun h=>AR h.symm
   simp[this]
  simp[vX]
theorem ai.jf (vh:ai)(x:aM)(j:Nat):(vh.alloc x).get j=if j=vh.next then some x else vh.get j:=by
 simp only[ai.get,ai.alloc,bt,beq_eq]
 by_cases h:j=vh.next<;>simp[h]
theorem ai.dJ (vh:ai)(i j:Nat)(x y:aM)(hy:vh.get i=some y):(vh.put i x).get j=if j=i then some x else vh.get j:=by
 have hy:bt i vh.bq=some y:=hy
 simp only[ai.get,ai.put,Tg,hy,Option.map_some]
theorem ai.NR (vh:ai)(i j:Nat):(vh.drop i).get j=if j=i then none else vh.get j:=by
 simp only[ai.get,ai.drop,NQ]
def aM.live:aM→Bool
 |.grow _ []=>false
 |_=>true
abbrev a7:=List (Nat×PV)
def bK (t:Nat):a7→Option PV
 |[]=>none
 |(u,v)::r=>bif Nat.beq t u then some v else bK t r
def VT (g:Fz)(σ:Sg)(n:Nat)(ab:a7)(ts:aL):Prop:=∀t v,bK t ab=some v→VR g σ n v (ts.getD t Go.undef)
def uo (g:Fz)(σ:Sg)(n:Nat)(h:ah)(i:Nat):aM→Prop
 |.box cs=>∃s ar,h.get (σ i).1=some (.cells s ar)∧(σ i).2.1=0∧bh (VR g σ n) cs ar
 |.arr _ sz cs=>0<sz∧∃s ar,h.get (σ i).1=some (.cells s ar)∧(σ i).2.1=0∧bh (FR g) cs ar
 | .grow sz es => 0 < sz ∧ (∀ e ∈ es, e.cells.length = sz) ∧ es.length < az ∧ (es = [] ∨ ∃ s ar, h.get (σ i).1 = some (.cells s ar) ∧ (σ i).2.1 = 0 ∧ bh (FR g) (es.flatMap PV.cells) ar ∧
  ((σ i).2.2=az∧s=sz∨(σ i).2.2=es.length))
 |.map es=>∃br,h.get (σ i).1=some (.map br)∧(σ i).2.1=0∧bh (FR g) (es.map (·.1)) (br.map (·.1))∧bh (FR g) (es.map (·.2)) (br.map (·.2))
 |.dS es=>∃br,h.get (σ i).1=some (.map br)∧(σ i).2.1=0∧bh (FR g) (es.map (·.1)) (br.map (·.1))∧bh (VR g σ n) (es.map (·.2)) (br.map (·.2))
 |.bW es=>es≠[]∧(∀e∈es,e.cells=[e])∧es.length<az∧∃s ar,h.get (σ i).1=some (.cells s ar)∧(σ i).2.1=0∧bh (VR g σ n) es ar∧((σ i).2.2=az∧s=1∨(σ i).2.2=es.length)
 |.emap es k born=>∃br,h.get (σ i).1=some (.emap br k born)∧(σ i).2.1=0∧bh (FR g) (es.map (·.1)) (br.map (·.1))∧bh (FR g) (es.map (·.2)) (br.map (·.2))
 |.loop N ps a bd ab jump=>∃L,h.get (σ i).1=some (.loop L jump)∧L.params=ps∧L.assign=a∧L.body=bd∧L.ts.length=N∧VT g σ n ab L.ts
structure VS (lo:Nat) (g:Fz) (σ:Sg) (vh:ai) (h:ah):Prop where
  obj:∀i x,vh.get i=some x→i<vh.next∧uo g σ vh.next h i x
  inj:∀i j x y,vh.get i=some x→vh.get j=some y→x.live=true→y.live=true→(σ i).1=(σ j).1→i=j
  low:∀i x,vh.get i=some x→x.live=true→lo≤(σ i).1
  fz:∀o x,g o=some x→h.get o=some x
  jU:∀i x,vh.get i=some x→x.live=true→g (σ i).1=none
  bO:lo≤h.next
theorem VT.mono {g g':Fz}{σ aR:Sg}{n n':Nat}(hle:g.le g')(hn:n≤n')(cy:∀i,i<n→aR i=σ i){ab:a7}{ts:aL}(h:VT g σ n ab ts):VT g' aR n' ab ts:=fun t v hv=>(h t v hv).mono hle hn cy
structure VF (σ:Sg) (vh:ai) (h:ah) (aR:Sg) (ao:ai) (h':ah):Prop where
  next:h.next≤h'.next
  gD:∀o,o<h.next→(∀i x,vh.get i=some x→x.live=true→(σ i).1≠o)→h'.get o=h.get o
  own:∀i x,ao.get i=some x→x.live=true→(aR i).1<h.next→∃j y,vh.get j=some y∧y.live=true∧(σ j).1=(aR i).1
theorem VF.refl (σ:Sg)(vh:ai)(h:ah):VF σ vh h σ vh h:=⟨Nat.le_refl _,fun _ _ _=>rfl,fun i x hx hl _=>⟨i,x,hx,hl,rfl⟩⟩
theorem VF.trans {σ rB dG:Sg}{vh cn aV:ai}{h h1 h2:ah}(a:VF σ vh h rB cn h1)(b:VF rB cn h1 dG aV h2):VF σ vh h dG aV h2 where
  next:=Nat.le_trans a.next b.next
  gD o ho hn:=by
    rw[b.gD o (Nat.lt_of_lt_of_le ho a.next) (fun i x hx hl he=>?_),a.gD o ho hn]
    obtain⟨j,y,hj,Dv,ue⟩:=a.own i x hx hl (he▸ho)
    exact hn j y hj Dv (ue.trans he)
  own i x hx hl aP:=by
    obtain⟨j,y,hj,Dv,ue⟩:=b.own i x hx hl (Nat.lt_of_lt_of_le aP a.next)
    obtain⟨k,z,hk,FJ,vY⟩:=a.own j y hj Dv (ue▸aP)
    exact⟨k,z,hk,FJ,vY.trans ue⟩
def nZ:Value→Option PV
 |.bool b=>some (.bool b)
 |.int k n=>some (.int k n)
 |.string s=>some (.str s)
 |.nilFunc=>some .nilFunc
 |.nilIface=>some .nilIface
 |.pointer none=>some .ft
 |.slice none 0 0=>some .aI
 |.map none=>some .dF
 |_=>none
def fx:List Value→Option (List PV)
 |[]=>some []
 |v::r=>match nZ v,fx r with
  |some p,some l=>some (p::l)
  |_,_=>none
def bj:Value→Option PV
 |.agg cs=>(fx cs.toList).map .agg
 |.tuple cs=>(fx cs.toList).map .bx
 |v=>nZ v
theorem Th {g:Fz}{v:Value}{p:PV}(h:nZ v=some p):FR g p v∧vI v=true:=by
 unfold nZ at h
 split at h<;>first|cases h;done|(injection h with h;subst h;first|exact⟨.bool _,rfl⟩|exact⟨.int _ _,rfl⟩|exact⟨.str _,rfl⟩|exact⟨.nilFunc,rfl⟩|exact⟨.nilIface,rfl⟩|exact⟨.ft,rfl⟩|exact⟨.aI,rfl⟩|exact⟨.dF,rfl⟩)
theorem KV {g:Fz}:∀ {l:List Value} {ps:List PV},fx l=some ps→bh (FR g) ps l∧l.all vI=true
 |[],ps,h=>by simp only[fx,ax] at h;subst h;exact⟨.nil,rfl⟩
 |v::r,ps,h=>by
  simp only[fx] at h
  split at h
  ·rename_i p l h1 h2
   injection h with h;subst h
   have ih:=KV (g:=g) h2
   have h3:=Th (g:=g) h1
   exact⟨.cons h3.1 ih.1,by simp[h3.2,ih.2]⟩
  cases h
theorem AT {g:Fz}{v:Value}{p:PV}(h:bj v=some p):FR g p v∧lQ v=true:=by
 unfold bj at h
 split at h
 ·obtain⟨l,h1,rfl⟩:=dq h
  have:=KV (g:=g) h1
  exact⟨.agg _ _ (by simpa using this.1.1) (fun i v v' hv aQ=>this.1.2 i v v' hv (by simpa using aQ)),this.2⟩
 ·obtain⟨l,h1,rfl⟩:=dq h
  have:=KV (g:=g) h1
  exact⟨.bx _ _ (by simpa using this.1.1) (fun i v v' hv aQ=>this.1.2 i v v' hv (by simpa using aQ)),this.2⟩
 rename_i hx hy
 have:=Th (g:=g) h
 refine⟨this.1,?_⟩
 unfold lQ
 split
 ·exact absurd rfl (hx _)
 ·exact absurd rfl (hy _)
 exact this.2
def cC (ab:a7):Operand→Option PV
 |.tmp t=>bK t ab
 |.const v=>bj v
 |.func f=>some (.func f [] [])
 |.global _=>none
section
variable {P:Program} {lo:Nat} {g:Fz} {σ:Sg} {vh:ai} {h:ah} {ab:a7} {ts:aL}
theorem eO {n:Nat}(ht:VT g σ n ab ts){x:Operand}{v:PV}(hv:cC ab x=some v):∃v',cX ts x=some v'∧VR g σ n v v':=by
 cases x with
 |tmp t=>exact⟨_,rfl,ht t v hv⟩
 |const u=>
  have:=AT (g:=g) hv
  exact⟨u,by simp[cX,this.2],.fr _ _ this.1⟩
 |func f=>
  simp only[cC,ax] at hv;subst hv
  exact⟨_,rfl,.fr _ _ (.func f [] [] #[] #[] rfl rfl (fun i v v' h=>by simp at h) (fun i v v' h=>by simp at h))⟩
 |global=>simp[cC] at hv
def iE (ab:a7):List Operand→Option (List PV)
 |[]=>some []
 |x::r=>match cC ab x,iE ab r with
  |some v,some l=>some (v::l)
  |_,_=>none
theorem AU {n:Nat}(ht:VT g σ n ab ts):∀ {xs:List Operand} {l:List PV},iE ab xs=some l→∃l',pM ts xs=some l'∧bh (VR g σ n) l l'
 |[],l,h=>by simp only[iE,ax] at h;subst h;exact⟨[],rfl,.nil⟩
 |x::r,l,h=>by
  simp only[iE] at h
  split at h
  ·rename_i v l1 h1 h2
   injection h with h;subst h
   obtain⟨v',k1,k2⟩:=eO ht h1
   obtain⟨l',k3,k4⟩:=AU ht h2
   exact⟨v'::l',by simp[pM,k1,k3],.cons k2 k4⟩
  cases h
def mw (ab:a7):List (Nat×Operand)→Option (List (Nat×PV))
 |[]=>some []
 |(i,x)::r=>match cC ab x,mw ab r with
  |some v,some l=>some ((i,v)::l)
  |_,_=>none
def KW (R:PV→Value→Prop)(l:List (Nat×PV))(l':List (Nat×Value)):Prop:=l.map (·.1)=l'.map (·.1)∧bh R (l.map (·.2)) (l'.map (·.2))
theorem KX {n:Nat}(ht:VT g σ n ab ts):∀ {xs:List (Nat×Operand)} {l:List (Nat×PV)},mw ab xs=some l→∃l',vQ ts xs=some l'∧KW (VR g σ n) l l'
 |[],l,h=>by simp only[mw,ax] at h;subst h;exact⟨[],rfl,rfl,.nil⟩
 |(i,x)::r,l,h=>by
  simp only[mw] at h
  split at h
  ·rename_i v l1 h1 h2
   injection h with h;subst h
   obtain⟨v',k1,k2⟩:=eO ht h1
   obtain⟨l',k3,k4,k5⟩:=KX ht h2
   exact⟨(i,v')::l',by simp[vQ,k1,k3],by simp[k4],.cons k2 k5⟩
  cases h
def fK:PV→Option Value
 |.bool b=>some (.bool b)
 |.int k n=>some (.int k n)
 |.str s=>some (.string s)
 |.nilFunc=>some .nilFunc
 |.nilIface=>some .nilIface
 |.ft=>some (.pointer none)
 |.aI=>some (.slice none 0 0)
 |.dF=>some (.map none)
 |_=>none
def fy:List PV→Option (List Value)
 |[]=>some []
 |v::r=>match fK v,fy r with
  |some p,some l=>some (p::l)
  |_,_=>none
def my:PV→Option Value
 |.agg cs=>(fy cs).map fun l=>.agg l.toArray
 |v=>fK v
theorem Ti {v:PV}{v' x:Value}(hv:FR g v v')(h:fK v=some x):v'=x:=by
 unfold fK at h
 split at h<;>first|cases h;done|(injection h with h;subst h;cases hv;rfl)
theorem Tj:∀ {l:List PV} {l' xs:List Value},bh (FR g) l l'→fy l=some xs→l'=xs
 |[],l',xs,hl,h=>by simp only[fy,ax] at h;subst h;exact hl.jM
 |v::r,l',xs,hl,h=>by
  simp only[fy] at h
  split at h
  ·rename_i p l h1 h2
   injection h with h;subst h
   obtain⟨v',r',rfl,k1,k2⟩:=hl.dE
   rw[Ti k1 h1,Tj k2 h2]
  cases h
theorem Tk {v:PV}{x:Value}(h:fK v=some x):v.aG=true:=by
 unfold fK at h
 split at h<;>first|cases h;done|simp[PV.aG]
theorem Tl:∀ {l:List PV} {xs:List Value},fy l=some xs→PV.aF l=true
 |[],_,_=>rfl
 |v::r,xs,h=>by
  simp only[fy] at h
  split at h
  ·rename_i h1 h2
   simp[PV.aF,Tk h1,Tl h2]
  cases h
theorem Hz {n:Nat}{v:PV}{v' x:Value}(hv:VR g σ n v v')(h:my v=some x):v'=x:=by
 unfold my at h
 split at h
 ·obtain⟨l,h1,rfl⟩:=dq h
  have hf:=hv.aG (by rw[PV.NP];exact Tl h1)
  cases hf with
  |agg cs ar hs r=>
   have:=Tj (g:=g) (l':=ar.toList) ⟨by simpa using hs,fun i v v' hv aQ=>r i v v' hv (by simpa using aQ)⟩ h1
   rw[← this]
 exact Ti (hv.aG (Tk h)) h
def jH (lo:Nat)(g:Fz)(σ:Sg)(vh:ai)(h:ah)(v:PV)(ao:ai)(v':Value)(h':ah):Prop:=
 ∃aR,VR g aR ao.next v v'∧VS lo g aR ao h'∧VF σ vh h aR ao h'∧vh.next≤ao.next∧∀i,i<vh.next→aR i=σ i
theorem jH.same {v:PV}{v':Value}(s:VS lo g σ vh h)(hv:VR g σ vh.next v v'):jH lo g σ vh h v vh v' h:=
 ⟨σ,hv,s,VF.refl _ _ _,Nat.le_refl _,fun _ _=>rfl⟩
def pR:PV→Option Bool
 |.vp _=>some false
 |.ptr _ _=>some false
 |_=>none
def pS:PV→Option Bool
 |.vec (_::_)=>some false
 |.own _ _ _ _=>some false
 |.sub _ _ _=>some false
 |.grow _ n true=>some (Nat.beq n 0)
 |.grow _ (_+1) false=>some false
 |_=>none
def mQ (P:Program)(t:TypeId)(a b:PV):Option Bool:=
 match b,P.underlying t with
 |.ft,some (.pointer _)=>pR a
 |.aI,some (.slice _)=>pS a
 |_,_=>none
def gE (P:Program)(op:BinOp)(t:TypeId)(a b:PV):Option PV:=
 match my a,my b with
 |some x,some y=>(kV P op t x y).bind bj
 |_,_=>match op with
  |.eql=>(mQ P t a b).map .bool
  |.neq=>(mQ P t a b).map fun r=>.bool !r
  |_=>none
theorem Tm {n:Nat}{t:TypeId}{a b:PV}{a' b':Value}{r:Bool}(ha:VR g σ n a a')(hb:VR g σ n b b')(hq:mQ P t a b=some r):dR P t a' b'=some r:=by
 unfold mQ at hq
 split at hq
 ·rename_i hu
  have:=hb.aG rfl;cases this
  unfold pR at hq
  split at hq
  ·injection hq with hq;subst hq
   have:=ha.aG rfl;cases this;simp[dR,hu]
  ·injection hq with hq;subst hq
   cases ha with
   |fr _ _ h=>cases h
   |ptr=>simp[dR,hu]
  cases hq
 ·rename_i hu
  have:=hb.aG rfl;cases this
  unfold pS at hq
  split at hq
  ·injection hq with hq;subst hq
   have:=ha.aG rfl;cases this;simp[dR,hu]
  ·injection hq with hq;subst hq
   cases ha with
   |fr _ _ h=>cases h
   |own=>simp[dR,hu]
  ·injection hq with hq;subst hq
   cases ha with
   |fr _ _ h=>cases h
   |sub=>simp[dR,hu]
  ·injection hq with hq;subst hq
   cases ha with
   |fr _ _ h=>cases h
   |b8=>simp[dR,hu]
   |grow i m o a k nl hi h hn=>
    simp only[dR,hu,beq_eq]
    simp
    omega
  ·injection hq with hq;subst hq
   cases ha with
   |fr _ _ h=>cases h
   |grow i m o a k nl hi h hn=>simp[dR,hu]
  cases hq
 cases hq
theorem NS {t:TypeId}{a b:Value}{r:Bool}(h:dR P t a b=some r)(h1:∀k x k' y,¬(a=.int k x∧b=.int k' y))(h2:∀x y,¬(a=.string x∧b=.string y)) :
  kV P .eql t a b=some (.bool r)∧kV P .neq t a b=some (.bool !r):=by
 constructor
 ·unfold kV
  split<;>first|(simp_all;done)|(simp[dR] at h;done)
 unfold kV
 split<;>first|(simp_all;done)|(simp[dR] at h;done)
theorem KY {n:Nat}{t:TypeId}{a b:PV}{b':Value}{r:Bool}(hb:VR g σ n b b')(hq:mQ P t a b=some r):b'=.pointer none∨b'=.slice none 0 0:=by
 unfold mQ at hq
 split at hq
 ·have:=hb.aG rfl;cases this;exact .inl rfl
 ·have:=hb.aG rfl;cases this;exact .inr rfl
 cases hq
theorem xah {n:Nat}{op:BinOp}{t:TypeId}{a b v:PV}{a' b':Value}(ha:VR g σ n a a')(hb:VR g σ n b b')(hv:gE P op t a b=some v):∃v',kV P op t a' b'=some v'∧FR g v v':=by
 unfold gE at hv
 split at hv
 ·rename_i x y h1 h2
  rw[Hz ha h1,Hz hb h2]
  cases h3:kV P op t x y with
  |none=>rw[h3] at hv;cases hv
  |some u=>rw[h3] at hv;exact⟨u,rfl,(AT hv).1⟩
 split at hv
 ·obtain⟨r,h1,rfl⟩:=dq hv
  have:=Tm ha hb h1
  refine⟨_,(NS this ?_ ?_).1,.bool _⟩
  ·rintro k x k' y ⟨_,rfl⟩;rcases KY hb h1 with h|h<;>cases h
  rintro x y ⟨_,rfl⟩;rcases KY hb h1 with h|h<;>cases h
 ·obtain⟨r,h1,rfl⟩:=dq hv
  have:=Tm ha hb h1
  refine⟨_,(NS this ?_ ?_).2,.bool _⟩
  ·rintro k x k' y ⟨_,rfl⟩;rcases KY hb h1 with h|h<;>cases h
  rintro x y ⟨_,rfl⟩;rcases KY hb h1 with h|h<;>cases h
 cases hv
def n3 (P:Program)(t:TypeId)(cs:List PV)(off n:Nat):Option PV:=
 match bD P t with
 |some true=>bif Nat.ble (off+n) cs.length then some (.agg ((cs.drop off).take n)) else none
 |some false=>cs[off]?
 |none=>none
theorem FK {n:Nat}{cs:List PV}{ar:List Value}(h:bh (VR g σ n) cs ar):VR g σ n (.agg cs) (.agg ar.toArray):=
 .agg _ _ (by simpa using h.1) fun i v v' hv aQ=>h.2 i v v' hv (by simpa using aQ)
theorem Tn {n m:Nat}{t:TypeId}{cs:List PV}{ar:List Value}{off:Nat}{v:PV}(h:bh (VR g σ n) cs ar)(hv:n3 P t cs off m=some v):∃v',apart P t ar off m=some v'∧VR g σ n v v':=by
 unfold n3 at hv
 unfold apart
 split at hv
 ·rename_i hg
  cases hb:Nat.ble (off+m) cs.length with
  |false=>rw[hb] at hv;cases hv
  |true=>
   rw[hb] at hv;simp only[aO,ax] at hv;subst hv
   rw[h.1] at hb
   exact⟨_,by simp[hg,hb],FK ((h.drop off).take m)⟩
 ·rename_i hg
  obtain⟨v',h1,h2⟩:=h.get hv
  exact⟨v',by simp[hg,h1],h2⟩
 cases hv
theorem NT {n:Nat}{cs:List PV}{v':Value}(h:VR g σ n (.agg cs) v'):∃ar:Array Value,v'=.agg ar∧bh (VR g σ n) cs ar.toList:=by
 cases h with
 |fr _ _ h=>cases h with
  |agg _ ar hs r=>exact⟨ar,rfl,by simpa using hs,fun i v v' hv aQ=>.fr _ _ (r i v v' hv (by simpa using aQ))⟩
 |agg _ ar hs r=>exact⟨ar,rfl,by simpa using hs,fun i v v' hv aQ=>r i v v' hv (by simpa using aQ)⟩
theorem NU {n:Nat}{cs:List PV}{v':Value}(h:VR g σ n (.bx cs) v'):∃ar:Array Value,v'=.tuple ar∧bh (VR g σ n) cs ar.toList:=by
 cases h with
 |fr _ _ h=>cases h with
  |bx _ ar hs r=>exact⟨ar,rfl,by simpa using hs,fun i v v' hv aQ=>.fr _ _ (r i v v' hv (by simpa using aQ))⟩
 |bx _ ar hs r=>exact⟨ar,rfl,by simpa using hs,fun i v v' hv aQ=>r i v v' hv (by simpa using aQ)⟩
def o4 (P:Program)(t:TypeId)(x:PV)(f:Nat):Option PV:=
 match x,dL P t f with
 |.agg cs,some (ty,off,n)=>n3 P ty cs off n
 |_,_=>none
theorem zyy {n:Nat}{t:TypeId}{x v:PV}{x':Value}{f:Nat}(hx:VR g σ n x x')(hv:o4 P t x f=some v):∃v',GR P t x' f=some v'∧VR g σ n v v':=by
 unfold o4 at hv
 split at hv
 ·rename_i hf
  obtain⟨ar,rfl,hc⟩:=NT hx
  obtain⟨v',h1,h2⟩:=Tn hc hv
  exact⟨v',by simp[GR,hf,h1],h2⟩
 cases hv
def eP (n:Int)(len:Nat):Option Nat:=if 0≤n∧n<len then some n.toNat else none
theorem FL (n:Int)(len:Nat):within n len=eP n len:=by
 unfold within eP
 cases n with
 |ofNat k=>
  simp only[Int.ofNat_eq_natCast]
  by_cases h:k<len
  ·have:Nat.blt k len=true:=by rw[Nat.blt_eq];exact h
   simp[this,h]
  have:Nat.blt k len=false:=by rw[← Bool.not_eq_true,Nat.blt_eq];exact h
  simp[this,h]
 |negSucc k=>simp
def o5 (P:Program)(t:TypeId)(x i:PV):Option PV:=
 match x,i with
 |.agg cs,.int _ n=>
  match jg P t with
  |some (len,e,sz)=>match eP n len with
   |some k=>n3 P e cs (k*sz) sz
   |none=>none
  |none=>none
 |.str s,.int k n=>(C9 P t (.string s) (.int k n)).bind bj
 |_,_=>none
theorem zxt {n:Nat}{t:TypeId}{x i v:PV}{x' i':Value}(hx:VR g σ n x x')(hi:VR g σ n i i')(hv:o5 P t x i=some v):∃v',C9 P t x' i'=some v'∧VR g σ n v v':=by
 unfold o5 at hv
 split at hv
 ·rename_i k m
  have:=hi.aG rfl;cases this
  obtain⟨ar,rfl,hc⟩:=NT hx
  split at hv
  ·rename_i ha
   split at hv
   ·rename_i hw
    obtain⟨v',h1,h2⟩:=Tn hc hv
    exact⟨v',by simp[C9,ha,FL,hw,h1],h2⟩
   cases hv
  cases hv
 ·have:=hi.aG rfl;cases this
  have:=hx.aG rfl;cases this
  rename_i s k m
  cases h3:C9 P t (.string s) (.int k m) with
  |none=>rw[h3] at hv;cases hv
  |some u=>rw[h3] at hv;exact⟨u,rfl,.fr _ _ (AT hv).1⟩
 cases hv
def o6 (x:PV)(i:Nat):Option PV:=
 match x with
 |.bx vs=>vs[i]?
 |_=>none
theorem ztx {n:Nat}{x v:PV}{x':Value}{i:Nat}(hx:VR g σ n x x')(hv:o6 x i=some v):∃v',GS x' i=some v'∧VR g σ n v v':=by
 unfold o6 at hv
 split at hv
 ·obtain⟨ar,rfl,hc⟩:=NU hx
  obtain⟨v',h1,h2⟩:=hc.get hv
  exact⟨v',by simpa[GS] using h1,h2⟩
 cases hv
def o7 (P:Program)(s:TypeId)(p:PV)(f:Nat):Option PV:=
 match p,dL P s f with
 |.ptr i off,some (_,fo,n)=>bif Nat.beq n 0 then none else some (.ptr i (off+fo))
 |.vp cs,some (_,fo,n)=>bif Nat.beq n 0||!Nat.ble fo cs.length then none else some (.vp (cs.drop fo))
 |_,_=>none
theorem NV {cs:List PV}{o off s:Nat}{ar:List Value}(hg:g o=some (.cells s ar))(hlen:off+cs.length≤ar.length)(r:∀(j:Nat) v v',cs[j]?=some v→ar[off+j]?=some v'→FR g v v'){k:Nat}(hk:k≤cs.length) :
  FR g (.vp (cs.drop k)) (.pointer (some ⟨o,off+k,none⟩)):=
 .vp _ o (off+k) s ar hg (by simp;omega) fun j v v' hv aQ=>r (k+j) v v' (by rw[List.getElem?_drop] at hv;exact hv) (by rw[show off+(k+j)=off+k+j by omega];exact aQ)
theorem zp2 {n:Nat}{t:TypeId}{p v:PV}{p':Value}{f:Nat}(hp:VR g σ n p p')(hv:o7 P t p f=some v):∃v',Fm P t p' f=some v'∧VR g σ n v v':=by
 unfold o7 at hv
 split at hv
 ·rename_i i off ty fo m hf
  cases hb:Nat.beq m 0 with
  |true=>rw[hb] at hv;cases hv
  |false=>
   rw[hb] at hv;simp only[bz,ax] at hv;subst hv
   cases hp with
   |fr _ _ h=>cases h
   |ptr _ _ o a k hi hs=>
    exact⟨_,by simp only[Fm,hf,hb,bz];rfl,by have:=VR.ptr (g:=g) i (off+fo) o a k hi hs;rwa [show a+(off+fo)=a+off+fo by omega] at this⟩
 ·rename_i cs ty fo m hf
  cases hb:Nat.beq m 0 with
  |true=>rw[hb] at hv;cases hv
  |false=>
   cases hc:Nat.ble fo cs.length with
   |false=>rw[hb,hc] at hv;cases hv
   |true=>
    rw[hb,hc] at hv;simp only[Bool.not_true,Bool.or_false,bz,ax] at hv;subst hv
    have:=hp.aG rfl
    cases this with
    |vp _ o off s ar hg hlen r=>
     exact⟨_,by simp only[Fm,hf,hb,bz],.fr _ _ (NV hg hlen r (by simpa using hc))⟩
 cases hv
def o8 (P:Program)(t:TypeId)(x i:PV):Option PV:=
 match x,i with
 |.vec es,.int _ n=>
  match gO P t,eP n es.length with
  |some (_,sz),some k=>match es[k]? with
   |some e=>bif Nat.beq e.cells.length sz then some (.vp e.cells) else none
   |none=>none
  |_,_=>none
 |.own i off len _,.int _ n=>
  match gO P t,eP n len with
  |some (_,sz),some k=>some (.ptr i (off+k*sz))
  |_,_=>none
 |.sub i off len,.int _ n=>
  match gO P t,eP n len with
  |some (_,sz),some k=>some (.ptr i (off+k*sz))
  |_,_=>none
 |.ptr i off,.int _ n=>
  match jg P t with
  |some (len,_,sz)=>match eP n len with
   |some k=>some (.ptr i (off+k*sz))
   |none=>none
  |none=>none
 |.grow i m _,.int _ n=>
  match gO P t,eP n m with
  |some (_,sz),some k=>some (.ptr i (k*sz))
  |_,_=>none
 |_,_=>none
theorem zs9 {es:List PV}{o off k s sz:Nat}{ar:List Value}(hg:g o=some (.cells s ar))(eJ:∀(i:Nat) e,es[i]?=some e→e.cells.length=sz)(hlen:off+es.length*sz≤ar.length)
  (r:∀(i:Nat) e (j:Nat) v v',es[i]?=some e→e.cells[j]?=some v→ar[off+i*sz+j]?=some v'→FR g v v') {e:PV} (he:es[k]?=some e):FR g (.vp e.cells) (.pointer (some ⟨o,off+k*sz,none⟩)):=by
 have hk:k<es.length:=by
  rcases Nat.lt_or_ge k es.length with h|h
  ·exact h
  rw[List.getElem?_eq_none h] at he;cases he
 refine .vp _ o _ s ar hg ?_ (fun j v v' hv aQ=>r k e j v v' he hv aQ)
 rw[eJ k e he]
 have h1:k*sz+sz≤es.length*sz:=by rw[← Nat.succ_mul];exact Nat.mul_le_mul_right _ hk
 omega
theorem zpy {n:Nat}{t:TypeId}{x i v:PV}{x' i':Value}(hx:VR g σ n x x')(hi:VR g σ n i i')(hv:o8 P t x i=some v):∃v',Ap P t x' i'=some v'∧VR g σ n v v':=by
 unfold o8 at hv
 split at hv
 ·rename_i es k m
  have:=hi.aG rfl;cases this
  split at hv
  ·rename_i ty sz q ht hw
   split at hv
   ·rename_i e he
    cases hb:Nat.beq e.cells.length sz with
    |false=>rw[hb] at hv;cases hv
    |true=>
     rw[hb] at hv;simp only[aO,ax] at hv;subst hv
     have hb:e.cells.length=sz:=by simpa using hb
     have:=hx.aG rfl
     cases this with
     |fw=>simp at he
     |dv=>simp at he
     |vec _ o off k0 s KZ ar hk dZ hg h0 eJ hlen r=>
      have:KZ=sz:=by rw[← eJ q e he,hb]
      subst this
      exact⟨_,by simp only[Ap,ht,FL,hw],.fr _ _ (zs9 hg eJ hlen r he)⟩
   cases hv
  cases hv
 ·rename_i i0 off len k0 k m
  have:=hi.aG rfl;cases this
  split at hv
  ·rename_i ty sz q ht hw
   injection hv with hv;subst hv
   cases hx with
   |fr _ _ h=>cases h
   |own _ _ _ _ o a kk hi hs hl hk=>
    exact⟨.pointer (some ⟨o,a+off+q*sz,none⟩),by simp only[Ap,ht,FL,hw],by have:=VR.ptr (g:=g) i0 (off+q*sz) o a kk hi hs;rwa [show a+(off+q*sz)=a+off+q*sz by omega] at this⟩
  cases hv
 ·rename_i i0 off len k m
  have:=hi.aG rfl;cases this
  split at hv
  ·rename_i ty sz q ht hw
   injection hv with hv;subst hv
   cases hx with
   |fr _ _ h=>cases h
   |sub _ _ _ _ o a kk hi hs hl hk=>
    exact⟨.pointer (some ⟨o,a+off+q*sz,none⟩),by simp only[Ap,ht,FL,hw],by have:=VR.ptr (g:=g) i0 (off+q*sz) o a kk hi hs;rwa [show a+(off+q*sz)=a+off+q*sz by omega] at this⟩
  cases hv
 ·rename_i i0 off k m
  have:=hi.aG rfl;cases this
  split at hv
  ·rename_i len ty sz ht
   split at hv
   ·rename_i q hw
    injection hv with hv;subst hv
    cases hx with
    |fr _ _ h=>cases h
    |ptr _ _ o a kk hi hs=>
     exact⟨.pointer (some ⟨o,a+off+q*sz,none⟩),by simp only[Ap,ht,FL,hw],by have:=VR.ptr (g:=g) i0 (off+q*sz) o a kk hi hs;rwa [show a+(off+q*sz)=a+off+q*sz by omega] at this⟩
   cases hv
  cases hv
 ·rename_i i0 m nl k q0
  have:=hi.aG rfl;cases this
  split at hv
  ·rename_i ty sz q ht hw
   injection hv with hv;subst hv
   have hq:q<m:=by
    unfold eP at hw
    split at hw
    ·rename_i h1;injection hw with hw;omega
    cases hw
   cases hx with
   |fr _ _ h=>cases h
   |b8=>omega
   |b9=>omega
   |grow _ _ o a kk _ hi hs hn=>
    exact⟨.pointer (some ⟨o,a+q*sz,none⟩),by simp only[Ap,ht,FL,hw],.ptr i0 (q*sz) o a kk hi hs⟩
  cases hv
 cases hv
def lZ (P:Program)(t:TypeId)(cs:List PV)(off:Nat):Option PV:=
 match bD P t with
 |some true=>match da P t with
  |some n=>bif Nat.ble (off+n) cs.length then some (.agg ((cs.drop off).take n)) else none
  |none=>none
 |some false=>cs[off]?
 |none=>none
def pT (P:Program)(t:TypeId)(cs:List PV)(off:Nat):Option PV:=
 match da P t with
 |some (_+1)=>lZ P t cs off
 |_=>none
def n4 (P:Program)(vh:ai)(t:TypeId)(p:PV):Option PV:=
 match p with
 |.vp cs=>lZ P t cs 0
 |.ptr i off=>match vh.get i with
  |some (.box cs)=>lZ P t cs off
  |some (.arr _ _ cs)=>lZ P t cs off
  |some (.grow _ es)=>pT P t (es.flatMap PV.cells) off
  |_=>none
 |_=>none
theorem NW {n:Nat}{t:TypeId}{cs:List PV}{ar:List Value}{off o s:Nat}{v:PV}(hg:h.get o=some (.cells s ar))(hc:bh (VR g σ n) cs ar)(hv:lZ P t cs off=some v):∃v',uI P h t (.pointer (some ⟨o,off,none⟩))=some v'∧VR g σ n v v':=by
 unfold lZ at hv
 simp only[uI,hg]
 split at hv
 ·rename_i ha
  split at hv
  ·rename_i m hm
   cases hb:Nat.ble (off+m) cs.length with
   |false=>rw[hb] at hv;cases hv
   |true=>
    rw[hb] at hv;simp only[aO,ax] at hv;subst hv
    rw[hc.1] at hb
    exact⟨_,by simp only[ha,hm,hb,aO],FK ((hc.drop off).take m)⟩
  cases hv
 ·rename_i ha
  obtain⟨v',h1,h2⟩:=hc.get hv
  exact⟨v',by simp[ha,h1],h2⟩
 cases hv
theorem To {t:TypeId}{p v:PV}{p':Value}(s:VS lo g σ vh h)(hp:VR g σ vh.next p p')(hv:n4 P vh t p=some v):∃v',uI P h t p'=some v'∧VR g σ vh.next v v':=by
 unfold n4 at hv
 split at hv
 ·rename_i cs
  have:=hp.aG rfl
  cases this with
  |vp _ o off s0 ar hg hlen r=>
   have hgh:=s.fz _ _ hg
   have hc:bh (VR g σ vh.next) cs ((ar.drop off).take cs.length):=⟨by simp;omega,fun i v v' hv aQ=>.fr _ _ (r i v v' hv (by
    rw[List.getElem?_take] at aQ
    split at aQ
    ·rwa [List.getElem?_drop] at aQ
    cases aQ))⟩
   unfold lZ at hv
   simp only[uI,hgh]
   split at hv
   ·rename_i ha
    split at hv
    ·rename_i m hm
     cases hb:Nat.ble (0+m) cs.length with
     |false=>rw[hb] at hv;cases hv
     |true=>
      rw[hb] at hv;simp only[aO,ax] at hv;subst hv
      have hb:m≤cs.length:=by simpa using hb
      have cT:Nat.ble (off+m) ar.length=true:=by rw[Nat.ble_eq];omega
      refine⟨.agg ((ar.drop off).take m).toArray,by simp only[ha,hm,cT,aO],FK ?_⟩
      have h2:=hc.take m
      rw[List.take_take,show min m cs.length=m by omega] at h2
      simpa using h2
    cases hv
   ·rename_i ha
    obtain⟨v',h1,h2⟩:=hc.get hv
    refine⟨v',?_,h2⟩
    rw[List.getElem?_take] at h1
    split at h1
    ·simpa[ha,List.getElem?_drop] using h1
    cases h1
   cases hv
 ·rename_i i off
  cases hp with
  |fr _ _ h=>cases h
  |ptr _ _ o a k hi hs=>
   split at hv
   ·rename_i cs hg
    obtain⟨s0,ar,h1,h2,h3⟩:=(s.obj i _ hg).2
    rw[hs] at h1 h2
    simp only at h1 h2;subst h2
    rw[Nat.zero_add]
    exact NW h1 h3 hv
   ·rename_i ag sz cs hg
    obtain⟨_,s0,ar,h1,h2,h3⟩:=(s.obj i _ hg).2
    rw[hs] at h1 h2
    simp only at h1 h2;subst h2
    rw[Nat.zero_add]
    exact NW h1 h3.vr hv
   ·rename_i sz es hg
    obtain⟨_,_,_,h0⟩:=(s.obj i _ hg).2
    unfold pT at hv
    split at hv
    ·rename_i n hn
     rcases h0 with rfl|⟨s0,ar,h1,h2,h3,_⟩
     ·unfold lZ at hv
      rw[hn] at hv
      split at hv
      ·simp only[List.flatMap_nil,List.length_nil] at hv
       rw[show Nat.ble (off+(n+1)) 0=false by rfl,bz] at hv
       cases hv
      ·simp at hv
      cases hv
     rw[hs] at h1 h2
     simp only at h1 h2;subst h2
     rw[Nat.zero_add]
     exact NW h1 h3.vr hv
    cases hv
   cases hv
 cases hv
def eZ (v:PV)(y:Nat):Option Nat:=
 match v with
 |.int _ i=>if 0≤i∧i≤y then some i.toNat else none
 |_=>none
theorem K2 {n:Nat}{v:PV}{v':Value}{y k:Nat}(h:VR g σ n v v')(hb:eZ v y=some k):kW v' y=some k:=by
 unfold eZ at hb
 split at hb
 ·have:=h.aG rfl;cases this
  rename_i kd i
  unfold kW
  cases i with
  |ofNat j=>
   by_cases hj:j≤y
   ·have:Nat.ble j y=true:=by simpa using hj
    simp[hj] at hb;subst hb;simp[this]
   simp[hj] at hb
  |negSucc j=>
   have:¬(0≤Int.negSucc j∧Int.negSucc j≤y):=by omega
   simp[this] at hb
 cases hb
theorem K3 {v:PV}{y k:Nat}(hb:eZ v y=some k):k≤y:=by
 unfold eZ at hb
 split at hb
 ·rename_i kd i
  by_cases h:0≤i∧i≤y
  ·simp only[h,and_self,if_true,ax] at hb;omega
  rw[if_neg h] at hb;cases hb
 cases hb
theorem Tp {v:Value}{y y' k:Nat}(hb:kW v y=some k)(hy:y≤y'):kW v y'=some k:=by
 unfold kW at hb ⊢
 split at hb
 ·rename_i i
  cases h:Nat.ble i y with
  |false=>rw[h] at hb;cases hb
  |true=>
   rw[h] at hb
   have h1:i≤y:=by simpa using h
   have:Nat.ble i y'=true:=by rw[Nat.ble_eq];omega
   simp only[this,aO] at hb ⊢;exact hb
 cases hb
def vO (ab:a7):Option Operand→Option (Option PV)
 |none=>some none
 |some x=>(cC ab x).map some
def jV (g:Fz)(σ:Sg)(n:Nat):Option PV→Option Value→Prop
 |none,none=>True
 |some v,some v'=>VR g σ n v v'
 |_,_=>False
theorem Cu {n:Nat}(ht:VT g σ n ab ts){x:Option Operand}{v:Option PV}(hv:vO ab x=some v):∃v',vR ts x=some v'∧jV g σ n v v':=by
 cases x with
 |none=>simp only[vO,ax] at hv;subst hv;exact⟨none,rfl,trivial⟩
 |some x=>
  obtain⟨u,h1,rfl⟩:=dq hv
  obtain⟨v',h2,h3⟩:=eO ht h1
  exact⟨some v',by simp[vR,h2],h3⟩
def mR (len known:Nat)(lo hi:Option PV):Option (Nat×Nat):=
 match (match hi with|some v=>eZ v known|none=>some len) with
 |none=>none
 |some u=>match (match lo with|some v=>eZ v u|none=>some 0) with
  |none=>none
  |some l=>some (l,u)
theorem xx {n:Nat}{len known e8 l u:Nat}{lo hi:Option PV}{fE dD:Option Value}(hk:known≤e8)(cg:jV g σ n lo fE)(iJ:jV g σ n hi dD)(hb:mR len known lo hi=some (l,u)) :
  sZ len e8 fE dD none=some (l,u,none)∧l≤u∧(len≤known→u≤known):=by
 unfold mR at hb
 split at hb
 ·cases hb
 rename_i u0 hu
 split at hb
 ·cases hb
 rename_i l0 hl
 simp only[ax,bG] at hb
 obtain⟨rfl,rfl⟩:=hb
 have e1:bH len e8 dD none=some u0∧(len≤known→u0≤known):=by
  cases hi with
  |none=>cases dD with
   |none=>simp only[ax] at hu;subst hu;exact⟨rfl,fun h=>h⟩
   |some=>exact iJ.elim
  |some v=>cases dD with
   |none=>exact iJ.elim
   |some v'=>exact⟨Tp (K2 iJ hu) hk,fun _=>K3 hu⟩
 have e2:bL u0 fE=some l0∧l0≤u0:=by
  cases lo with
  |none=>cases fE with
   |none=>simp only[ax] at hl;subst hl;exact⟨rfl,Nat.zero_le _⟩
   |some=>exact cg.elim
  |some v=>cases fE with
   |none=>exact cg.elim
   |some v'=>exact⟨K2 cg hl,K3 hl⟩
 simp only[sZ,bM]
 rw[e1.1]
 simp only
 rw[e2.1]
 exact⟨rfl,e2.2,e1.2⟩
def lC (n:Nat)(es:List PV):Bool:=es.all fun e=>Nat.beq e.cells.length n
def o9 (P:Program)(t:TypeId)(x:PV)(lo hi:Option PV):Option PV:=
 match gO P t with
 |none=>none
 |some (_,sz)=>match x with
  |.aI=>(mR 0 0 lo hi).map fun _=>.aI
  |.vec es=>bif lC sz es then (mR es.length es.length lo hi).map fun p=>.vec ((es.drop p.1).take (p.2 - p.1)) else none
  |.own i off len k=>(mR len k lo hi).map fun p=>.own i (bif Nat.beq k p.1 then off else off+p.1*sz) (p.2 - p.1) (k - p.1)
  |.sub i off len=>(mR len len lo hi).map fun p=>bif Nat.beq p.2 p.1 then .vec [] else .sub i (off+p.1*sz) (p.2 - p.1)
  |_=>none
theorem zrm {es:List PV}{o off k s sz:Nat}{ar:List Value}(hk:es.length≤k)(dZ:k+es.length<dW)(hg:g o=some (.cells s ar))(h0:0<sz)(eJ:∀(i:Nat) e,es[i]?=some e→e.cells.length=sz)(hlen:off+es.length*sz≤ar.length)
  (r:∀(i:Nat) e (j:Nat) v v',es[i]?=some e→e.cells[j]?=some v→ar[off+i*sz+j]?=some v'→FR g v v') {l u k':Nat} (hl:l≤u) (hu:u≤es.length) (kc:u - l≤k') (yaa:k'+(u - l)<dW) :
  FR g (.vec ((es.drop l).take (u - l))) (.slice (some ⟨o,off+l*sz,none⟩) (u - l) k'):=by
 have hle:((es.drop l).take (u - l)).length=u - l:=by simp;omega
 have:=FR.vec (g:=g) ((es.drop l).take (u - l)) o (off+l*sz) k' s sz ar (by omega) (by omega) hg h0 (fun i e he=>?_) ?_ (fun i e j v v' he hv aQ=>?_)
 ·rwa [hle] at this
 ·rw[List.getElem?_take] at he
  split at he
  ·rw[List.getElem?_drop] at he;exact eJ _ e he
  cases he
 ·rw[hle]
  have:l*sz+(u - l)*sz≤es.length*sz:=by rw[← Nat.add_mul];exact Nat.mul_le_mul_right _ (by omega)
  omega
 rw[List.getElem?_take] at he
 split at he
 ·rw[List.getElem?_drop] at he
  refine r (l+i) e j v v' he hv ?_
  rw[Nat.add_mul,show off+(l*sz+i*sz)+j=off+l*sz+i*sz+j by omega];exact aQ
 cases he
theorem zx3 {n:Nat}{t:TypeId}{x v:PV}{x':Value}{lo hi:Option PV}{fE dD:Option Value}(hx:VR g σ n x x')(cg:jV g σ n lo fE)(iJ:jV g σ n hi dD)(hv:o9 P t x lo hi=some v) :
  ∃v',lB P t x' fE dD none=some v'∧VR g σ n v v':=by
 unfold o9 at hv
 split at hv
 ·cases hv
 rename_i ty sz ht
 split at hv
 ·obtain⟨⟨l,u⟩,h1,rfl⟩:=dq hv
  have:=hx.aG rfl;cases this
  obtain⟨h2,_⟩:=xx (Nat.le_refl _) cg iJ h1
  exact⟨_,by simp only[lB,ht,h2],.fr _ _ .aI⟩
 ·rename_i es
  cases bs:lC sz es with
  |false=>rw[bs] at hv;cases hv
  |true=>
  rw[bs,aO] at hv
  obtain⟨⟨l,u⟩,h1,rfl⟩:=dq hv
  simp only
  have:=hx.aG rfl
  cases this with
  |fw=>
   obtain⟨h2,h3,h4⟩:=xx (Nat.le_refl _) cg iJ h1
   exact⟨.slice none 0 0,by simp only[lB,ht];simp only[List.length_nil] at h2;simp only[h2],by simp only[List.drop_nil,List.take_nil];exact .fr _ _ .fw⟩
  |dv o off k=>
   have h4:=(xx (e8:=0) (Nat.le_refl _) cg iJ h1).2.2 (Nat.le_refl _)
   have h3:=(xx (e8:=0) (Nat.le_refl _) cg iJ h1).2.1
   have hu:u=0:=by simpa using h4
   have hl:l=0:=by omega
   subst hu;subst hl
   simp only[List.drop_nil,List.take_nil]
   by_cases nW:k<az
   ·have e1:Nat.blt k az=true:=by rw[Nat.blt_eq];exact nW
    have h2:=(xx (e8:=k) (by simp) cg iJ h1).1
    simp only[List.length_nil] at h2
    refine⟨_,by simp only[lB,ht,e1,aO,h2];rfl,?_⟩
    cases hbk:Nat.beq k 0<;>exact .fr _ _ (.dv _ _ _)
   have e1:Nat.blt k az=false:=by rw[← Bool.not_eq_true,Nat.blt_eq];exact nW
   have h2:=(xx (e8:=0) (Nat.le_refl _) cg iJ h1).1
   simp only[List.length_nil] at h2
   by_cases dZ:k<dW
   ·have e2:Nat.blt k dW=true:=by rw[Nat.blt_eq];exact dZ
    exact⟨.slice (some ⟨o,off,none⟩) 0 k,by simp only[lB,ht,e1,e2,aO,bz,h2,Nat.beq_refl],.fr _ _ (.dv _ _ _)⟩
   have e2:Nat.blt k dW=false:=by rw[← Bool.not_eq_true,Nat.blt_eq];exact dZ
   exact⟨.slice (some ⟨o,off,none⟩) 0 dW,by simp only[lB,ht,e1,e2,bz,h2],.fr _ _ (.dv _ _ _)⟩
  |vec _ o off k s KZ ar hk dZ hg h0 eJ hlen r=>
   obtain⟨h2,h3,h4⟩:=xx (e8:=es.length) (Nat.le_refl _) cg iJ h1
   have h4:=h4 (Nat.le_refl _)
   have DP:u - l=0→((es.drop l).take (u - l))=[]:=fun h=>by rw[h,List.take_zero]
   have eK:0<u - l→KZ=sz:=fun aP=>by
    have hl:0<es.length:=by omega
    have h5:=eJ 0 es[0] (by simp[hl])
    unfold lC at bs
    rw[List.all_eq_true] at bs
    have h6:=bs es[0] (List.getElem_mem hl)
    rw[beq_eq,decide_eq_true_eq] at h6
    omega
   have fin:∀k',0<u - l→u - l≤k'→k'+(u - l)<dW→VR g σ n (.vec ((es.drop l).take (u - l))) (.slice (some ⟨o,off+l*sz,none⟩) (u - l) k'):=fun k' aP h5 h6=>by
    have DQ:=eK aP;subst DQ
    exact .fr _ _ (zrm hk dZ hg h0 eJ hlen r h3 h4 h5 h6)
   by_cases nW:k<az
   ·have e1:Nat.blt k az=true:=by rw[Nat.blt_eq];exact nW
    have h2:=(xx (e8:=k) hk cg iJ h1).1
    refine⟨_,by simp only[lB,ht,e1,aO,h2];rfl,?_⟩
    simp only[Option.getD_none]
    rcases kH k l with⟨hq,cm⟩|⟨hq,cm⟩
    ·have hz:u - l=0:=by omega
     rw[hq,DP hz,hz];exact .fr _ _ (.dv _ _ _)
    rw[hq,bz]
    by_cases hz:u - l=0
    ·rw[DP hz,hz];exact .fr _ _ (.dv _ _ _)
    exact fin _ (by omega) (by omega) (by omega)
   have e1:Nat.blt k az=false:=by rw[← Bool.not_eq_true,Nat.blt_eq];exact nW
   have e2:Nat.blt k dW=true:=by rw[Nat.blt_eq];omega
   have e3:Nat.blt (k+l) dW=true:=by rw[Nat.blt_eq];omega
   rcases kH l 0 with⟨hq,cm⟩|⟨hq,cm⟩
   ·subst cm
    refine⟨.slice (some ⟨o,off,none⟩) u k,by simp only[lB,ht,e1,e2,aO,bz,h2,Nat.beq_refl],?_⟩
    by_cases hz:u=0
    ·subst hz;simp only[Nat.sub_self,List.take_zero];exact .fr _ _ (.dv _ _ _)
    have:=fin k (by omega) (by omega) (by omega)
    simpa using this
   rcases kH u l with⟨hr,q7⟩|⟨hr,q7⟩
   ·refine⟨.slice (some ⟨o,off,none⟩) 0 dW,by simp only[lB,ht,e1,e2,aO,bz,h2,hq,hr],?_⟩
    have hz:u - l=0:=by omega
    rw[DP hz];exact .fr _ _ (.dv _ _ _)
   exact⟨.slice (some ⟨o,off+l*sz,none⟩) (u - l) (k+l),by simp only[lB,ht,e1,e2,e3,aO,bz,h2,hq,hr],fin _ (by omega) (by omega) (by omega)⟩
 ·rename_i i off len k
  obtain⟨⟨l,u⟩,h1,rfl⟩:=dq hv
  simp only
  cases hx with
  |fr _ _ h=>cases h
  |own _ _ _ _ o a kk hi hs hl hk=>
   obtain⟨h2,h3,h4⟩:=xx (e8:=k) (Nat.le_refl _) cg iJ h1
   have h4:=h4 hl
   have e1:Nat.blt k az=true:=by rw[Nat.blt_eq];exact hk
   refine⟨_,by simp only[lB,ht,e1,aO,h2];rfl,?_⟩
   simp only[Option.getD_none]
   rcases kH k l with⟨hq,cm⟩|⟨hq,cm⟩
   ·rw[hq];exact .own i off (u - l) (k - l) o a kk hi hs (by omega) (by omega)
   rw[hq]
   have:=VR.own (g:=g) i (off+l*sz) (u - l) (k - l) o a kk hi hs (by omega) (by omega)
   simpa[show a+(off+l*sz)=a+off+l*sz by omega] using this
 ·rename_i i off len
  obtain⟨⟨l,u⟩,h1,rfl⟩:=dq hv
  simp only
  cases hx with
  |fr _ _ h=>cases h
  |sub _ _ _ k o a kk hi hs hl hk=>
   rcases Nat.lt_or_ge k az with nW|nW
   ·obtain⟨h2,h3,h4⟩:=xx (e8:=k) hl cg iJ h1
    have h4:=h4 (Nat.le_refl _)
    have e1:Nat.blt k az=true:=by rw[Nat.blt_eq];exact nW
    refine⟨_,by simp only[lB,ht,e1,aO,h2];rfl,?_⟩
    simp only[Option.getD_none]
    rcases kH u l with⟨hq,cm⟩|⟨hq,cm⟩
    ·rw[hq]
     have hz:u - l=0:=by omega
     rw[hz];exact .fr _ _ (.dv _ _ _)
    rw[hq]
    rcases kH k l with⟨hr,q7⟩|⟨hr,q7⟩
    ·omega
    rw[hr]
    have:=VR.sub (g:=g) i (off+l*sz) (u - l) (k - l) o a kk hi hs (by omega) (by omega)
    simpa[show a+(off+l*sz)=a+off+l*sz by omega] using this
   obtain⟨h2,h3,h4⟩:=xx (e8:=len) (Nat.le_refl _) cg iJ h1
   have h4:=h4 (Nat.le_refl _)
   have e1:Nat.blt k az=false:=by rw[Bool.eq_false_iff];intro h;rw[Nat.blt_eq] at h;omega
   have e2:Nat.blt k dW=true:=by rw[Nat.blt_eq];omega
   rcases kH l 0 with⟨hq,cm⟩|⟨hq,cm⟩
   ·refine⟨.slice (some ⟨o,a+off,none⟩) u k,by simp only[lB,ht,e1,e2,aO,bz,h2,hq],?_⟩
    subst cm
    rcases kH u 0 with⟨hr,q7⟩|⟨hr,q7⟩
    ·rw[hr];subst q7;exact .fr _ _ (.dv _ _ _)
    rw[hr]
    have:=VR.sub (g:=g) i (off+0*sz) (u - 0) k o a kk hi hs (by omega) (by omega)
    simpa using this
   rcases kH u l with⟨hr,q7⟩|⟨hr,q7⟩
   ·exact⟨.slice (some ⟨o,a+off,none⟩) 0 dW,by simp only[lB,ht,e1,e2,aO,bz,h2,hq,hr],by rw[hr];exact .fr _ _ (.dv _ _ _)⟩
   have e3:Nat.blt (k+l) dW=true:=by rw[Nat.blt_eq];omega
   refine⟨.slice (some ⟨o,a+off+l*sz,none⟩) (u - l) (k+l),by simp only[lB,ht,e1,e2,e3,aO,bz,h2,hq,hr],?_⟩
   rw[hr]
   have:=VR.sub (g:=g) i (off+l*sz) (u - l) (k+l) o a kk hi hs (by omega) (by omega)
   simpa[show a+(off+l*sz)=a+off+l*sz by omega] using this
 cases hv
def pa (P:Program)(t:TypeId)(x:PV):Option PV:=
 match gO P t with
 |none=>none
 |some _=>match x with
  |.aI=>some .aI
  |.e0=>some .e0
  |.vec _=>some .e0
  |.grow _ _ _=>some .e0
  |_=>none
def DS (P:Program)(t:TypeId)(x:PV)(lo hi mx:Option PV):Option PV:=
 match x with
 |.sub i off len=>match lo,hi,mx with
  |none,some u,some m=>match gO P t,eZ m len with
   |some _,some b=>match eZ u b with
    |some a=>some (.own i off a b)
    |none=>none
   |_,_=>none
  |_,_,_=>none
 |_=>none
@[simp] theorem xag (P:Program)(t:TypeId)(es:List PV)(lo hi mx:Option PV):DS P t (.vec es) lo hi mx=none:=rfl
@[simp] theorem z6g (P:Program)(t:TypeId)(i n:Nat)(nl:Bool)(lo hi mx:Option PV):DS P t (.grow i n nl) lo hi mx=none:=rfl
@[simp] theorem xa3 (P:Program)(t:TypeId)(lo hi mx:Option PV):DS P t .aI lo hi mx=none:=rfl
@[simp] theorem xbw (P:Program)(t:TypeId)(lo hi mx:Option PV):DS P t .e0 lo hi mx=none:=rfl
theorem zwp {n:Nat}{t:TypeId}{x v:PV}{x':Value}{lo hi mx:Option PV}{fE dD jP:Option Value}(hx:VR g σ n x x')(cg:jV g σ n lo fE)(iJ:jV g σ n hi dD)(iI:jV g σ n mx jP)(hv:DS P t x lo hi mx=some v) :
  ∃v',lB P t x' fE dD jP=some v'∧VR g σ n v v':=by
 unfold DS at hv
 split at hv
 ·rename_i i off len
  split at hv
  ·rename_i u m
   split at hv
   ·rename_i ty b ht hb
    split at hv
    ·rename_i a ha
     injection hv with hv;subst hv
     cases fE with
     |some _=>exact cg.elim
     |none=>
     cases dD with
     |none=>exact iJ.elim
     |some u'=>
     cases jP with
     |none=>exact iI.elim
     |some m'=>
     have h1:=K2 (v:=m) iI hb
     have h2:=K2 (v:=u) iJ ha
     have h3:=K3 hb
     have h4:=K3 ha
     cases hx with
     |fr _ _ h=>cases h
     |sub _ _ _ k o a0 kk hi hs hl hk=>
      obtain⟨ty,sz⟩:=ty
      have hlen:b<az:=by
       rcases Nat.lt_or_ge k az with h|h
       ·omega
       have:dW=az+az:=rfl
       omega
      have hr:VR g σ n (.own i off a b) (.slice (some ⟨o,a0+off,none⟩) a b):=.own i off a b o a0 kk hi hs h4 hlen
      have xy:(bif Nat.beq b 0 then a0+off else a0+off+0*sz)=a0+off:=by cases Nat.beq b 0<;>simp
      cases nW:Nat.blt k az with
      |true=>
       have e:sZ len k none (some u') (some m')=some (0,a,some b):=by simp only[sZ,bM,Tp h1 hl,Option.map_some,bH,h2,bL]
       exact⟨_,by simp only[lB,ht,nW,aO,e,Option.getD_some,xy,Nat.sub_zero],hr⟩
      |false=>
       have dZ:Nat.blt k dW=true:=by rw[Nat.blt_eq];omega
       have e:sZ len len none (some u') (some m')=some (0,a,some b):=by simp only[sZ,bM,h1,Option.map_some,bH,h2,bL]
       have GW:Nat.blt b az=true:=by rw[Nat.blt_eq];exact hlen
       exact⟨_,by simp only[lB,ht,nW,dZ,aO,bz,e,GW,xy,Nat.sub_zero],hr⟩
    cases hv
   cases hv
  cases hv
 cases hv
def jW (v:Option PV):Bool:=match v with
 |some (.int _ n)=>decide (n=0)
 |_=>false
theorem zrq {n len known:Nat}{lo hi mx:Option PV}{fE dD jP:Option Value}(cg:jV g σ n lo fE)(iJ:jV g σ n hi dD)(iI:jV g σ n mx jP)(h1:lo=none∨jW lo=true)(h2:jW hi=true)(h3:jW mx=true) :
  sZ len known fE dD jP=some (0,0,some 0):=by
 have val:∀ {v:Option PV} {v':Option Value},jV g σ n v v'→jW v=true→∃k,v'=some (.int k 0):=fun {v v'} hr hz=>by
  unfold jW at hz
  split at hz
  ·rename_i k m
   simp only[decide_eq_true_eq] at hz;subst hz
   cases v' with
   |none=>exact hr.elim
   |some v'=>have:=VR.aG hr rfl;cases this;exact⟨k,rfl⟩
  cases hz
 obtain⟨k1,rfl⟩:=val iJ h2
 obtain⟨k2,rfl⟩:=val iI h3
 have e:∀y,Nat.ble 0 y=true:=fun y=>by rw[Nat.ble_eq];exact Nat.zero_le _
 have hb:∀(k:IntKind) y,kW (.int k 0) y=some 0:=fun k y=>by
  show (bif Nat.ble 0 y then some 0 else none)=some 0
  rw[e];rfl
 have Tq:bL 0 fE=some 0:=by
  rcases h1 with rfl|h1
  ·cases fE with
   |none=>rfl
   |some=>exact cg.elim
  obtain⟨k3,rfl⟩:=val cg h1
  exact hb k3 0
 simp only[sZ,bM,hb,Option.map_some,bH,Tq]
theorem zwd {n:Nat}{t:TypeId}{x v:PV}{x':Value}{lo hi mx:Option PV}{fE dD jP:Option Value}(hx:VR g σ n x x')(cg:jV g σ n lo fE)(iJ:jV g σ n hi dD)(iI:jV g σ n mx jP)
  (h1:lo=none∨jW lo=true) (h2:jW hi=true) (h3:jW mx=true) (hv:pa P t x=some v):∃v',lB P t x' fE dD jP=some v'∧VR g σ n v v':=by
 have hb:∀len known,sZ len known fE dD jP=some (0,0,some 0):=fun len known=>zrq cg iJ iI h1 h2 h3
 have any:∀o off len k,∀ty,gO P t=some ty→∃o' nQ,lB P t (.slice (some ⟨o,off,none⟩) len k) fE dD jP=some (.slice (some ⟨o',nQ,none⟩) 0 0):=fun o off len k ty ht=>by
  obtain⟨ty,sz⟩:=ty
  simp only[lB,ht,hb]
  cases Nat.blt k az with
  |true=>exact⟨_,_,rfl⟩
  |false=>
   cases Nat.blt k dW with
   |true=>exact⟨_,_,rfl⟩
   |false=>exact⟨_,_,rfl⟩
 have AV:∀ty,gO P t=some ty→lB P t (.slice none 0 0) fE dD jP=some (.slice none 0 0):=fun ty ht=>by simp only[lB,ht,hb]
 unfold pa at hv
 split at hv
 ·cases hv
 rename_i ty ht
 split at hv
 ·injection hv with hv;subst hv
  have:=hx.aG rfl;cases this
  exact⟨_,AV _ ht,.fr _ _ .aI⟩
 ·injection hv with hv;subst hv
  have:=hx.aG rfl
  cases this with
  |vW=>exact⟨_,AV _ ht,.fr _ _ .vW⟩
  |e0 o off=>
   obtain⟨o',nQ,h⟩:=any o off 0 0 _ ht
   exact⟨_,h,.fr _ _ (.e0 _ _)⟩
 ·injection hv with hv;subst hv
  have:=hx.aG rfl
  cases this with
  |fw=>exact⟨_,AV _ ht,.fr _ _ .vW⟩
  |dv o off k=>
   obtain⟨o',nQ,h⟩:=any o off 0 k _ ht
   exact⟨_,h,.fr _ _ (.e0 _ _)⟩
  |vec es o off k=>
   obtain⟨o',nQ,h⟩:=any o off _ k _ ht
   exact⟨_,h,.fr _ _ (.e0 _ _)⟩
 ·injection hv with hv;subst hv
  cases hx with
  |fr _ _ h=>cases h
  |b8=>exact⟨_,AV _ ht,.fr _ _ .vW⟩
  |b9 i o off=>
   obtain⟨o',nQ,h⟩:=any o off 0 0 _ ht
   exact⟨_,h,.fr _ _ (.e0 _ _)⟩
  |grow i m o a k=>
   obtain⟨o',nQ,h⟩:=any o a _ k _ ht
   exact⟨_,h,.fr _ _ (.e0 _ _)⟩
 cases hv
def gF (P:Program)(vh:ai)(t:TypeId)(x:PV):Option PV:=
 match P.underlying t,x with
 |some .string,.str s=>some (.int .i64 s.size)
 |some (.slice _),.aI=>some (.int .i64 0)
 |some (.slice _),.e0=>some (.int .i64 0)
 |some (.slice _),.vec es=>some (.int .i64 es.length)
 |some (.slice _),.own _ _ n _=>some (.int .i64 n)
 |some (.slice _),.sub _ _ n=>some (.int .i64 n)
 |some (.slice _),.grow _ n _=>some (.int .i64 n)
 |some (.array n _),_=>some (.int .i64 n)
 |some (.map _ _),.dF=>some (.int .i64 0)
 |some (.map _ _),.aC es=>some (.int .i64 es.length)
 |some (.map _ _),.aW i=>match vh.get i with
  |some (.map es)=>some (.int .i64 es.length)
  |_=>none
 |_,_=>none
theorem z6u {t:TypeId}{x v:PV}{x':Value}(s:VS lo g σ vh h)(hx:VR g σ vh.next x x')(hv:gF P vh t x=some v):∃v',nB P h t x'=some v'∧FR g v v':=by
 unfold gF at hv
 split at hv
 ·rename_i hu;injection hv with hv;subst hv
  have:=hx.aG rfl;cases this
  exact⟨_,by simp[nB,hu,mr],.int _ _⟩
 ·rename_i hu;injection hv with hv;subst hv
  have:=hx.aG rfl;cases this
  exact⟨_,by simp[nB,hu,mr],.int _ _⟩
 ·rename_i hu;injection hv with hv;subst hv
  have:=hx.aG rfl;cases this<;>exact⟨_,by simp[nB,hu,mr],.int _ _⟩
 ·rename_i hu;injection hv with hv;subst hv
  have:=hx.aG rfl;cases this<;>exact⟨_,by first|(simp only[nB,hu,mr];done)|(simp only[nB,hu,mr];rfl),.int _ _⟩
 ·rename_i hu;injection hv with hv;subst hv
  cases hx with
  |fr _ _ h=>cases h
  |own=>exact⟨_,by simp[nB,hu,mr],.int _ _⟩
 ·rename_i hu;injection hv with hv;subst hv
  cases hx with
  |fr _ _ h=>cases h
  |sub=>exact⟨_,by simp only[nB,hu,mr],.int _ _⟩
 ·rename_i hu;injection hv with hv;subst hv
  cases hx with
  |fr _ _ h=>cases h
  |b8=>exact⟨_,by simp only[nB,hu,mr],.int _ _⟩
  |b9=>exact⟨_,by simp only[nB,hu,mr],.int _ _⟩
  |grow=>exact⟨_,by simp only[nB,hu,mr],.int _ _⟩
 ·rename_i hu;injection hv with hv;subst hv
  refine⟨_,by unfold nB;simp only[hu,mr],.int _ _⟩
 ·rename_i hu;injection hv with hv;subst hv
  have:=hx.aG rfl;cases this
  exact⟨_,by simp[nB,hu,mr],.int _ _⟩
 ·rename_i es hu;injection hv with hv;subst hv
  have:=hx.aG rfl
  cases this with
  |aC _ o br hg hlen rk rv=>exact⟨.int .i64 br.length,by simp only[nB,hu,s.fz _ _ hg,mr],by rw[hlen];exact .int _ _⟩
 ·rename_i i hu
  split at hv
  ·rename_i es hg
   injection hv with hv;subst hv
   cases hx with
   |fr _ _ h=>cases h
   |aW _ o a k hi hs=>
    obtain⟨br,h1,h2,h3,h4⟩:=(s.obj i _ hg).2
    rw[hs] at h1
    have hl:=h3.1
    simp only[List.length_map] at hl
    exact⟨.int .i64 br.length,by simp only[nB,hu,h1,mr],by rw[hl];exact .int _ _⟩
  cases hv
 cases hv
end
def Sg.put (σ:Sg)(i:Nat)(x:Nat×Nat×Nat):Sg:=fun j=>if j=i then x else σ j
theorem Sg.cB (σ:Sg)(i:Nat)(x:Nat×Nat×Nat):σ.put i x i=x:=by simp[Sg.put]
theorem Sg.zy (σ:Sg){i j:Nat}(x:Nat×Nat×Nat)(h:j≠i):σ.put i x j=σ j:=by simp[Sg.put,h]
section
variable {P:Program} {lo:Nat} {g:Fz} {σ:Sg} {vh:ai} {h:ah}
theorem bh.DT {g g':Fz}{σ aR:Sg}{n n':Nat}(hle:g.le g')(hn:n≤n')(cy:∀i,i<n→aR i=σ i){l:List PV}{l':List Value}(hp:bh (VR g σ n) l l'):bh (VR g' aR n') l l':=hp.mono fun _ _ hv=>hv.mono hle hn cy
theorem uo.mono {g':Fz}{aR:Sg}{n n':Nat}{h':ah}{i:Nat}{x:aM}(hle:g.le g')(hn:n≤n')(cy:∀i,i<n→aR i=σ i)(hi:i<n)(hg:x.live=true→h'.get (σ i).1=h.get (σ i).1)(hx:uo g σ n h i x):uo g' aR n' h' i x:=by
 have hs:=cy i hi
 cases x with
 |box cs=>
  obtain⟨s,ar,h1,h2,h3⟩:=hx
  exact⟨s,ar,by rw[hs,hg rfl];exact h1,by rw[hs];exact h2,h3.DT hle hn cy⟩
 |arr ag sz cs=>
  obtain⟨h0,s,ar,h1,h2,h3⟩:=hx
  exact⟨h0,s,ar,by rw[hs,hg rfl];exact h1,by rw[hs];exact h2,h3.mono fun _ _ h=>h.mono hle⟩
 |grow sz es=>
  obtain⟨h0,h1,h2,h3⟩:=hx
  cases es with
  |nil=>exact⟨h0,h1,h2,.inl rfl⟩
  |cons e r=>exact⟨h0,h1,h2,h3.imp_right fun⟨s,ar,k1,k2,k3,k4⟩=>⟨s,ar,by rw[hs,hg rfl];exact k1,by rw[hs];exact k2,k3.mono fun _ _ h=>h.mono hle,by rw[hs];exact k4⟩⟩
 |map es=>
  obtain⟨br,h1,h2,h3,h4⟩:=hx
  exact⟨br,by rw[hs,hg rfl];exact h1,by rw[hs];exact h2,h3.mono fun _ _ h=>h.mono hle,h4.mono fun _ _ h=>h.mono hle⟩
 |dS es=>
  obtain⟨br,h1,h2,h3,h4⟩:=hx
  exact⟨br,by rw[hs,hg rfl];exact h1,by rw[hs];exact h2,h3.mono fun _ _ h=>h.mono hle,h4.DT hle hn cy⟩
 |bW es=>
  obtain⟨h0,h1,h2,s,ar,k1,k2,k3,k4⟩:=hx
  exact⟨h0,h1,h2,s,ar,by rw[hs,hg rfl];exact k1,by rw[hs];exact k2,k3.DT hle hn cy,by rw[hs];exact k4⟩
 |emap es k born=>
  obtain⟨br,h1,h2,h3,h4⟩:=hx
  exact⟨br,by rw[hs,hg rfl];exact h1,by rw[hs];exact h2,h3.mono fun _ _ h=>h.mono hle,h4.mono fun _ _ h=>h.mono hle⟩
 |loop N ps a bd ab jump=>
  obtain⟨L,h1,h2,h3,h4,h5,h6⟩:=hx
  exact⟨L,by rw[hs,hg rfl];exact h1,h2,h3,h4,h5,h6.mono hle hn cy⟩
theorem uo.lt {n:Nat}{i:Nat}{x:aM}(hl:x.live=true)(hx:uo g σ n h i x):(σ i).1<h.next:=by
 cases x with
 |box cs=>obtain⟨s,ar,h1,_⟩:=hx;exact ah.gx h1
 |arr ag sz cs=>obtain⟨_,s,ar,h1,_⟩:=hx;exact ah.gx h1
 |grow sz es=>
  obtain⟨_,_,_,h3⟩:=hx
  rcases h3 with rfl|⟨s,ar,h1,_⟩
  ·cases hl
  exact ah.gx h1
 |map es=>obtain⟨br,h1,_⟩:=hx;exact ah.gx h1
 |dS es=>obtain⟨br,h1,_⟩:=hx;exact ah.gx h1
 |bW es=>obtain⟨_,_,_,s,ar,h1,_⟩:=hx;exact ah.gx h1
 |emap es=>obtain⟨br,h1,_⟩:=hx;exact ah.gx h1
 |loop=>obtain⟨L,h1,_⟩:=hx;exact ah.gx h1
theorem VS.z9w (s:VS lo g σ vh h){o:Nat}(ho:h.next≤o):g o=none:=by
 cases hg:g o with
 |none=>rfl
 |some x=>have:=ah.gx (s.fz o x hg);omega
theorem VS.alloc (s:VS lo g σ vh h){x:aM}(y:bc)(k:Nat)(hx:uo g (σ.put vh.next (h.next,0,k)) (vh.next+1) (h.alloc y) vh.next x) :
  VS lo g (σ.put vh.next (h.next,0,k)) (vh.alloc x) (h.alloc y)∧VF σ vh h (σ.put vh.next (h.next,0,k)) (vh.alloc x) (h.alloc y):=by
 have cy:∀i,i<vh.next→(σ.put vh.next (h.next,0,k)) i=σ i:=fun i hi=>Sg.zy _ _ (by omega)
 have hold:∀o,o<h.next→(h.alloc y).get o=h.get o:=fun o ho=>by rw[ah.jf,if_neg (by omega)]
 have split:∀i z,(vh.alloc x).get i=some z→(i=vh.next∧z=x)∨(i<vh.next∧vh.get i=some z):=fun i z hz=>by
  rw[ai.jf] at hz
  by_cases hi:i=vh.next
  ·subst hi;simp at hz;exact .inl ⟨rfl,hz.symm⟩
  simp[hi] at hz;exact .inr ⟨(s.obj i z hz).1,hz⟩
 refine⟨⟨fun i z hz=>?_,fun i j z z' hz kG hl qw he=>?_,fun i z hz hl=>?_,fun o z hz=>?_,fun i z hz hl=>?_,?_⟩,⟨?_,fun o ho hn=>hold o ho,fun i z hz hl aP=>?_⟩⟩
 ·rcases split i z hz with⟨rfl,rfl⟩|⟨hi,hz⟩
  ·exact⟨by simp[ai.alloc],hx⟩
  refine⟨by simp[ai.alloc];omega,(s.obj i z hz).2.mono (Fz.le_refl g) (Nat.le_succ _) cy hi fun hl=>hold _ ((s.obj i z hz).2.lt hl)⟩
 ·rcases split i z hz with⟨rfl,rfl⟩|⟨hi,uf⟩<;>rcases split j z' kG with⟨rfl,rfl⟩|⟨hj,rC⟩
  ·rfl
  ·rw[Sg.cB,cy j hj] at he
   have:=(s.obj j z' rC).2.lt qw;simp only at he;omega
  ·rw[Sg.cB,cy i hi] at he
   have:=(s.obj i z uf).2.lt hl;simp only at he;omega
  rw[cy i hi,cy j hj] at he
  exact s.inj i j z z' uf rC hl qw he
 ·rcases split i z hz with⟨rfl,rfl⟩|⟨hi,hz⟩
  ·rw[Sg.cB];exact s.bO
  rw[cy i hi];exact s.low i z hz hl
 ·have:=s.fz o z hz
  rw[hold o (ah.gx this)];exact this
 ·rcases split i z hz with⟨rfl,rfl⟩|⟨hi,hz⟩
  ·rw[Sg.cB];exact s.z9w (Nat.le_refl _)
  rw[cy i hi];exact s.jU i z hz hl
 ·have:=s.bO;simp;omega
 ·simp
 rcases split i z hz with⟨rfl,rfl⟩|⟨hi,hz⟩
 ·rw[Sg.cB] at aP;simp only at aP;omega
 rw[cy i hi];exact⟨i,z,hz,hl,rfl⟩
theorem VS.Ts (s:VS lo g σ vh h){x:aM}(p:Nat×Nat×Nat)(hx:uo g (σ.put vh.next p) (vh.next+1) h vh.next x)(hp:x.live=true→lo≤p.1∧g p.1=none∧∀i y,vh.get i=some y→y.live=true→(σ i).1≠p.1)
  : VS lo g (σ.put vh.next p) (vh.alloc x) h:=by
 have cy:∀i,i<vh.next→(σ.put vh.next p) i=σ i:=fun i hi=>Sg.zy _ _ (by omega)
 have split:∀i z,(vh.alloc x).get i=some z→(i=vh.next∧z=x)∨(i<vh.next∧vh.get i=some z):=fun i z hz=>by
  rw[ai.jf] at hz
  by_cases hi:i=vh.next
  ·subst hi;simp at hz;exact .inl ⟨rfl,hz.symm⟩
  simp[hi] at hz;exact .inr ⟨(s.obj i z hz).1,hz⟩
 refine⟨fun i z hz=>?_,fun i j z z' hz kG hl qw he=>?_,fun i z hz hl=>?_,s.fz,fun i z hz hl=>?_,s.bO⟩
 ·rcases split i z hz with⟨rfl,rfl⟩|⟨hi,hz⟩
  ·exact⟨by simp[ai.alloc],hx⟩
  exact⟨by simp[ai.alloc];omega,(s.obj i z hz).2.mono (Fz.le_refl g) (Nat.le_succ _) cy hi fun hl=>rfl⟩
 ·rcases split i z hz with⟨rfl,rfl⟩|⟨hi,uf⟩<;>rcases split j z' kG with⟨rfl,rfl⟩|⟨hj,rC⟩
  ·rfl
  ·rw[Sg.cB,cy j hj] at he
   exact absurd he.symm ((hp hl).2.2 j z' rC qw)
  ·rw[Sg.cB,cy i hi] at he
   exact absurd he ((hp qw).2.2 i z uf hl)
  rw[cy i hi,cy j hj] at he
  exact s.inj i j z z' uf rC hl qw he
 ·rcases split i z hz with⟨rfl,rfl⟩|⟨hi,hz⟩
  ·rw[Sg.cB];exact(hp hl).1
  rw[cy i hi];exact s.low i z hz hl
 rcases split i z hz with⟨rfl,rfl⟩|⟨hi,hz⟩
 ·rw[Sg.cB];exact(hp hl).2.1
 rw[cy i hi];exact s.jU i z hz hl
theorem VS.sub (s:VS lo g σ vh h){aV:ai}(hn:aV.next=vh.next)(hs:∀i x,aV.get i=some x→vh.get i=some x):VS lo g σ aV h∧VF σ vh h σ aV h:=
 ⟨⟨fun i x hx=>by rw[hn];exact s.obj i x (hs i x hx),fun i j x y hx hy=>s.inj i j x y (hs i x hx) (hs j y hy),fun i x hx=>s.low i x (hs i x hx),s.fz,fun i x hx=>s.jU i x (hs i x hx),s.bO⟩,
  ⟨Nat.le_refl _,fun _ _ _=>rfl,fun i x hx hl _=>⟨i,x,hs i x hx,hl,rfl⟩⟩⟩
theorem kK {i j:Nat}{x:aM}(hx:(vh.drop i).get j=some x):j≠i∧vh.get j=some x:=by
 rw[ai.NR] at hx
 by_cases h:j=i
 ·simp[h] at hx
 simp[h] at hx;exact⟨h,hx⟩
theorem VS.kill (s:VS lo g σ vh h){i:Nat}{x:aM}(hx:vh.get i=some x)(hl:x.live=true):VS lo g σ (vh.drop i) (h.put (σ i).1 none)∧VF σ vh h σ (vh.drop i) (h.put (σ i).1 none):=by
 have aP:=(s.obj i x hx).2.lt hl
 have dd:∀o,o≠(σ i).1→(h.put (σ i).1 none).get o=h.get o:=fun o ho=>by rw[ah.dJ _ _ _ _ aP,if_neg ho]
 have cY:∀j y,(vh.drop i).get j=some y→y.live=true→(σ j).1≠(σ i).1:=fun j y hy jb he=>by
  obtain⟨h1,h2⟩:=kK hy
  exact h1 (s.inj j i y x h2 hx jb hl he)
 refine⟨⟨fun j y hy=>?_,fun j k y z hy hz=>s.inj j k y z (kK hy).2 (kK hz).2,fun j y hy=>s.low j y (kK hy).2,fun o z hz=>?_,fun j y hy=>s.jU j y (kK hy).2,s.bO⟩,⟨Nat.le_refl _,fun o ho hn=>dd o fun he=>hn i x hx hl he.symm,fun j y hy jb _=>⟨j,y,(kK hy).2,jb,rfl⟩⟩⟩
 ·obtain⟨k1,k2⟩:=s.obj j y (kK hy).2
  exact⟨k1,k2.mono (Fz.le_refl g) (Nat.le_refl _) (fun _ _=>rfl) k1 fun jb=>dd _ (cY j y hy jb)⟩
 have hd:=s.jU i x hx hl
 rw[dd o (by rintro rfl;rw[hd] at hz;cases hz)]
 exact s.fz o z hz
theorem DU {i j:Nat}{x x' y:aM}(hx:vh.get i=some x)(hy:(vh.put i x').get j=some y):(j=i∧y=x')∨(j≠i∧vh.get j=some y):=by
 rw[ai.dJ vh i j x' x hx] at hy
 by_cases h:j=i
 ·simp[h] at hy;exact .inl ⟨h,hy.symm⟩
 simp[h] at hy;exact .inr ⟨h,hy⟩
theorem VS.write (s:VS lo g σ vh h){i:Nat}{x x':aM}(hx:vh.get i=some x)(hl:x.live=true)(y:bc)(vH:uo g σ vh.next (h.put (σ i).1 (some y)) i x'):VS lo g σ (vh.put i x') (h.put (σ i).1 (some y))∧VF σ vh h σ (vh.put i x') (h.put (σ i).1 (some y)):=by
 have aP:=(s.obj i x hx).2.lt hl
 have dd:∀o,o≠(σ i).1→(h.put (σ i).1 (some y)).get o=h.get o:=fun o ho=>by rw[ah.dJ _ _ _ _ aP,if_neg ho]
 have cY:∀j z,j≠i→vh.get j=some z→z.live=true→(σ j).1≠(σ i).1:=fun j z hj hz b7 he=>hj (s.inj j i z x hz hx b7 hl he)
 refine⟨⟨fun j z hz=>?_,fun j k z z' hz kG b7 uU he=>?_,fun j z hz b7=>?_,fun o z hz=>?_,fun j z hz b7=>?_,s.bO⟩,⟨Nat.le_refl _,fun o ho hn=>dd o fun he=>hn i x hx hl he.symm,fun j z hz b7 _=>?_⟩⟩
 ·rcases DU hx hz with⟨rfl,rfl⟩|⟨hj,hz⟩
  ·exact⟨(s.obj j x hx).1,vH⟩
  obtain⟨k1,k2⟩:=s.obj j z hz
  exact⟨k1,k2.mono (Fz.le_refl g) (Nat.le_refl _) (fun _ _=>rfl) k1 fun b7=>dd _ (cY j z hj hz b7)⟩
 ·rcases DU hx hz with⟨rfl,rfl⟩|⟨hj,uf⟩<;>rcases DU hx kG with⟨rfl,rfl⟩|⟨hk,rC⟩
  ·rfl
  ·exact absurd he.symm (cY k z' hk rC uU)
  ·exact absurd he (cY j z hj uf b7)
  exact s.inj j k z z' uf rC b7 uU he
 ·rcases DU hx hz with⟨rfl,rfl⟩|⟨hj,hz⟩
  ·exact s.low j x hx hl
  exact s.low j z hz b7
 ·have hd:=s.jU i x hx hl
  rw[dd o (by rintro rfl;rw[hd] at hz;cases hz)]
  exact s.fz o z hz
 ·rcases DU hx hz with⟨rfl,rfl⟩|⟨hj,hz⟩
  ·exact s.jU j x hx hl
  exact s.jU j z hz b7
 rcases DU hx hz with⟨rfl,rfl⟩|⟨hj,hz⟩
 ·exact⟨j,x,hx,hl,rfl⟩
 exact⟨j,z,hz,b7,rfl⟩
def gG (vh:ai)(v:PV):PV×ai:=(.ptr vh.next 0,vh.alloc (.box v.cells))
theorem Tt (s:VS lo g σ vh h){cs:List PV}{ar:List Value}(hc:bh (VR g σ vh.next) cs ar):jH lo g σ vh h (.ptr vh.next 0) (vh.alloc (.box cs)) (.pointer (some ⟨h.next,0,none⟩)) (h.alloc (.cells 0 ar)):=by
 have cy:∀i,i<vh.next→(σ.put vh.next (h.next,0,0)) i=σ i:=fun i hi=>Sg.zy _ _ (by omega)
 obtain⟨h1,h2⟩:=s.alloc (x:=.box cs) (.cells 0 ar) 0 ⟨0,ar,by rw[Sg.cB,ah.jf,if_pos rfl],by rw[Sg.cB],hc.DT (Fz.le_refl g) (Nat.le_succ _) cy⟩
 refine⟨_,?_,h1,h2,Nat.le_succ _,cy⟩
 have:=VR.ptr (g:=g) (σ:=σ.put vh.next (h.next,0,0)) (n:=(vh.alloc (.box cs)).next) vh.next 0 h.next 0 0 (Nat.lt_succ_self _) (Sg.cB _ _ _)
 simpa using this
theorem z9s (s:VS lo g σ vh h){v:PV}{v':Value}(hv:VR g σ vh.next v v'):jH lo g σ vh h (gG vh v).1 (gG vh v).2 (uH h v').1 (uH h v').2:=Tt s hv.cells
def ey (P:Program)(t:TypeId):Option (List PV):=(qZ P t).bind fx
theorem zz {t:TypeId}{z:List PV}(hz:ey P t=some z):∃z',qZ P t=some z'∧bh (FR g) z z':=by
 unfold ey at hz
 cases h1:qZ P t with
 |none=>rw[h1] at hz;cases hz
 |some z'=>rw[h1] at hz;exact⟨z',rfl,(KV hz).1⟩
def pe (P:Program)(vh:ai)(t:TypeId):Option (PV×ai):=
 match ey P t with
 |some z=>some (.ptr vh.next 0,vh.alloc (.box z))
 |none=>none
theorem zxp (s:VS lo g σ vh h){t:TypeId}{v:PV}{ao:ai}(hv:pe P vh t=some (v,ao)):∃v' h',Fl P h t=some (v',h')∧jH lo g σ vh h v ao v' h':=by
 unfold pe at hv
 split at hv
 ·rename_i z hz
  simp only[ax,bG] at hv
  obtain⟨rfl,rfl⟩:=hv
  obtain⟨z',h1,h2⟩:=zz (g:=g) hz
  exact⟨_,_,by simp only[Fl,h1],Tt s h2.vr⟩
 cases hv
def pf (vh:ai):PV×ai:=(.aW vh.next,vh.alloc (.map []))
theorem ztj (s:VS lo g σ vh h):jH lo g σ vh h (pf vh).1 (pf vh).2 (.map (some h.next)) (h.alloc (.map [])):=by
 have cy:∀i,i<vh.next→(σ.put vh.next (h.next,0,0)) i=σ i:=fun i hi=>Sg.zy _ _ (by omega)
 obtain⟨h1,h2⟩:=s.alloc (x:=.map []) (.map []) 0 ⟨[],by rw[Sg.cB,ah.jf,if_pos rfl],by rw[Sg.cB],.nil,.nil⟩
 exact⟨_,VR.aW vh.next h.next 0 0 (Nat.lt_succ_self _) (Sg.cB _ _ _),h1,h2,Nat.le_succ _,cy⟩
def gA (place:Nat→Option (Nat×Nat)):List PV→List (Nat×PV)→Option (List PV)
 |cells,[]=>some cells
 |cells,(i,v)::rest=>
  match place i with
  |none=>none
  |some (off,size)=>
   bif Nat.beq v.cells.length size&&Nat.ble (off+v.cells.length) cells.length then gA place (jn cells off v.cells) rest else none
theorem HA {n:Nat}{place:Nat→Option (Nat×Nat)}:∀ {parts:List (Nat×PV)} {cq:List (Nat×Value)} {cells out:List PV} {mS:List Value},KW (VR g σ n) parts cq→bh (VR g σ n) cells mS→gA place cells parts=some out→
  ∃fF,vK place mS cq=some fF∧bh (VR g σ n) out fF
 |[],cq,cells,out,mS,hp,hc,ho=>by
  simp only[gA,ax] at ho;subst ho
  have:=hp.1;simp at this;subst this
  exact⟨mS,rfl,hc⟩
 |(i,v)::rest,cq,cells,out,mS,hp,hc,ho=>by
  cases cq with
  |nil=>have:=hp.1;simp at this
  |cons q r=>
   obtain⟨i',v'⟩:=q
   have h1:=hp.1
   simp only[List.map_cons,List.cons.injEq] at h1
   obtain⟨rfl,h1⟩:=h1
   obtain⟨u,l,h2,h3,h4⟩:=hp.2.dE
   simp only[List.map_cons,List.cons.injEq] at h2
   obtain⟨rfl,rfl⟩:=h2
   simp only[gA] at ho
   simp only[vK]
   have Tu:=h3.cells
   split at ho
   ·cases ho
   rename_i off size jh
   simp only[jh]
   rw[← Tu.1,← hc.1]
   cases hb:(Nat.beq v.cells.length size&&Nat.ble (off+v.cells.length) cells.length) with
   |false=>rw[hb] at ho;cases ho
   |true=>
    rw[hb] at ho
    simp only[aO] at ho ⊢
    exact HA ⟨h1,h4⟩ (hc.fT off Tu) ho
def oa (P:Program)(t:TypeId)(parts:List (Nat×PV)):Option PV:=
 match ey P t,P.underlying t with
 |some z,some (.struct fields)=>
  match Fo P fields.toList with
  |some l=>(gA (l[·]?) z parts).map .agg
  |none=>none
 |some z,some (.array _ e)=>
  match da P e with
  |some n=>(gA (fun i=>some (i*n,n)) z parts).map .agg
  |none=>none
 |_,_=>none
theorem zyj {n:Nat}{t:TypeId}{parts:List (Nat×PV)}{cq:List (Nat×Value)}{v:PV}(hp:KW (VR g σ n) parts cq)(hv:oa P t parts=some v):∃v',Fp P t cq=some v'∧VR g σ n v v':=by
 unfold oa at hv
 split at hv
 ·rename_i z fields hz hu
  obtain⟨z',h1,h2⟩:=zz (g:=g) hz
  split at hv
  ·rename_i l hl
   obtain⟨cs,h3,rfl⟩:=dq hv
   obtain⟨ar,h4,h5⟩:=HA hp h2.vr h3
   exact⟨.agg ar.toArray,by simp only[Fp,h1,hu,hl,h4,Option.map_some],FK h5⟩
  cases hv
 ·rename_i z m e hz hu
  obtain⟨z',h1,h2⟩:=zz (g:=g) hz
  split at hv
  ·rename_i sz hl
   obtain⟨cs,h3,rfl⟩:=dq hv
   obtain⟨ar,h4,h5⟩:=HA hp h2.vr h3
   exact⟨.agg ar.toArray,by simp only[Fp,h1,hu,hl,h4,Option.map_some],FK h5⟩
  cases hv
 cases hv
def cz (z:List PV)(n:Nat):List PV:=(List.replicate n z).flatten
theorem FM {R:PV→Value→Prop}{z:List PV}{z':List Value}(hz:bh R z z'):∀n,bh R (cz z n) (db z' n)
 |0=>.nil
 |n+1=>by
  simp only[cz,List.replicate_succ,List.flatten_cons,db]
  exact hz.append (FM hz n)
theorem Tv (s:VS lo g σ vh h){ag:Bool}{cs:List PV}{ar:List Value}{sz len k:Nat}(h0:0<sz)(FJ:len≤k)(hk:k<az)(hc:bh (FR g) cs ar) :
  jH lo g σ vh h (.own vh.next 0 len k) (vh.alloc (.arr ag sz cs)) (.slice (some ⟨h.next,0,none⟩) len k) (h.alloc (.cells 0 ar)):=by
 have cy:∀i,i<vh.next→(σ.put vh.next (h.next,0,0)) i=σ i:=fun i hi=>Sg.zy _ _ (by omega)
 obtain⟨h1,h2⟩:=s.alloc (x:=.arr ag sz cs) (.cells 0 ar) 0 ⟨h0,0,ar,by rw[Sg.cB,ah.jf,if_pos rfl],by rw[Sg.cB],hc⟩
 refine⟨_,?_,h1,h2,Nat.le_succ _,cy⟩
 have:=VR.own (g:=g) (σ:=σ.put vh.next (h.next,0,0)) (n:=(vh.alloc (.arr ag sz cs)).next) vh.next 0 len k h.next 0 0 (Nat.lt_succ_self _) (Sg.cB _ _ _) FJ hk
 simpa using this
def nF (P:Program)(vh:ai)(t:TypeId)(len:Nat)(parts:List (Nat×PV)):Option (PV×ai):=
 match gO P t with
 |some (e,n)=>
  match ey P e,bD P e with
  |some z,some ag=>
   bif Nat.beq z.length n&&Nat.ble (len*n) 16777216&&Nat.blt 0 n then
    match gA (fun i=>some (i*n,n)) (cz z len) parts with
    |some cs=>bif PV.aF cs then some (.own vh.next 0 len len,vh.alloc (.arr ag n cs)) else none
    |none=>none
   else none
  |_,_=>none
 |none=>none
theorem zoa (s:VS lo g σ vh h){t:TypeId}{len:Nat}{parts:List (Nat×PV)}{cq:List (Nat×Value)}{v:PV}{ao:ai}(hp:KW (VR g σ vh.next) parts cq)(hv:nF P vh t len parts=some (v,ao)) :
  ∃v' h',Fs P h t len cq=some (v',h')∧jH lo g σ vh h v ao v' h':=by
 unfold nF at hv
 split at hv
 ·rename_i e n ht
  split at hv
  ·rename_i z ag hz eh
   obtain⟨z',h1,h2⟩:=zz (g:=g) hz
   cases hb:(Nat.beq z.length n&&Nat.ble (len*n) 16777216&&Nat.blt 0 n) with
   |false=>rw[hb] at hv;cases hv
   |true=>
    rw[hb] at hv
    simp only[aO] at hv
    split at hv
    ·rename_i cs hf
     cases ha:PV.aF cs with
     |false=>rw[ha] at hv;cases hv
     |true=>
      rw[ha] at hv
      simp only[aO,ax,bG] at hv
      obtain⟨rfl,rfl⟩:=hv
      obtain⟨ar,h4,h5⟩:=HA hp (FM h2.vr len) hf
      have qY:(Nat.beq z'.length n&&Nat.ble (len*n) 16777216&&Nat.blt 0 n)=true:=by rw[← h2.1];exact hb
      simp only[bS,Nat.blt_eq,Nat.ble_eq] at hb
      have hlen:len≤len*n:=Nat.le_mul_of_pos_right _ hb.2
      have:(16777216:Nat)<az:=by decide
      exact⟨_,_,by simp only[Fs,ht,h1,qY,aO,h4],Tv s hb.2 (Nat.le_refl _) (by omega) (h5.aG ha)⟩
    cases hv
  cases hv
 cases hv
def nG (P:Program)(vh:ai)(t:TypeId)(l c:PV):Option (PV×ai):=
 match l,c,gO P t with
 |.int .i64 l,.int .i64 c,some (e,n)=>
  match ey P e,(P.info? e).map (·.bytes),bD P e with
  |some z,some bytes,some ag=>
   bif decide (0≤l∧l≤c∧c≤4294967296)&&Nat.beq z.length n&&Nat.ble bytes 4096&&Nat.blt 0 n then
    some (.own vh.next 0 l.toNat c.toNat,vh.alloc (.arr ag n (cz z c.toNat)))
   else none
  |_,_,_=>none
 |_,_,_=>none
theorem zpx (s:VS lo g σ vh h){t:TypeId}{l c v:PV}{l' c':Value}{ao:ai}(hl:VR g σ vh.next l l')(hc:VR g σ vh.next c c')(hv:nG P vh t l c=some (v,ao)) :
  ∃v' h',Ft P h t l' c'=some (v',h')∧jH lo g σ vh h v ao v' h':=by
 unfold nG at hv
 split at hv
 ·rename_i l c e n ht
  have:=hl.aG rfl;cases this
  have:=hc.aG rfl;cases this
  split at hv
  ·rename_i z bytes ag hz pU eh
   obtain⟨z',h1,h2⟩:=zz (g:=g) hz
   cases hb:(decide (0≤l∧l≤c∧c≤4294967296)&&Nat.beq z.length n&&Nat.ble bytes 4096&&Nat.blt 0 n) with
   |false=>rw[hb] at hv;cases hv
   |true=>
    rw[hb] at hv
    simp only[aO,ax,bG] at hv
    obtain⟨rfl,rfl⟩:=hv
    simp only[bS,decide_eq_true_eq,Nat.blt_eq,Nat.ble_eq] at hb
    obtain⟨⟨⟨⟨kf,cT,nY⟩,zA⟩,NX⟩,HB⟩:=hb
    have Fw:z'.length=n:=by rw[← h2.1];simpa using zA
    cases l with
    |negSucc l=>omega
    |ofNat l=>
     cases c with
     |negSucc c=>omega
     |ofNat c=>
      have e1:l≤c:=by have:(l:Int)≤(c:Int):=cT;omega
      have e2:c≤4294967296:=by have:(c:Int)≤4294967296:=nY;omega
      have e3:bytes*c≤4096*4294967296:=Nat.mul_le_mul NX e2
      have de:(Nat.beq z'.length n&&Nat.ble l c&&Nat.ble (bytes*c) 281474976710656&&Nat.blt 0 n&&Nat.ble c 281474976710656)=true:=by
       simp only[bS,Nat.ble_eq,Nat.blt_eq]
       exact⟨⟨⟨⟨by rw[Fw];exact Nat.beq_refl n,e1⟩,by omega⟩,HB⟩,by omega⟩
      have:(4294967296:Nat)<az:=by decide
      exact⟨.slice (some ⟨h.next,0,none⟩) l c,h.alloc (.cells 0 (db z' c)),by simp only[Ft,ht,h1,pU,de,aO],Tv s HB e1 (by omega) (FM h2 c)⟩
  cases hv
 cases hv
def pg (P:Program)(vh:ai)(t:TypeId)(p v:PV):Option ai:=
 match p with
 |.ptr i off=>
  match vh.get i,da P t with
  |some (.box cs),some n=>bif Nat.beq v.cells.length n&&v.cells.all PV.one&&Nat.ble (off+n) cs.length then some (vh.put i (.box (jn cs off v.cells))) else none
  |some (.arr ag sz cs),some n=>bif Nat.beq v.cells.length n&&v.cells.all PV.one&&Nat.ble (off+n) cs.length&&PV.aF v.cells then some (vh.put i (.arr ag sz (jn cs off v.cells))) else none
  |_,_=>none
 |_=>none
theorem zys (s:VS lo g σ vh h){t:TypeId}{p v:PV}{p' v':Value}{ao:ai}(hp:VR g σ vh.next p p')(sA:VR g σ vh.next v v')(hv:pg P vh t p v=some ao) :
  ∃h',B2 P lo h t p' v'=some h'∧jH lo g σ vh h (.bx []) ao Go.undef h':=by
 unfold pg at hv
 split at hv
 ·rename_i i off
  cases hp with
  |fr _ _ h=>cases h
  |ptr _ _ o a k hi hs=>
   have jE:=sA.cells
   split at hv
   ·rename_i cs n hg hn
    cases hb:(Nat.beq v.cells.length n&&v.cells.all PV.one&&Nat.ble (off+n) cs.length) with
    |false=>rw[hb] at hv;cases hv
    |true=>
     rw[hb] at hv;simp only[aO,ax] at hv;subst hv
     obtain⟨s0,ar,h1,h2,h3⟩:=(s.obj i _ hg).2
     have bJ:=s.low i _ hg rfl
     simp only[bS,Nat.ble_eq,Nat.beq_eq_true_eq] at hb
     obtain⟨⟨kf,cT⟩,nY⟩:=hb
     have h4:=s.write hg rfl (x':=.box (jn cs off v.cells)) (.cells s0 (fT ar off v'.cells.toList)) ⟨s0,_,by rw[ah.dJ _ _ _ _ (ah.gx h1),if_pos rfl],h2,h3.fT off jE⟩
     rw[hs] at h1 h2 bJ h4
     simp only at h1 h2 bJ h4;subst h2
     have de:(Nat.ble lo o&&Nat.beq v'.cells.toList.length n&&v'.cells.toList.all (·.oneCell')&&Nat.ble (0+off+n) ar.length)=true:=by
      simp only[bS,Nat.ble_eq,Nat.beq_eq_true_eq]
      exact⟨⟨⟨bJ,by rw[← jE.1];exact kf⟩,jE.xu cT⟩,by rw[← h3.1];omega⟩
     rw[Nat.zero_add] at de ⊢
     refine⟨_,by simp only[B2,h1,hn,de,aO],σ,.fr _ _ ?_,h4.1,h4.2,Nat.le_refl _,fun _ _=>rfl⟩
     exact .bx [] #[] rfl (fun i v v' h=>by simp at h)
   ·rename_i ag sz cs n hg hn
    cases hb:(Nat.beq v.cells.length n&&v.cells.all PV.one&&Nat.ble (off+n) cs.length&&PV.aF v.cells) with
    |false=>rw[hb] at hv;cases hv
    |true=>
     rw[hb] at hv;simp only[aO,ax] at hv;subst hv
     obtain⟨h0,s0,ar,h1,h2,h3⟩:=(s.obj i _ hg).2
     have bJ:=s.low i _ hg rfl
     simp only[bS,Nat.ble_eq,Nat.beq_eq_true_eq] at hb
     obtain⟨⟨⟨kf,cT⟩,nY⟩,zA⟩:=hb
     have h4:=s.write hg rfl (x':=.arr ag sz (jn cs off v.cells)) (.cells s0 (fT ar off v'.cells.toList)) ⟨h0,s0,_,by rw[ah.dJ _ _ _ _ (ah.gx h1),if_pos rfl],h2,h3.fT off (jE.aG zA)⟩
     rw[hs] at h1 h2 bJ h4
     simp only at h1 h2 bJ h4;subst h2
     have de:(Nat.ble lo o&&Nat.beq v'.cells.toList.length n&&v'.cells.toList.all (·.oneCell')&&Nat.ble (0+off+n) ar.length)=true:=by
      simp only[bS,Nat.ble_eq,Nat.beq_eq_true_eq]
      exact⟨⟨⟨bJ,by rw[← jE.1];exact kf⟩,jE.xu cT⟩,by rw[← h3.1];omega⟩
     rw[Nat.zero_add] at de ⊢
     refine⟨_,by simp only[B2,h1,hn,de,aO],σ,.fr _ _ ?_,h4.1,h4.2,Nat.le_refl _,fun _ _=>rfl⟩
     exact .bx [] #[] rfl (fun i v v' h=>by simp at h)
   cases hv
 cases hv
end
section
variable {P:Program} {lo:Nat} {g:Fz} {σ:Sg} {vh:ai} {h:ah}
theorem Cv {n:Nat}:∀ {es:List PV},(∀e∈es,e.cells.length=n)→(es.flatMap PV.cells).length=es.length*n
 |[],_=>by simp
 |e::r,hl=>by
  simp only[List.flatMap_cons,List.length_append,List.length_cons]
  rw[Cv fun x hx=>hl x (List.mem_cons_of_mem _ hx),hl e (by simp),Nat.succ_mul]
  omega
theorem Tw {R:PV→Value→Prop}{n:Nat}{ar:List Value}:∀ {es:List PV} {off:Nat},(∀e∈es,e.cells.length=n)→(∀(i:Nat) e (j:Nat) v v',es[i]?=some e→e.cells[j]?=some v→ar[off+i*n+j]?=some v'→R v v')→
  off+es.length*n≤ar.length→bh R (es.flatMap PV.cells) ((ar.drop off).take (es.length*n))
 |[],off,_,_,_=>by simp only[List.flatMap_nil,List.length_nil,Nat.zero_mul,List.take_zero];exact .nil
 |e::r,off,hl,hr,hlen=>by
  simp only[List.length_cons,Nat.succ_mul] at hlen
  have he:=hl e (by simp)
  have ih:=Tw (R:=R) (n:=n) (ar:=ar) (es:=r) (off:=off+n) (fun x hx=>hl x (List.mem_cons_of_mem _ hx)) (fun i x j v v' hx hv aQ=>hr (i+1) x j v v' (by simpa using hx) hv (by rw[Nat.succ_mul,show off+(i*n+n)+j=off+n+i*n+j by omega];exact aQ)) (by omega)
  have h1:bh R e.cells ((ar.drop off).take n):=⟨by simp;omega,fun j v v' hv aQ=>by
   rw[List.getElem?_take] at aQ
   split at aQ
   ·rw[List.getElem?_drop] at aQ
    exact hr 0 e j v v' (by simp) hv (by simpa using aQ)
   cases aQ⟩
  have h2:=h1.append ih
  simp only[List.flatMap_cons,List.length_cons,Nat.succ_mul]
  have h3:(ar.drop off).take (r.length*n+n)=(ar.drop off).take n++(ar.drop (off+n)).take (r.length*n):=by
   rw[Nat.add_comm,List.take_add,List.drop_drop]
  rw[h3];exact h2
theorem HC {R:PV→Value→Prop}{n:Nat}:∀ {es:List PV} {ar:List Value},(∀e∈es,e.cells.length=n)→bh R (es.flatMap PV.cells) ar→∀(i:Nat) e (j:Nat) v v',es[i]?=some e→e.cells[j]?=some v→ar[i*n+j]?=some v'→R v v'
 |[],_,_,_,i,e,j,v,v',he,_,_=>by simp at he
 |x::r,ar,hl,hr,i,e,j,v,v',he,hv,aQ=>by
  have hx:=hl x (by simp)
  simp only[List.flatMap_cons] at hr
  cases i with
  |zero=>
   simp at he;subst he
   have hj:j<x.cells.length:=by
    rcases Nat.lt_or_ge j x.cells.length with h|h
    ·exact h
    rw[List.getElem?_eq_none h] at hv;cases hv
   exact hr.2 j v v' (by rw[List.getElem?_append_left hj];exact hv) (by simpa using aQ)
  |succ i=>
   have h2:bh R (r.flatMap PV.cells) (ar.drop n):=by
    have:=hr.drop n
    rwa [show (x.cells++r.flatMap PV.cells).drop n=r.flatMap PV.cells by rw[← hx];simp] at this
   exact HC (fun y hy=>hl y (List.mem_cons_of_mem _ hy)) h2 i e j v v' (by simpa using he) hv (by rw[List.getElem?_drop,show n+(i*n+j)=(i+1)*n+j by rw[Nat.succ_mul];omega];exact aQ)
theorem z0t {n:Nat}{es:List PV}(h:lC n es=true):∀e∈es,e.cells.length=n:=fun e he=>by
 unfold lC at h
 rw[List.all_eq_true] at h
 simpa using h e he
def chunk (ag:Bool)(sz n:Nat)(cs:List PV):List PV:=bif ag then (List.range n).map fun i=>.agg ((cs.drop (i*sz)).take sz) else cs.take n
theorem NY {sz:Nat}:∀ {n:Nat} {cs:List PV},n*sz≤cs.length→(chunk true sz n cs).flatMap PV.cells=cs.take (n*sz)
 |0,cs,_=>by simp[chunk]
 |n+1,cs,h=>by
  have ih:=NY (sz:=sz) (n:=n) (cs:=cs.drop sz) (by rw[Nat.succ_mul] at h;simp;omega)
  simp only[chunk,aO] at ih ⊢
  rw[List.range_succ_eq_map,List.map_cons,List.flatMap_cons,List.map_map]
  have he:((fun i=>PV.agg ((cs.drop (i*sz)).take sz))∘Nat.succ)=fun i=>PV.agg (((cs.drop sz).drop (i*sz)).take sz):=by
   funext i
   simp only[Function.comp,List.drop_drop]
   rw[Nat.succ_mul,Nat.add_comm sz]
  rw[he,ih]
  simp only[Nat.zero_mul,List.drop_zero,PV.cells]
  rw[Nat.succ_mul,Nat.add_comm (n*sz),List.take_add]
theorem Tx:∀ {n:Nat} {cs:List PV},lC 1 (cs.take n)=true→cs.all PV.one=true→(chunk false 1 n cs).flatMap PV.cells=cs.take n
 |n,cs,_,ho=>by
  simp only[chunk,bz]
  have h1:∀l:List PV,l.all PV.one=true→l.flatMap PV.cells=l:=fun l=>by
   induction l with
   |nil=>intro _;rfl
   |cons e r ih=>
    intro h
    simp only[List.all_cons,bS] at h
    rw[List.flatMap_cons,ih h.2]
    cases e<;>first|rfl|(simp[PV.one] at h)
  exact h1 _ (by rw[List.all_eq_true] at ho ⊢;exact fun x hx=>ho x (List.mem_of_mem_take hx))
def iP (vh:ai)(n:Nat)(x:PV):Option (List PV):=
 match x with
 |.aI=>some []
 |.e0=>some []
 |.vec es=>bif lC n es then some es else none
 |.own i off len _=>match vh.get i with
  |some (.arr ag sz cs)=>bif Nat.beq sz n&&(ag||(Nat.beq sz 1&&cs.all PV.one))&&Nat.ble (off+len*n) cs.length then some (chunk ag sz len (cs.drop off)) else none
  |_=>none
 |.sub i off len=>match vh.get i with
  |some (.arr ag sz cs)=>bif Nat.beq sz n&&(ag||(Nat.beq sz 1&&cs.all PV.one))&&Nat.ble (off+len*n) cs.length then some (chunk ag sz len (cs.drop off)) else none
  |_=>none
 |.grow i m _=>bif Nat.beq m 0 then some [] else match vh.get i with
  |some (.grow sz es)=>bif Nat.beq sz n&&Nat.beq es.length m then some es else none
  |_=>none
 |_=>none
theorem FN (s:VS lo g σ vh h){n:Nat}(hn:0<n){x:PV}{x':Value}{es:List PV}(hx:VR g σ vh.next x x')(he:iP vh n x=some es) :
  kr x'=some es.length∧(∀e∈es,e.cells.length=n)∧∀m,m≤es.length→∃bw,qx h n x' m=some bw∧bh (FR g) ((es.take m).flatMap PV.cells) bw:=by
 have nil:∀ {x':Value},∀m,m≤([]:List PV).length→∃bw,qx h n x' m=some bw∧bh (FR g) ((([]:List PV).take m).flatMap PV.cells) bw:=fun m hm=>by
  have:m=0:=by simpa using hm
  subst this
  exact⟨[],by simp[qx],.nil⟩
 have src:∀ {o off k s0:Nat} {ar:List Value} {es:List PV},h.get o=some (.cells s0 ar)→off+es.length*n≤ar.length→(∀e∈es,e.cells.length=n)→bh (FR g) (es.flatMap PV.cells) ((ar.drop off).take (es.length*n))→
   ∀m,m≤es.length→∃bw,qx h n (.slice (some ⟨o,off,none⟩) es.length k) m=some bw∧bh (FR g) ((es.take m).flatMap PV.cells) bw:=fun {o off k s0 ar es} hg hlen hl hr m hm=>by
  rcases kH m 0 with⟨hq,cm⟩|⟨hq,cm⟩
  ·subst cm;exact⟨[],by simp[qx],by simp;exact .nil⟩
  have h1:m*n≤es.length*n:=Nat.mul_le_mul_right _ hm
  have h2:Nat.ble (off+m*n) ar.length=true:=by rw[Nat.ble_eq];omega
  refine⟨(ar.drop off).take (m*n),by simp only[qx,hq,bz,hg,h2,aO],?_⟩
  have h3:=hr.take (m*n)
  rw[List.take_take,Nat.min_eq_left h1] at h3
  have h4:(es.flatMap PV.cells).take (m*n)=(es.take m).flatMap PV.cells:=by
   have h5:es.flatMap PV.cells=(es.take m).flatMap PV.cells++(es.drop m).flatMap PV.cells:=by rw[← List.flatMap_append,List.take_append_drop]
   have h6:=Cv (es:=es.take m) fun e he=>hl e (List.mem_of_mem_take he)
   rw[h5,List.take_left' (by rw[h6,List.length_take,Nat.min_eq_left hm])]
  rw[h4] at h3;exact h3
 unfold iP at he
 split at he
 ·injection he with he;subst he
  have:=hx.aG rfl;cases this
  exact⟨rfl,by simp,nil⟩
 ·injection he with he;subst he
  have:=hx.aG rfl;cases this<;>exact⟨rfl,by simp,nil⟩
 ·rename_i Cw
  cases bs:lC n Cw with
  |false=>rw[bs] at he;cases he
  |true=>
   rw[bs] at he;simp only[aO,ax] at he;subst he
   have hl:=z0t bs
   have:=hx.aG rfl
   cases this with
   |fw=>exact⟨rfl,by simp,nil⟩
   |dv=>exact⟨rfl,by simp,nil⟩
   |vec _ o off k s0 sz ar hk dZ hg h0 eJ hlen r=>
    refine⟨rfl,hl,?_⟩
    by_cases rD:Cw=[]
    ·subst rD;exact nil
    have:sz=n:=by
     have h1:0<Cw.length:=by
      cases Cw with
      |nil=>exact absurd rfl rD
      |cons=>simp
     rw[← eJ 0 Cw[0] (by simp[h1])]
     exact hl _ (List.getElem_mem h1)
    subst this
    exact src (s.fz _ _ hg) hlen hl (Tw hl r hlen)
 ·rename_i i off len k
  split at he
  ·rename_i ag sz cs vZ
   cases hb:(Nat.beq sz n&&(ag||(Nat.beq sz 1&&cs.all PV.one))&&Nat.ble (off+len*n) cs.length) with
   |false=>rw[hb] at he;cases he
   |true=>
    rw[hb] at he;simp only[aO,ax] at he;subst he
    simp only[bS,Bool.or_eq_true,Nat.ble_eq,beq_eq,decide_eq_true_eq] at hb
    obtain⟨⟨kf,cT⟩,nY⟩:=hb
    subst kf
    obtain⟨h0,s0,ar,h1,h2,h3⟩:=(s.obj i _ vZ).2
    cases hx with
    |fr _ _ h=>cases h
    |own _ _ _ _ o a kk hi hs hl hk=>
     rw[hs] at h1 h2;simp only at h1 h2;subst h2
     have eM:∀e∈chunk ag sz len (cs.drop off),e.cells.length=sz:=by
      intro e uV
      cases ag with
      |true=>
       simp only[chunk,aO,List.mem_map,List.mem_range] at uV
       obtain⟨i,hi,rfl⟩:=uV
       have:i*sz+sz≤len*sz:=by rw[← Nat.succ_mul];exact Nat.mul_le_mul_right _ hi
       simp[PV.cells];omega
      |false=>
       simp only[Bool.false_eq_true,false_or] at cT
       simp only[chunk,bz] at uV
       have h5:=(List.all_eq_true.1 cT.2) e (List.mem_of_mem_drop (List.mem_of_mem_take uV))
       rw[cT.1]
       cases e<;>first|rfl|(simp[PV.one] at h5)
     have hlen:(chunk ag sz len (cs.drop off)).length=len:=by
      cases ag with
      |true=>simp[chunk]
      |false=>
       simp only[Bool.false_eq_true,false_or] at cT
       have:=cT.1;subst this
       simp[chunk];omega
     have mu:(chunk ag sz len (cs.drop off)).flatMap PV.cells=(cs.drop off).take (len*sz):=by
      cases ag with
      |true=>exact NY (by simp;omega)
      |false=>
       simp only[Bool.false_eq_true,false_or] at cT
       have:=cT.1;subst this
       have bs:(cs.drop off).all PV.one=true:=by rw[List.all_eq_true];exact fun x hx=>(List.all_eq_true.1 cT.2) x (List.mem_of_mem_drop hx)
       have h1:lC 1 ((cs.drop off).take len)=true:=by
        unfold lC
        rw[List.all_eq_true]
        intro e uV
        have h5:=(List.all_eq_true.1 bs) e (List.mem_of_mem_take uV)
        cases e<;>first|rfl|(simp[PV.one] at h5)
       rw[Tx h1 bs,Nat.mul_one]
     refine⟨by simp only[kr];rw[hlen],eM,?_⟩
     have h4:bh (FR g) ((chunk ag sz len (cs.drop off)).flatMap PV.cells) ((ar.drop off).take ((chunk ag sz len (cs.drop off)).length*sz)):=by
      rw[mu,hlen];exact(h3.drop off).take _
     have h5:=src (o:=o) (off:=off) (k:=k) h1 (by rw[hlen,← h3.1];exact nY) eM h4
     rw[hlen] at h5
     rw[Nat.zero_add,hlen];exact h5
  cases he
 ·rename_i i off len
  split at he
  ·rename_i ag sz cs vZ
   cases hb:(Nat.beq sz n&&(ag||(Nat.beq sz 1&&cs.all PV.one))&&Nat.ble (off+len*n) cs.length) with
   |false=>rw[hb] at he;cases he
   |true=>
    rw[hb] at he;simp only[aO,ax] at he;subst he
    simp only[bS,Bool.or_eq_true,Nat.ble_eq,beq_eq,decide_eq_true_eq] at hb
    obtain⟨⟨kf,cT⟩,nY⟩:=hb
    subst kf
    obtain⟨h0,s0,ar,h1,h2,h3⟩:=(s.obj i _ vZ).2
    cases hx with
    |fr _ _ h=>cases h
    |sub _ _ _ k o a kk hi hs hl hk=>
     rw[hs] at h1 h2;simp only at h1 h2;subst h2
     have eM:∀e∈chunk ag sz len (cs.drop off),e.cells.length=sz:=by
      intro e uV
      cases ag with
      |true=>
       simp only[chunk,aO,List.mem_map,List.mem_range] at uV
       obtain⟨i,hi,rfl⟩:=uV
       have:i*sz+sz≤len*sz:=by rw[← Nat.succ_mul];exact Nat.mul_le_mul_right _ hi
       simp[PV.cells];omega
      |false=>
       simp only[Bool.false_eq_true,false_or] at cT
       simp only[chunk,bz] at uV
       have h5:=(List.all_eq_true.1 cT.2) e (List.mem_of_mem_drop (List.mem_of_mem_take uV))
       rw[cT.1]
       cases e<;>first|rfl|(simp[PV.one] at h5)
     have hlen:(chunk ag sz len (cs.drop off)).length=len:=by
      cases ag with
      |true=>simp[chunk]
      |false=>
       simp only[Bool.false_eq_true,false_or] at cT
       have:=cT.1;subst this
       simp[chunk];omega
     have mu:(chunk ag sz len (cs.drop off)).flatMap PV.cells=(cs.drop off).take (len*sz):=by
      cases ag with
      |true=>exact NY (by simp;omega)
      |false=>
       simp only[Bool.false_eq_true,false_or] at cT
       have:=cT.1;subst this
       have bs:(cs.drop off).all PV.one=true:=by rw[List.all_eq_true];exact fun x hx=>(List.all_eq_true.1 cT.2) x (List.mem_of_mem_drop hx)
       have h1:lC 1 ((cs.drop off).take len)=true:=by
        unfold lC
        rw[List.all_eq_true]
        intro e uV
        have h5:=(List.all_eq_true.1 bs) e (List.mem_of_mem_take uV)
        cases e<;>first|rfl|(simp[PV.one] at h5)
       rw[Tx h1 bs,Nat.mul_one]
     refine⟨by simp only[kr];rw[hlen],eM,?_⟩
     have h4:bh (FR g) ((chunk ag sz len (cs.drop off)).flatMap PV.cells) ((ar.drop off).take ((chunk ag sz len (cs.drop off)).length*sz)):=by
      rw[mu,hlen];exact(h3.drop off).take _
     have h5:=src (o:=o) (off:=off) (k:=k) h1 (by rw[hlen,← h3.1];exact nY) eM h4
     rw[hlen] at h5
     rw[Nat.zero_add,hlen];exact h5
  cases he
 ·rename_i i m nl
  rcases kH m 0 with⟨hq,cm⟩|⟨hq,cm⟩
  ·rw[hq] at he;simp only[aO,ax] at he;subst he;subst cm
   cases hx with
   |fr _ _ h=>cases h
   |b8=>exact⟨rfl,by simp,nil⟩
   |b9=>exact⟨rfl,by simp,nil⟩
   |grow _ _ _ _ _ _ _ _ hn=>omega
  rw[hq] at he;simp only[bz] at he
  split at he
  ·rename_i sz Cw vZ
   cases hb:(Nat.beq sz n&&Nat.beq Cw.length m) with
   |false=>rw[hb] at he;cases he
   |true=>
    rw[hb] at he;simp only[aO,ax] at he;subst he
    simp only[bS,Nat.beq_eq_true_eq] at hb
    obtain⟨kf,cT⟩:=hb
    have kf:sz=n:=by simpa using kf
    have cT:Cw.length=m:=by simpa using cT
    subst kf
    obtain⟨h0,hl,NZ,l8⟩:=(s.obj i _ vZ).2
    rcases l8 with rfl|⟨s0,ar,h1,h2,h3,h4⟩
    ·exact absurd cT.symm cm
    cases hx with
    |fr _ _ h=>cases h
    |b8=>exact absurd rfl cm
    |b9=>exact absurd rfl cm
    |grow _ _ o a k _ hi hs hm=>
     subst cT
     rw[hs] at h1 h2;simp only at h1 h2;subst h2
     have mu:=Cv hl
     refine⟨rfl,hl,src h1 (by rw[← mu,h3.1];simp) hl ?_⟩
     rw[List.drop_zero,← mu,h3.1,List.take_length];exact h3
  cases he
 cases he
end
end Go.Am
end
