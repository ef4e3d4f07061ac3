/-
 What is used in the proof of a statement (part Am3); no condition.
-/
import Derived.Laws.IdiomRangeMap
import Derived.Sort.Row
import Derived.Sort.Grow
import Derived.Shelf.SortM.Plain
import Derived.Test.YthnmgbgmlhackaaGreatDoorAm2
set_option linter.all false
set_option maxHeartbeats 40000000
set_option maxRecDepth 100000
section
namespace Go.Am
variable [bE]
section
variable {P:Program}
theorem WW {ts:aC}{t:Nat}{v:Value}(h:t<ts.length):(bw ts (some t) v).getD t Go.undef=v:=by
 simp[bw,h]
theorem Po {ts:aC}{t u:Nat}{v:Value}(h:t≠u):(bw ts (some t) v).getD u Go.undef=ts.getD u Go.undef:=by
 rw[List.getD_eq_getElem?_getD,List.getD_eq_getElem?_getD,EK (by intro hh;injection hh with hh;exact h hh)]
section
variable {lo:Nat} {i j WX WY tI tN tB tE m it nT:Nat} {o1 o2 o3:Oper} {Kx:Array Oper} {body:Code} {es:List (Value×Value)} {Inv:List (Value×Value)→aC→ae→Prop} {Q:kD}
end
end
section
variable {P:Program} {lo:Nat} {h:ae}
theorem mr.HW {f:FuncId}{args:List Value}{R:Value→ae→Prop}
  (hc:∀U w a6,bn U args a6.toList→Rel U lo h w→Calls P f a6 w fun e w'=>∃r v h' aN,e=.returned v∧aj aN r v∧Rel aN lo h' w'∧Frame lo U h w aN h' w'∧R r h'):mr P lo f args h R:=by
 intro F hF n4 n U w a6 ha r
 rw[hF.eq n4]
 exact callsIn_wide.2 (hc U w a6 ha r)
theorem WZ {U:Mu}{w:World}(os:Array Obj)(n:Nat)(r:Rel U lo h w):Rel U lo h (Sort.grow (Sort.ahead w n) os)∧Frame lo U h w U h (Sort.grow (Sort.ahead w n) os):=by
 have hk:∀b,b<w.heap.size→(Sort.grow (Sort.ahead w n) os).heap[b]?=w.heap[b]?:=fun b hb=>by
  simp only[Sort.grow,Sort.heap_ahead,Array.getElem?_append,hb,if_true]
 refine⟨⟨fun o x hx=>?_,r.inj,r.ng,fun o x b a C hl hx hm off=>?_,r.bA,r.jA.step (by simp[Sort.grow]) (fun b hb _=>hk b hb) fun o x b a C h1 h2 h3 _=>⟨o,x,a,C,h1,h2,h3⟩⟩,⟨Mu.le_refl _,by simp[Sort.grow],Nat.le_refl _,fun b hb _=>hk b hb,fun _ _ h=>h,fun _ _=>rfl,fun _ _=>rfl,fun _ _ h=>h,⟨rfl,rfl,rfl,fun _=>by first|exact Nat.le_refl _|exact Nat.le_add_right _ _|exact Nat.le_succ _⟩⟩⟩
 ·obtain⟨b,a,C,h1,h2⟩:=r.be o x hx
  exact⟨b,a,C,h1,h2.kept (hk b h2.rD)⟩
 rw[xW (hk b (mM r hx hm).rD)]
 exact r.eo o x b a C hl hx hm off
end
inductive PV where
  |bool (b:Bool)
  |int (k:IntKind) (n:Int)
  |str (s:ByteArray)
  |nilFunc
  |nilIface
  |eJ
  |aF
  |dj
  |e0
  |func (f:FuncId) (xs ys:List PV)
  |agg (cs:List PV)
  |bp (cs:List PV)
  |iface (t:TypeId) (v:PV)
  |vec (es:List PV)
  |vp (cs:List PV)
  |az (es:List (PV×PV))
  |ptr (i off:Nat)
  |own (i off len k:Nat)
  |sub (i off len:Nat)
  |grow (i n:Nat) (nl:Bool)
  |aY (i:Nat)
  |bN (i:Nat)
  deriving Inhabited
def PV.cells:PV→List PV
 |.agg cs=>cs
 |v=>[v]
mutual
def PV.aB:PV→Bool
 |.func _ xs ys=>PV.aG xs&&PV.aG ys
 |.agg cs=>PV.aG cs
 |.bp cs=>PV.aG cs
 |.iface _ v=>v.aB
 |.ptr .. | .own .. | .sub .. | .grow .. | .aY .. | .bN ..=>false
 |_=>true
def PV.aG:List PV→Bool
 |[]=>true
 |v::r=>v.aB&&PV.aG r
end
mutual
def PV.dy:PV→Bool
 |.func _ xs ys=>PV.fW xs&&PV.fW ys
 |.agg cs=>PV.fW cs
 |.bp cs=>PV.fW cs
 |.iface _ v=>v.dy
 |.bool .. | .int .. | .str .. | .nilFunc|.nilIface|.eJ|.aF|.dj=>true
 |_=>false
def PV.fW:List PV→Bool
 |[]=>true
 |v::r=>v.dy&&PV.fW r
end
theorem PV.Dk:∀ {l:List PV} {i:Nat} {v:PV},PV.aG l=true→l[i]?=some v→v.aB=true
 |[],i,v,_,h=>by simp at h
 |u::r,i,v,ha,h=>by
  simp only[PV.aG,bR] at ha
  cases i with
  |zero=>simp at h;subst h;exact ha.1
  |succ i=>simp at h;exact PV.Dk ha.2 h
theorem PV.E4:∀ {l:List PV} {i:Nat} {v:PV},PV.fW l=true→l[i]?=some v→v.dy=true
 |[],i,v,_,h=>by simp at h
 |u::r,i,v,ha,h=>by
  simp only[PV.fW,bR] at ha
  cases i with
  |zero=>simp at h;subst h;exact ha.1
  |succ i=>simp at h;exact PV.E4 ha.2 h
theorem PV.Pp:∀ {l:List PV},(∀v∈l,v.aB=true)→PV.aG l=true
 |[],_=>rfl
 |v::r,h=>by simp only[PV.aG,bR];exact⟨h v (by simp),PV.Pp fun u hu=>h u (List.mem_cons_of_mem _ hu)⟩
abbrev Fz:=Nat→Option a7
inductive FR (g:Fz):PV→Value→Prop where
  |bool (b:Bool):FR g (.bool b) (.bool b)
  |int (k:IntKind) (n:Int):FR g (.int k n) (.int k n)
  |str (s:ByteArray):FR g (.str s) (.string s)
  |nilFunc:FR g .nilFunc .nilFunc
  |nilIface:FR g .nilIface .nilIface
  |eJ:FR g .eJ (.pointer none)
  |aF:FR g .aF (.slice none 0 0)
  |dj:FR g .dj (.map none)
  |tS:FR g .e0 (.slice none 0 0)
  |e0 (o off:Nat):FR g .e0 (.slice (some ⟨o,off,none⟩) 0 0)
  |func (f:FuncId) (xs ys:List PV) (bk dq:Array Value) (hx:xs.length=bk.size) (hy:ys.length=dq.size)
      (rx:∀(i:Nat) v v',xs[i]?=some v→bk[i]?=some v'→FR g v v') (ry:∀(i:Nat) v v',ys[i]?=some v→dq[i]?=some v'→FR g v v') :
      FR g (.func f xs ys) (.func (.func f) bk dq)
  |agg (cs:List PV) (ao:Array Value) (hs:cs.length=ao.size) (r:∀(i:Nat) v v',cs[i]?=some v→ao[i]?=some v'→FR g v v'):FR g (.agg cs) (.agg ao)
  |bp (cs:List PV) (ao:Array Value) (hs:cs.length=ao.size) (r:∀(i:Nat) v v',cs[i]?=some v→ao[i]?=some v'→FR g v v'):FR g (.bp cs) (.tuple ao)
  |iface (t:TypeId) (v:PV) (v':Value) (h:FR g v v'):FR g (.iface t v) (.iface t v')
  |fc:FR g (.vec []) (.slice none 0 0)
  |da (o off k:Nat):FR g (.vec []) (.slice (some ⟨o,off,none⟩) 0 k)
  |vec (es:List PV) (o off k s sz:Nat) (ao:List Value) (hk:es.length≤k) (dI:k+es.length<dC) (hg:g o=some (.cells s ao)) (h0:0<sz) (e8:∀(i:Nat) e,es[i]?=some e→e.cells.length=sz) (hlen:off+es.length*sz≤ao.length)
      (r:∀(i:Nat) e (j:Nat) v v',es[i]?=some e→e.cells[j]?=some v→ao[off+i*sz+j]?=some v'→FR g v v'):FR g (.vec es) (.slice (some ⟨o,off,none⟩) es.length k)
  |vp (cs:List PV) (o off s:Nat) (ao:List Value) (hg:g o=some (.cells s ao)) (hlen:off+cs.length≤ao.length)
      (r:∀(j:Nat) v v',cs[j]?=some v→ao[off+j]?=some v'→FR g v v'):FR g (.vp cs) (.pointer (some ⟨o,off,none⟩))
  |az (es:List (PV×PV)) (o:Nat) (bf:List (Value×Value)) (hg:g o=some (.map bf)) (hlen:es.length=bf.length)
      (rk:∀(j:Nat) p p',es[j]?=some p→bf[j]?=some p'→FR g p.1 p'.1) (rv:∀(j:Nat) p p',es[j]?=some p→bf[j]?=some p'→FR g p.2 p'.2):FR g (.az es) (.map (some o))
def Fz.le (g g':Fz):Prop:=∀o x,g o=some x→g' o=some x
theorem Fz.le_refl (g:Fz):g.le g:=fun _ _ h=>h
theorem Fz.le_trans {a b c:Fz}(h:a.le b)(h':b.le c):a.le c:=fun o x hx=>h' o x (h o x hx)
theorem FR.mono {g g':Fz}(hle:g.le g'){v:PV}{v':Value}(h:FR g v v'):FR g' v v':=by
 induction h with
 |bool b=>exact .bool b
 |int k n=>exact .int k n
 |str s=>exact .str s
 |nilFunc=>exact .nilFunc
 |nilIface=>exact .nilIface
 |eJ=>exact .eJ
 |aF=>exact .aF
 |dj=>exact .dj
 |tS=>exact .tS
 |e0 o off=>exact .e0 o off
 |func f xs ys bk dq hx hy _ _ rx ry=>exact .func f xs ys bk dq hx hy rx ry
 |agg cs ao hs _ r=>exact .agg cs ao hs r
 |bp cs ao hs _ r=>exact .bp cs ao hs r
 |iface t v v' _ ih=>exact .iface t v v' ih
 |fc=>exact .fc
 |da o off k=>exact .da o off k
 |vec es o off k s sz ao hk dI hg h0 e8 hlen _ r=>exact .vec es o off k s sz ao hk dI (hle _ _ hg) h0 e8 hlen r
 |vp cs o off s ao hg hlen _ r=>exact .vp cs o off s ao (hle _ _ hg) hlen r
 |az es o bf hg hlen _ _ rk rv=>exact .az es o bf (hle _ _ hg) hlen rk rv
abbrev Sg:=Nat→Nat×Nat×Nat
inductive VR (g:Fz) (σ:Sg) (n:Nat):PV→Value→Prop where
  |fr (v:PV) (v':Value) (h:FR g v v'):VR g σ n v v'
  |ptr (i off o a k:Nat) (hi:i<n) (h:σ i=(o,a,k)):VR g σ n (.ptr i off) (.pointer (some ⟨o,a+off,none⟩))
  |own (i off len k o a kk:Nat) (hi:i<n) (h:σ i=(o,a,kk)) (hl:len≤k) (hk:k<ar):VR g σ n (.own i off len k) (.slice (some ⟨o,a+off,none⟩) len k)
  |sub (i off len k o a kk:Nat) (hi:i<n) (h:σ i=(o,a,kk)) (hl:len≤k) (hk:k+len<dC):VR g σ n (.sub i off len) (.slice (some ⟨o,a+off,none⟩) len k)
  |bW (i:Nat) (nl:Bool):VR g σ n (.grow i 0 nl) (.slice none 0 0)
  |bX (i o off:Nat):VR g σ n (.grow i 0 false) (.slice (some ⟨o,off,none⟩) 0 0)
  |grow (i m o a k:Nat) (nl:Bool) (hi:i<n) (h:σ i=(o,a,k)) (hn:0<m):VR g σ n (.grow i m nl) (.slice (some ⟨o,a,none⟩) m k)
  |aY (i o a k:Nat) (hi:i<n) (h:σ i=(o,a,k)):VR g σ n (.aY i) (.map (some o))
  |bN (i o a k:Nat) (hi:i<n) (h:σ i=(o,a,k)):VR g σ n (.bN i) (.func (.yield o) #[] #[])
  |agg (cs:List PV) (ao:Array Value) (hs:cs.length=ao.size) (r:∀(i:Nat) v v',cs[i]?=some v→ao[i]?=some v'→VR g σ n v v'):VR g σ n (.agg cs) (.agg ao)
  |bp (cs:List PV) (ao:Array Value) (hs:cs.length=ao.size) (r:∀(i:Nat) v v',cs[i]?=some v→ao[i]?=some v'→VR g σ n v v'):VR g σ n (.bp cs) (.tuple ao)
  |func (f:FuncId) (xs ys:List PV) (bk dq:Array Value) (hx:xs.length=bk.size) (hy:ys.length=dq.size)
      (rx:∀(i:Nat) v v',xs[i]?=some v→bk[i]?=some v'→VR g σ n v v') (ry:∀(i:Nat) v v',ys[i]?=some v→dq[i]?=some v'→VR g σ n v v') :
      VR g σ n (.func f xs ys) (.func (.func f) bk dq)
theorem VR.mono {g g':Fz}{σ aL:Sg}{n n':Nat}(hle:g.le g')(hn:n≤n')(cp:∀i,i<n→aL i=σ i){v:PV}{v':Value}(h:VR g σ n v v'):VR g' aL n' v v':=by
 induction h with
 |fr v v' h=>exact .fr v v' (h.mono hle)
 |ptr i off o a k hi h=>exact .ptr i off o a k (by omega) ((cp i hi).trans h)
 |own i off len k o a kk hi h hl hk=>exact .own i off len k o a kk (by omega) ((cp i hi).trans h) hl hk
 |sub i off len k o a kk hi h hl hk=>exact .sub i off len k o a kk (by omega) ((cp i hi).trans h) hl hk
 |bW i nl=>exact .bW i nl
 |bX i o off=>exact .bX i o off
 |grow i m o a k nl hi h hn=>exact .grow i m o a k nl (by omega) ((cp i hi).trans h) hn
 |aY i o a k hi h=>exact .aY i o a k (by omega) ((cp i hi).trans h)
 |bN i o a k hi h=>exact .bN i o a k (by omega) ((cp i hi).trans h)
 |agg cs ao hs _ r=>exact .agg cs ao hs r
 |bp cs ao hs _ r=>exact .bp cs ao hs r
 |func f xs ys bk dq hx hy _ _ rx ry=>exact .func f xs ys bk dq hx hy rx ry
theorem PV.Pq {f:FuncId}{xs ys:List PV}:(PV.func f xs ys).aB=(PV.aG xs&&PV.aG ys):=by simp only[PV.aB]
theorem PV.Ky {cs:List PV}:(PV.agg cs).aB=PV.aG cs:=by simp only[PV.aB]
theorem PV.Pr {cs:List PV}:(PV.bp cs).aB=PV.aG cs:=by simp only[PV.aB]
theorem VR.aB {g:Fz}{σ:Sg}{n:Nat}{v:PV}{v':Value}(h:VR g σ n v v'):v.aB=true→FR g v v':=by
 induction h with
 |fr v v' h=>exact fun _=>h
 |ptr=>intro h;simp[PV.aB] at h
 |own=>intro h;simp[PV.aB] at h
 |sub=>intro h;simp[PV.aB] at h
 |bW=>intro h;simp[PV.aB] at h
 |bX=>intro h;simp[PV.aB] at h
 |grow=>intro h;simp[PV.aB] at h
 |aY=>intro h;simp[PV.aB] at h
 |bN=>intro h;simp[PV.aB] at h
 |agg cs ao hs _ r=>intro h;rw[PV.Ky] at h;exact .agg cs ao hs fun i v v' hv aX=>r i v v' hv aX (PV.Dk h hv)
 |bp cs ao hs _ r=>intro h;rw[PV.Pr] at h;exact .bp cs ao hs fun i v v' hv aX=>r i v v' hv aX (PV.Dk h hv)
 |func f xs ys bk dq hx hy _ _ rx ry=>intro h;rw[PV.Pq,bR] at h;exact .func f xs ys bk dq hx hy (fun i v v' hv aX=>rx i v v' hv aX (PV.Dk h.1 hv)) (fun i v v' hv aX=>ry i v v' hv aX (PV.Dk h.2 hv))
def bc (R:PV→Value→Prop)(l:List PV)(l':List Value):Prop:=l.length=l'.length∧∀(i:Nat) v v',l[i]?=some v→l'[i]?=some v'→R v v'
section
variable {R R':PV→Value→Prop}
theorem bc.mono (hm:∀v v',R v v'→R' v v'){l:List PV}{l':List Value}(h:bc R l l'):bc R' l l':=⟨h.1,fun i v v' a b=>hm _ _ (h.2 i v v' a b)⟩
theorem bc.nil:bc R [] []:=⟨rfl,fun i v v' h=>by simp at h⟩
theorem bc.cons {v:PV}{v':Value}{l:List PV}{l':List Value}(hv:R v v')(h:bc R l l'):bc R (v::l) (v'::l'):=by
 refine⟨by simp[h.1],fun i u u' hu qk=>?_⟩
 cases i with
 |zero=>simp at hu qk;subst hu;subst qk;exact hv
 |succ i=>simp at hu qk;exact h.2 i u u' hu qk
theorem bc.iP {l:List Value}(h:bc R [] l):l=[]:=by
 have:=h.1;simp at this;exact List.eq_nil_of_length_eq_zero this.symm
theorem bc.dt {v:PV}{l:List PV}{r:List Value}(h:bc R (v::l) r):∃v' l',r=v'::l'∧R v v'∧bc R l l':=by
 cases r with
 |nil=>have:=h.1;simp at this
 |cons v' l'=>exact⟨v',l',rfl,h.2 0 v v' (by simp) (by simp),by have:=h.1;simpa using this,fun i x x' hx tD=>h.2 (i+1) x x' (by simpa using hx) (by simpa using tD)⟩
theorem bc.get {l:List PV}{l':List Value}(h:bc R l l'){i:Nat}{v:PV}(hv:l[i]?=some v):∃v',l'[i]?=some v'∧R v v':=by
 have aU:i<l.length:=by
  rcases Nat.lt_or_ge i l.length with h|h
  ·exact h
  rw[List.getElem?_eq_none h] at hv;cases hv
 have:i<l'.length:=h.1▸aU
 exact⟨l'[i],by simp[this],h.2 i v _ hv (by simp[this])⟩
theorem bc.append {l r:List PV}{l' r':List Value}(h:bc R l l')(h2:bc R r r'):bc R (l++r) (l'++r'):=by
 refine⟨by simp[h.1,h2.1],fun i v v' hv aX=>?_⟩
 by_cases hi:i<l.length
 ·rw[List.getElem?_append_left hi] at hv
  rw[List.getElem?_append_left (by have:=h.1;omega)] at aX
  exact h.2 i v v' hv aX
 rw[List.getElem?_append_right (by omega)] at hv
 rw[List.getElem?_append_right (by have:=h.1;omega),← h.1] at aX
 exact h2.2 _ v v' hv aX
theorem bc.take {l:List PV}{l':List Value}(n:Nat)(h:bc R l l'):bc R (l.take n) (l'.take n):=by
 refine⟨by simp[h.1],fun i v v' hv aX=>?_⟩
 rw[List.getElem?_take] at hv aX
 split at hv
 ·rename_i aU;simp only[aU,if_true] at aX;exact h.2 i v v' hv aX
 simp at hv
theorem bc.drop {l:List PV}{l':List Value}(n:Nat)(h:bc R l l'):bc R (l.drop n) (l'.drop n):=by
 refine⟨by simp[h.1],fun i v v' hv aX=>?_⟩
 rw[List.getElem?_drop] at hv aX
 exact h.2 _ v v' hv aX
def jP (cs:List PV)(off:Nat)(vs:List PV):List PV:=cs.take off++vs++cs.drop (off+vs.length)
theorem bc.e9 {l r:List PV}{l' r':List Value}(off:Nat)(h:bc R l l')(h2:bc R r r'):bc R (jP l off r) (e9 l' off r'):=by
 unfold jP Go.Am.e9
 rw[h2.1]
 exact((h.take off).append h2).append (h.drop _)
theorem bc.aB {g:Fz}{σ:Sg}{n:Nat}{l:List PV}{l':List Value}(h:bc (VR g σ n) l l')(hf:PV.aG l=true):bc (FR g) l l':=⟨h.1,fun i v v' hv aX=>(h.2 i v v' hv aX).aB (PV.Dk hf hv)⟩
theorem bc.vr {g:Fz}{σ:Sg}{n:Nat}{l:List PV}{l':List Value}(h:bc (FR g) l l'):bc (VR g σ n) l l':=h.mono fun _ _ h=>.fr _ _ h
end
theorem FR.cells {g:Fz}{v:PV}{v':Value}(h:FR g v v'):bc (FR g) v.cells v'.cells.toList:=by
 cases h with
 |agg cs ao hs r=>exact⟨by simpa[PV.cells,Value.cells] using hs,fun i v v' hv aX=>r i v v' hv (by simpa[Value.cells] using aX)⟩
 |bool=>exact .cons (.bool _) .nil
 |int=>exact .cons (.int _ _) .nil
 |str=>exact .cons (.str _) .nil
 |nilFunc=>exact .cons .nilFunc .nil
 |nilIface=>exact .cons .nilIface .nil
 |eJ=>exact .cons .eJ .nil
 |aF=>exact .cons .aF .nil
 |dj=>exact .cons .dj .nil
 |tS=>exact .cons .tS .nil
 |e0 o off=>exact .cons (.e0 o off) .nil
 |func f xs ys bk dq hx hy rx ry=>exact .cons (.func f xs ys bk dq hx hy rx ry) .nil
 |bp cs ao hs r=>exact .cons (.bp cs ao hs r) .nil
 |iface t v v' h=>exact .cons (.iface t v v' h) .nil
 |fc=>exact .cons .fc .nil
 |da o off k=>exact .cons (.da o off k) .nil
 |vec es o off k s sz ao hk dI hg h0 e8 hlen r=>exact .cons (.vec es o off k s sz ao hk dI hg h0 e8 hlen r) .nil
 |vp cs o off s ao hg hlen r=>exact .cons (.vp cs o off s ao hg hlen r) .nil
 |az es o bf hg hlen rk rv=>exact .cons (.az es o bf hg hlen rk rv) .nil
theorem VR.cells {g:Fz}{σ:Sg}{n:Nat}{v:PV}{v':Value}(h:VR g σ n v v'):bc (VR g σ n) v.cells v'.cells.toList:=by
 cases h with
 |fr _ _ h=>exact h.cells.vr
 |agg cs ao hs r=>exact⟨by simpa[PV.cells,Value.cells] using hs,fun i v v' hv aX=>r i v v' hv (by simpa[Value.cells] using aX)⟩
 |ptr i off o a k hi h=>exact .cons (.ptr i off o a k hi h) .nil
 |own i off len k o a kk hi h hl hk=>exact .cons (.own i off len k o a kk hi h hl hk) .nil
 |sub i off len k o a kk hi h hl hk=>exact .cons (.sub i off len k o a kk hi h hl hk) .nil
 |bW i nl=>exact .cons (.bW i nl) .nil
 |bX i o off=>exact .cons (.bX i o off) .nil
 |grow i m o a k nl hi h hn=>exact .cons (.grow i m o a k nl hi h hn) .nil
 |aY i o a k hi h=>exact .cons (.aY i o a k hi h) .nil
 |bN i o a k hi h=>exact .cons (.bN i o a k hi h) .nil
 |bp cs ao hs r=>exact .cons (.bp cs ao hs r) .nil
 |func f xs ys bk dq hx hy rx ry=>exact .cons (.func f xs ys bk dq hx hy rx ry) .nil
def PV.one:PV→Bool
 |.agg _=>false
 |.bp _=>false
 |_=>true
theorem FR.one {g:Fz}{v:PV}{v':Value}(h:FR g v v'):v'.oneCell'=v.one:=by cases h<;>rfl
theorem VR.one {g:Fz}{σ:Sg}{n:Nat}{v:PV}{v':Value}(h:VR g σ n v v'):v'.oneCell'=v.one:=by
 cases h with
 |fr _ _ h=>exact h.one
 |_=>rfl
theorem bc.vd {g:Fz}{σ:Sg}{n:Nat}{l:List PV}{l':List Value}(h:bc (VR g σ n) l l')(ho:l.all PV.one=true):l'.all (·.oneCell')=true:=by
 rw[List.all_eq_true] at ho ⊢
 intro v' aX
 obtain⟨i,hi⟩:=List.getElem?_of_mem aX
 have aU:i<l'.length:=by
  rcases Nat.lt_or_ge i l'.length with h|h
  ·exact h
  rw[List.getElem?_eq_none h] at hi;cases hi
 have hl:i<l.length:=h.1▸aU
 rw[(h.2 i l[i] v' (by simp[hl]) hi).one]
 exact ho _ (List.getElem_mem hl)
inductive aI where
  |box (cs:List PV)
  |arr (ag:Bool) (sz:Nat) (cs:List PV)
  |grow (sz:Nat) (es:List PV)
  |map (es:List (PV×PV))
  |dz (es:List (PV×PV))
  |bJ (es:List PV)
  |emap (es:List (PV×PV)) (k:Value) (born:Nat)
  |loop (N:Nat) (ps:Array Tmp) (assign body:Code) (ab:List (Nat×PV)) (jump:Option Code)
  deriving Inhabited
structure ah where
  next:Nat
  be:List (Nat×aI)
def bh (i:Nat):List (Nat×aI)→Option aI
 |[]=>none
 |(j,x)::r=>bif Nat.beq i j then some x else bh i r
def ah.get (vh:ah)(i:Nat):Option aI:=bh i vh.be
def ah.alloc (vh:ah)(x:aI):ah:=⟨vh.next+1,(vh.next,x)::vh.be⟩
def dm (i:Nat)(x:aI):List (Nat×aI)→List (Nat×aI)
 |[]=>[]
 |(j,y)::r=>bif Nat.beq i j then (j,x)::dm i x r else (j,y)::dm i x r
def ah.put (vh:ah)(i:Nat)(x:aI):ah:=⟨vh.next,dm i x vh.be⟩
def iF (i:Nat):List (Nat×aI)→List (Nat×aI)
 |[]=>[]
 |(j,y)::r=>bif Nat.beq i j then iF i r else (j,y)::iF i r
def ah.drop (vh:ah)(i:Nat):ah:=⟨vh.next,iF i vh.be⟩
def ah.empty:ah:=⟨0,[]⟩
theorem beq_eq (i j:Nat):Nat.beq i j=decide (i=j):=by rw[Bool.eq_iff_iff];simp
theorem Ps (i j:Nat)(x:aI):∀l,bh j (dm i x l)=if j=i then (bh i l).map (fun _=>x) else bh j l
 |[]=>by simp[dm,bh]
 |(k,y)::r=>by
  have ih:=Ps i j x r
  simp only[dm,beq_eq]
  by_cases yx:i=k
  ·subst yx
   simp only[decide_true,aJ,bh,beq_eq,ih]
   by_cases gP:j=i<;>simp[gP]
  simp only[yx,decide_false,bl,bh,beq_eq,ih]
  by_cases tU:j=k
  ·subst tU
   have:¬j=i:=fun h=>yx h.symm
   simp[this]
  by_cases gP:j=i
  ·subst gP;simp[tU]
  simp[tU,gP]
theorem Kz (i j:Nat):∀l,bh j (iF i l)=if j=i then none else bh j l
 |[]=>by simp[iF,bh]
 |(k,y)::r=>by
  have ih:=Kz i j r
  simp only[iF,beq_eq]
  by_cases yx:i=k
  ·subst yx
   simp only[decide_true,aJ,bh,beq_eq,ih]
   by_cases gP:j=i<;>simp[gP]
  simp only[yx,decide_false,bl,bh,beq_eq,ih]
  by_cases tU:j=k
  ·subst tU
   have:¬j=i:=fun h=>yx h.symm
   simp[this]
  simp[tU]
theorem ah.gX (vh:ah)(x:aI)(j:Nat):(vh.alloc x).get j=if j=vh.next then some x else vh.get j:=by
 simp only[ah.get,ah.alloc,bh,beq_eq]
 by_cases h:j=vh.next<;>simp[h]
theorem ah.dB (vh:ah)(i j:Nat)(x y:aI)(hy:vh.get i=some y):(vh.put i x).get j=if j=i then some x else vh.get j:=by
 have hy:bh i vh.be=some y:=hy
 simp only[ah.get,ah.put,Ps,hy,Option.map_some]
theorem ah.KA (vh:ah)(i j:Nat):(vh.drop i).get j=if j=i then none else vh.get j:=by
 simp only[ah.get,ah.drop,Kz]
def aI.live:aI→Bool
 |.grow _ []=>false
 |_=>true
abbrev aW:=List (Nat×PV)
def bS (t:Nat):aW→Option PV
 |[]=>none
 |(u,v)::r=>bif Nat.beq t u then some v else bS t r
def VT (g:Fz)(σ:Sg)(n:Nat)(ab:aW)(ts:aC):Prop:=∀t v,bS t ab=some v→VR g σ n v (ts.getD t Go.undef)
def rN (g:Fz)(σ:Sg)(n:Nat)(h:ae)(i:Nat):aI→Prop
 |.box cs=>∃s ao,h.get (σ i).1=some (.cells s ao)∧(σ i).2.1=0∧bc (VR g σ n) cs ao
 |.arr _ sz cs=>0<sz∧∃s ao,h.get (σ i).1=some (.cells s ao)∧(σ i).2.1=0∧bc (FR g) cs ao
 | .grow sz es => 0 < sz ∧ (∀ e ∈ es, e.cells.length = sz) ∧ es.length < ar ∧ (es = [] ∨ ∃ s ao, h.get (σ i).1 = some (.cells s ao) ∧ (σ i).2.1 = 0 ∧ bc (FR g) (es.flatMap PV.cells) ao ∧
  ((σ i).2.2=ar∧s=sz∨(σ i).2.2=es.length))
 |.map es=>∃bf,h.get (σ i).1=some (.map bf)∧(σ i).2.1=0∧bc (FR g) (es.map (·.1)) (bf.map (·.1))∧bc (FR g) (es.map (·.2)) (bf.map (·.2))
 |.dz es=>∃bf,h.get (σ i).1=some (.map bf)∧(σ i).2.1=0∧bc (FR g) (es.map (·.1)) (bf.map (·.1))∧bc (VR g σ n) (es.map (·.2)) (bf.map (·.2))
 |.bJ es=>es≠[]∧(∀e∈es,e.cells=[e])∧es.length<ar∧∃s ao,h.get (σ i).1=some (.cells s ao)∧(σ i).2.1=0∧bc (VR g σ n) es ao∧((σ i).2.2=ar∧s=1∨(σ i).2.2=es.length)
 |.emap es k born=>∃bf,h.get (σ i).1=some (.emap bf k born)∧(σ i).2.1=0∧bc (FR g) (es.map (·.1)) (bf.map (·.1))∧bc (FR g) (es.map (·.2)) (bf.map (·.2))
 |.loop N ps a bd ab jump=>∃L,h.get (σ i).1=some (.loop L jump)∧L.params=ps∧L.assign=a∧L.body=bd∧L.ts.length=N∧VT g σ n ab L.ts
structure VS (lo:Nat) (g:Fz) (σ:Sg) (vh:ah) (h:ae):Prop where
  obj:∀i x,vh.get i=some x→i<vh.next∧rN g σ vh.next h i x
  inj:∀i j x y,vh.get i=some x→vh.get j=some y→x.live=true→y.live=true→(σ i).1=(σ j).1→i=j
  low:∀i x,vh.get i=some x→x.live=true→lo≤(σ i).1
  fz:∀o x,g o=some x→h.get o=some x
  iG:∀i x,vh.get i=some x→x.live=true→g (σ i).1=none
  bA:lo≤h.next
theorem VT.mono {g g':Fz}{σ aL:Sg}{n n':Nat}(hle:g.le g')(hn:n≤n')(cp:∀i,i<n→aL i=σ i){ab:aW}{ts:aC}(h:VT g σ n ab ts):VT g' aL n' ab ts:=fun t v hv=>(h t v hv).mono hle hn cp
structure VF (σ:Sg) (vh:ah) (h:ae) (aL:Sg) (ak:ah) (h':ae):Prop where
  next:h.next≤h'.next
  fe:∀o,o<h.next→(∀i x,vh.get i=some x→x.live=true→(σ i).1≠o)→h'.get o=h.get o
  own:∀i x,ak.get i=some x→x.live=true→(aL i).1<h.next→∃j y,vh.get j=some y∧y.live=true∧(σ j).1=(aL i).1
theorem VF.refl (σ:Sg)(vh:ah)(h:ae):VF σ vh h σ vh h:=⟨Nat.le_refl _,fun _ _ _=>rfl,fun i x hx hl _=>⟨i,x,hx,hl,rfl⟩⟩
theorem VF.trans {σ oT dp:Sg}{vh b6 aQ:ah}{h h1 h2:ae}(a:VF σ vh h oT b6 h1)(b:VF oT b6 h1 dp aQ h2):VF σ vh h dp aQ h2 where
  next:=Nat.le_trans a.next b.next
  fe o ho hn:=by
    rw[b.fe o (Nat.lt_of_lt_of_le ho a.next) (fun i x hx hl he=>?_),a.fe o ho hn]
    obtain⟨j,y,hj,Bd,rG⟩:=a.own i x hx hl (he▸ho)
    exact hn j y hj Bd (rG.trans he)
  own i x hx hl aU:=by
    obtain⟨j,y,hj,Bd,rG⟩:=b.own i x hx hl (Nat.lt_of_lt_of_le aU a.next)
    obtain⟨k,z,hk,BB,rO⟩:=a.own j y hj Bd (rG▸aU)
    exact⟨k,z,hk,BB,rO.trans rG⟩
def pG:Value→Option PV
 |.bool b=>some (.bool b)
 |.int k n=>some (.int k n)
 |.string s=>some (.str s)
 |.nilFunc=>some .nilFunc
 |.nilIface=>some .nilIface
 |.pointer none=>some .eJ
 |.slice none 0 0=>some .aF
 |.map none=>some .dj
 |_=>none
def fX:List Value→Option (List PV)
 |[]=>some []
 |v::r=>match pG v,fX r with
  |some p,some l=>some (p::l)
  |_,_=>none
def bo:Value→Option PV
 |.agg cs=>(fX cs.toList).map .agg
 |.tuple cs=>(fX cs.toList).map .bp
 |v=>pG v
theorem Pt {g:Fz}{v:Value}{p:PV}(h:pG v=some p):FR g p v∧tF v=true:=by
 unfold pG at h
 split at h<;>first|cases h;done|(injection h with h;subst h;first|exact⟨.bool _,rfl⟩|exact⟨.int _ _,rfl⟩|exact⟨.str _,rfl⟩|exact⟨.nilFunc,rfl⟩|exact⟨.nilIface,rfl⟩|exact⟨.eJ,rfl⟩|exact⟨.aF,rfl⟩|exact⟨.dj,rfl⟩)
theorem HX {g:Fz}:∀ {l:List Value} {ps:List PV},fX l=some ps→bc (FR g) ps l∧l.all tF=true
 |[],ps,h=>by simp only[fX,ax] at h;subst h;exact⟨.nil,rfl⟩
 |v::r,ps,h=>by
  simp only[fX] at h
  split at h
  ·rename_i p l h1 h2
   injection h with h;subst h
   have ih:=HX (g:=g) h2
   have h3:=Pt (g:=g) h1
   exact⟨.cons h3.1 ih.1,by simp[h3.2,ih.2]⟩
  cases h
theorem yz {g:Fz}{v:Value}{p:PV}(h:bo v=some p):FR g p v∧kB v=true:=by
 unfold bo at h
 split at h
 ·obtain⟨l,h1,rfl⟩:=cZ h
  have:=HX (g:=g) h1
  exact⟨.agg _ _ (by simpa using this.1.1) (fun i v v' hv aX=>this.1.2 i v v' hv (by simpa using aX)),this.2⟩
 ·obtain⟨l,h1,rfl⟩:=cZ h
  have:=HX (g:=g) h1
  exact⟨.bp _ _ (by simpa using this.1.1) (fun i v v' hv aX=>this.1.2 i v v' hv (by simpa using aX)),this.2⟩
 rename_i hx hy
 have:=Pt (g:=g) h
 refine⟨this.1,?_⟩
 unfold kB
 split
 ·exact absurd rfl (hx _)
 ·exact absurd rfl (hy _)
 exact this.2
def cF (ab:aW):Operand→Option PV
 |.tmp t=>bS t ab
 |.const v=>bo v
 |.func f=>some (.func f [] [])
 |.global _=>none
section
variable {P:Program} {lo:Nat} {g:Fz} {σ:Sg} {vh:ah} {h:ae} {ab:aW} {ts:aC}
theorem eh {n:Nat}(ht:VT g σ n ab ts){x:Operand}{v:PV}(hv:cF ab x=some v):∃v',cI ts x=some v'∧VR g σ n v v':=by
 cases x with
 |tmp t=>exact⟨_,rfl,ht t v hv⟩
 |const u=>
  have:=yz (g:=g) hv
  exact⟨u,by simp[cI,this.2],.fr _ _ this.1⟩
 |func f=>
  simp only[cF,ax] at hv;subst hv
  exact⟨_,rfl,.fr _ _ (.func f [] [] #[] #[] rfl rfl (fun i v v' h=>by simp at h) (fun i v v' h=>by simp at h))⟩
 |global=>simp[cF] at hv
def iX (ab:aW):List Operand→Option (List PV)
 |[]=>some []
 |x::r=>match cF ab x,iX ab r with
  |some v,some l=>some (v::l)
  |_,_=>none
theorem yA {n:Nat}(ht:VT g σ n ab ts):∀ {xs:List Operand} {l:List PV},iX ab xs=some l→∃l',ns ts xs=some l'∧bc (VR g σ n) l l'
 |[],l,h=>by simp only[iX,ax] at h;subst h;exact⟨[],rfl,.nil⟩
 |x::r,l,h=>by
  simp only[iX] at h
  split at h
  ·rename_i v l1 h1 h2
   injection h with h;subst h
   obtain⟨v',k1,k2⟩:=eh ht h1
   obtain⟨l',k3,k4⟩:=yA ht h2
   exact⟨v'::l',by simp[ns,k1,k3],.cons k2 k4⟩
  cases h
def ny (ab:aW):List (Nat×Operand)→Option (List (Nat×PV))
 |[]=>some []
 |(i,x)::r=>match cF ab x,ny ab r with
  |some v,some l=>some ((i,v)::l)
  |_,_=>none
def HY (R:PV→Value→Prop)(l:List (Nat×PV))(l':List (Nat×Value)):Prop:=l.map (·.1)=l'.map (·.1)∧bc R (l.map (·.2)) (l'.map (·.2))
theorem HZ {n:Nat}(ht:VT g σ n ab ts):∀ {xs:List (Nat×Operand)} {l:List (Nat×PV)},ny ab xs=some l→∃l',tM ts xs=some l'∧HY (VR g σ n) l l'
 |[],l,h=>by simp only[ny,ax] at h;subst h;exact⟨[],rfl,rfl,.nil⟩
 |(i,x)::r,l,h=>by
  simp only[ny] at h
  split at h
  ·rename_i v l1 h1 h2
   injection h with h;subst h
   obtain⟨v',k1,k2⟩:=eh ht h1
   obtain⟨l',k3,k4,k5⟩:=HZ ht h2
   exact⟨(i,v')::l',by simp[tM,k1,k3],by simp[k4],.cons k2 k5⟩
  cases h
def gp:PV→Option Value
 |.bool b=>some (.bool b)
 |.int k n=>some (.int k n)
 |.str s=>some (.string s)
 |.nilFunc=>some .nilFunc
 |.nilIface=>some .nilIface
 |.eJ=>some (.pointer none)
 |.aF=>some (.slice none 0 0)
 |.dj=>some (.map none)
 |_=>none
def fY:List PV→Option (List Value)
 |[]=>some []
 |v::r=>match gp v,fY r with
  |some p,some l=>some (p::l)
  |_,_=>none
def nz:PV→Option Value
 |.agg cs=>(fY cs).map fun l=>.agg l.toArray
 |v=>gp v
theorem Pu {v:PV}{v' x:Value}(hv:FR g v v')(h:gp v=some x):v'=x:=by
 unfold gp at h
 split at h<;>first|cases h;done|(injection h with h;subst h;cases hv;rfl)
theorem Pv:∀ {l:List PV} {l' xs:List Value},bc (FR g) l l'→fY l=some xs→l'=xs
 |[],l',xs,hl,h=>by simp only[fY,ax] at h;subst h;exact hl.iP
 |v::r,l',xs,hl,h=>by
  simp only[fY] at h
  split at h
  ·rename_i p l h1 h2
   injection h with h;subst h
   obtain⟨v',r',rfl,k1,k2⟩:=hl.dt
   rw[Pu k1 h1,Pv k2 h2]
  cases h
theorem Pw {v:PV}{x:Value}(h:gp v=some x):v.aB=true:=by
 unfold gp at h
 split at h<;>first|cases h;done|simp[PV.aB]
theorem Px:∀ {l:List PV} {xs:List Value},fY l=some xs→PV.aG l=true
 |[],_,_=>rfl
 |v::r,xs,h=>by
  simp only[fY] at h
  split at h
  ·rename_i h1 h2
   simp[PV.aG,Pw h1,Px h2]
  cases h
theorem E5 {n:Nat}{v:PV}{v' x:Value}(hv:VR g σ n v v')(h:nz v=some x):v'=x:=by
 unfold nz at h
 split at h
 ·obtain⟨l,h1,rfl⟩:=cZ h
  have hf:=hv.aB (by rw[PV.Ky];exact Px h1)
  cases hf with
  |agg cs ao hs r=>
   have:=Pv (g:=g) (l':=ao.toList) ⟨by simpa using hs,fun i v v' hv aX=>r i v v' hv (by simpa using aX)⟩ h1
   rw[← this]
 exact Pu (hv.aB (Pw h)) h
def iH (lo:Nat)(g:Fz)(σ:Sg)(vh:ah)(h:ae)(v:PV)(ak:ah)(v':Value)(h':ae):Prop:=
 ∃aL,VR g aL ak.next v v'∧VS lo g aL ak h'∧VF σ vh h aL ak h'∧vh.next≤ak.next∧∀i,i<vh.next→aL i=σ i
theorem iH.same {v:PV}{v':Value}(s:VS lo g σ vh h)(hv:VR g σ vh.next v v'):iH lo g σ vh h v vh v' h:=
 ⟨σ,hv,s,VF.refl _ _ _,Nat.le_refl _,fun _ _=>rfl⟩
def rP:PV→Option Bool
 |.vp _=>some false
 |.ptr _ _=>some false
 |_=>none
def rQ:PV→Option Bool
 |.vec (_::_)=>some false
 |.own _ _ _ _=>some false
 |.sub _ _ _=>some false
 |.grow _ n true=>some (Nat.beq n 0)
 |.grow _ (_+1) false=>some false
 |_=>none
def oc (P:Program)(t:TypeId)(a b:PV):Option Bool:=
 match b,P.underlying t with
 |.eJ,some (.pointer _)=>rP a
 |.aF,some (.slice _)=>rQ a
 |_,_=>none
def iY (P:Program)(op:BinOp)(t:TypeId)(a b:PV):Option PV:=
 match nz a,nz b with
 |some x,some y=>(lV P op t x y).bind bo
 |_,_=>match op with
  |.eql=>(oc P t a b).map .bool
  |.neq=>(oc P t a b).map fun r=>.bool !r
  |_=>none
theorem Py {n:Nat}{t:TypeId}{a b:PV}{a' b':Value}{r:Bool}(ha:VR g σ n a a')(hb:VR g σ n b b')(hq:oc P t a b=some r):dx P t a' b'=some r:=by
 unfold oc at hq
 split at hq
 ·rename_i hu
  have:=hb.aB rfl;cases this
  unfold rP at hq
  split at hq
  ·injection hq with hq;subst hq
   have:=ha.aB rfl;cases this;simp[dx,hu]
  ·injection hq with hq;subst hq
   cases ha with
   |fr _ _ h=>cases h
   |ptr=>simp[dx,hu]
  cases hq
 ·rename_i hu
  have:=hb.aB rfl;cases this
  unfold rQ at hq
  split at hq
  ·injection hq with hq;subst hq
   have:=ha.aB rfl;cases this;simp[dx,hu]
  ·injection hq with hq;subst hq
   cases ha with
   |fr _ _ h=>cases h
   |own=>simp[dx,hu]
  ·injection hq with hq;subst hq
   cases ha with
   |fr _ _ h=>cases h
   |sub=>simp[dx,hu]
  ·injection hq with hq;subst hq
   cases ha with
   |fr _ _ h=>cases h
   |bW=>simp[dx,hu]
   |grow i m o a k nl hi h hn=>
    simp only[dx,hu,beq_eq]
    simp
    omega
  ·injection hq with hq;subst hq
   cases ha with
   |fr _ _ h=>cases h
   |grow i m o a k nl hi h hn=>simp[dx,hu]
  cases hq
 cases hq
theorem KB {t:TypeId}{a b:Value}{r:Bool}(h:dx P t a b=some r)(h1:∀k x k' y,¬(a=.int k x∧b=.int k' y))(h2:∀x y,¬(a=.string x∧b=.string y)) :
  lV P .eql t a b=some (.bool r)∧lV P .neq t a b=some (.bool !r):=by
 constructor
 ·unfold lV
  split<;>first|(simp_all;done)|(simp[dx] at h;done)
 unfold lV
 split<;>first|(simp_all;done)|(simp[dx] at h;done)
theorem H3 {n:Nat}{t:TypeId}{a b:PV}{b':Value}{r:Bool}(hb:VR g σ n b b')(hq:oc P t a b=some r):b'=.pointer none∨b'=.slice none 0 0:=by
 unfold oc at hq
 split at hq
 ·have:=hb.aB rfl;cases this;exact .inl rfl
 ·have:=hb.aB rfl;cases this;exact .inr rfl
 cases hq
theorem W0 {n:Nat}{op:BinOp}{t:TypeId}{a b v:PV}{a' b':Value}(ha:VR g σ n a a')(hb:VR g σ n b b')(hv:iY P op t a b=some v):∃v',lV P op t a' b'=some v'∧FR g v v':=by
 unfold iY at hv
 split at hv
 ·rename_i x y h1 h2
  rw[E5 ha h1,E5 hb h2]
  cases h3:lV P op t x y with
  |none=>rw[h3] at hv;cases hv
  |some u=>rw[h3] at hv;exact⟨u,rfl,(yz hv).1⟩
 split at hv
 ·obtain⟨r,h1,rfl⟩:=cZ hv
  have:=Py ha hb h1
  refine⟨_,(KB this ?_ ?_).1,.bool _⟩
  ·rintro k x k' y ⟨_,rfl⟩;rcases H3 hb h1 with h|h<;>cases h
  rintro x y ⟨_,rfl⟩;rcases H3 hb h1 with h|h<;>cases h
 ·obtain⟨r,h1,rfl⟩:=cZ hv
  have:=Py ha hb h1
  refine⟨_,(KB this ?_ ?_).2,.bool _⟩
  ·rintro k x k' y ⟨_,rfl⟩;rcases H3 hb h1 with h|h<;>cases h
  rintro x y ⟨_,rfl⟩;rcases H3 hb h1 with h|h<;>cases h
 cases hv
def pH (P:Program)(t:TypeId)(cs:List PV)(off n:Nat):Option PV:=
 match bB P t with
 |some true=>bif Nat.ble (off+n) cs.length then some (.agg ((cs.drop off).take n)) else none
 |some false=>cs[off]?
 |none=>none
theorem Dl {n:Nat}{cs:List PV}{ao:List Value}(h:bc (VR g σ n) cs ao):VR g σ n (.agg cs) (.agg ao.toArray):=
 .agg _ _ (by simpa using h.1) fun i v v' hv aX=>h.2 i v v' hv (by simpa using aX)
theorem Pz {n m:Nat}{t:TypeId}{cs:List PV}{ao:List Value}{off:Nat}{v:PV}(h:bc (VR g σ n) cs ao)(hv:pH P t cs off m=some v):∃v',apart P t ao off m=some v'∧VR g σ n v v':=by
 unfold pH at hv
 unfold apart
 split at hv
 ·rename_i hg
  cases hb:Nat.ble (off+m) cs.length with
  |false=>rw[hb] at hv;cases hv
  |true=>
   rw[hb] at hv;simp only[aJ,ax] at hv;subst hv
   rw[h.1] at hb
   exact⟨_,by simp[hg,hb],Dl ((h.drop off).take m)⟩
 ·rename_i hg
  obtain⟨v',h1,h2⟩:=h.get hv
  exact⟨v',by simp[hg,h1],h2⟩
 cases hv
theorem KC {n:Nat}{cs:List PV}{v':Value}(h:VR g σ n (.agg cs) v'):∃ao:Array Value,v'=.agg ao∧bc (VR g σ n) cs ao.toList:=by
 cases h with
 |fr _ _ h=>cases h with
  |agg _ ao hs r=>exact⟨ao,rfl,by simpa using hs,fun i v v' hv aX=>.fr _ _ (r i v v' hv (by simpa using aX))⟩
 |agg _ ao hs r=>exact⟨ao,rfl,by simpa using hs,fun i v v' hv aX=>r i v v' hv (by simpa using aX)⟩
theorem KD {n:Nat}{cs:List PV}{v':Value}(h:VR g σ n (.bp cs) v'):∃ao:Array Value,v'=.tuple ao∧bc (VR g σ n) cs ao.toList:=by
 cases h with
 |fr _ _ h=>cases h with
  |bp _ ao hs r=>exact⟨ao,rfl,by simpa using hs,fun i v v' hv aX=>.fr _ _ (r i v v' hv (by simpa using aX))⟩
 |bp _ ao hs r=>exact⟨ao,rfl,by simpa using hs,fun i v v' hv aX=>r i v v' hv (by simpa using aX)⟩
def qq (P:Program)(t:TypeId)(x:PV)(f:Nat):Option PV:=
 match x,dL P t f with
 |.agg cs,some (ty,off,n)=>pH P ty cs off n
 |_,_=>none
theorem W2 {n:Nat}{t:TypeId}{x v:PV}{x':Value}{f:Nat}(hx:VR g σ n x x')(hv:qq P t x f=some v):∃v',Eo P t x' f=some v'∧VR g σ n v v':=by
 unfold qq at hv
 split at hv
 ·rename_i hf
  obtain⟨ao,rfl,hc⟩:=KC hx
  obtain⟨v',h1,h2⟩:=Pz hc hv
  exact⟨v',by simp[Eo,hf,h1],h2⟩
 cases hv
def fw (n:Int)(len:Nat):Option Nat:=if 0≤n∧n<len then some n.toNat else none
theorem Dm (n:Int)(len:Nat):within n len=fw n len:=by
 unfold within fw
 cases n with
 |ofNat k=>
  simp only[Int.ofNat_eq_natCast]
  by_cases h:k<len
  ·have:Nat.blt k len=true:=by rw[Nat.blt_eq];exact h
   simp[this,h]
  have:Nat.blt k len=false:=by rw[← Bool.not_eq_true,Nat.blt_eq];exact h
  simp[this,h]
 |negSucc k=>simp
def qt (P:Program)(t:TypeId)(x i:PV):Option PV:=
 match x,i with
 |.agg cs,.int _ n=>
  match gY P t with
  |some (len,e,sz)=>match fw n len with
   |some k=>pH P e cs (k*sz) sz
   |none=>none
  |none=>none
 |.str s,.int k n=>(AU P t (.string s) (.int k n)).bind bo
 |_,_=>none
theorem W3 {n:Nat}{t:TypeId}{x i v:PV}{x' i':Value}(hx:VR g σ n x x')(hi:VR g σ n i i')(hv:qt P t x i=some v):∃v',AU P t x' i'=some v'∧VR g σ n v v':=by
 unfold qt at hv
 split at hv
 ·rename_i k m
  have:=hi.aB rfl;cases this
  obtain⟨ao,rfl,hc⟩:=KC hx
  split at hv
  ·rename_i ha
   split at hv
   ·rename_i hw
    obtain⟨v',h1,h2⟩:=Pz hc hv
    exact⟨v',by simp[AU,ha,Dm,hw,h1],h2⟩
   cases hv
  cases hv
 ·have:=hi.aB rfl;cases this
  have:=hx.aB rfl;cases this
  rename_i s k m
  cases h3:AU P t (.string s) (.int k m) with
  |none=>rw[h3] at hv;cases hv
  |some u=>rw[h3] at hv;exact⟨u,rfl,.fr _ _ (yz hv).1⟩
 cases hv
def qu (x:PV)(i:Nat):Option PV:=
 match x with
 |.bp vs=>vs[i]?
 |_=>none
theorem W4 {n:Nat}{x v:PV}{x':Value}{i:Nat}(hx:VR g σ n x x')(hv:qu x i=some v):∃v',Ep x' i=some v'∧VR g σ n v v':=by
 unfold qu at hv
 split at hv
 ·obtain⟨ao,rfl,hc⟩:=KD hx
  obtain⟨v',h1,h2⟩:=hc.get hv
  exact⟨v',by simpa[Ep] using h1,h2⟩
 cases hv
def qv (P:Program)(s:TypeId)(p:PV)(f:Nat):Option PV:=
 match p,dL P s f with
 |.ptr i off,some (_,fo,n)=>bif Nat.beq n 0 then none else some (.ptr i (off+fo))
 |.vp cs,some (_,fo,n)=>bif Nat.beq n 0||!Nat.ble fo cs.length then none else some (.vp (cs.drop fo))
 |_,_=>none
theorem KE {cs:List PV}{o off s:Nat}{ao:List Value}(hg:g o=some (.cells s ao))(hlen:off+cs.length≤ao.length)(r:∀(j:Nat) v v',cs[j]?=some v→ao[off+j]?=some v'→FR g v v'){k:Nat}(hk:k≤cs.length) :
  FR g (.vp (cs.drop k)) (.pointer (some ⟨o,off+k,none⟩)):=
 .vp _ o (off+k) s ao hg (by simp;omega) fun j v v' hv aX=>r (k+j) v v' (by rw[List.getElem?_drop] at hv;exact hv) (by rw[show off+(k+j)=off+k+j by omega];exact aX)
theorem W5 {n:Nat}{t:TypeId}{p v:PV}{p':Value}{f:Nat}(hp:VR g σ n p p')(hv:qv P t p f=some v):∃v',CY P t p' f=some v'∧VR g σ n v v':=by
 unfold qv at hv
 split at hv
 ·rename_i i off ty fo m hf
  cases hb:Nat.beq m 0 with
  |true=>rw[hb] at hv;cases hv
  |false=>
   rw[hb] at hv;simp only[bl,ax] at hv;subst hv
   cases hp with
   |fr _ _ h=>cases h
   |ptr _ _ o a k hi hs=>
    exact⟨_,by simp only[CY,hf,hb,bl];rfl,by have:=VR.ptr (g:=g) i (off+fo) o a k hi hs;rwa [show a+(off+fo)=a+off+fo by omega] at this⟩
 ·rename_i cs ty fo m hf
  cases hb:Nat.beq m 0 with
  |true=>rw[hb] at hv;cases hv
  |false=>
   cases hc:Nat.ble fo cs.length with
   |false=>rw[hb,hc] at hv;cases hv
   |true=>
    rw[hb,hc] at hv;simp only[Bool.not_true,Bool.or_false,bl,ax] at hv;subst hv
    have:=hp.aB rfl
    cases this with
    |vp _ o off s ao hg hlen r=>
     exact⟨_,by simp only[CY,hf,hb,bl],.fr _ _ (KE hg hlen r (by simpa using hc))⟩
 cases hv
def qw (P:Program)(t:TypeId)(x i:PV):Option PV:=
 match x,i with
 |.vec es,.int _ n=>
  match fS P t,fw n es.length with
  |some (_,sz),some k=>match es[k]? with
   |some e=>bif Nat.beq e.cells.length sz then some (.vp e.cells) else none
   |none=>none
  |_,_=>none
 |.own i off len _,.int _ n=>
  match fS P t,fw n len with
  |some (_,sz),some k=>some (.ptr i (off+k*sz))
  |_,_=>none
 |.sub i off len,.int _ n=>
  match fS P t,fw n len with
  |some (_,sz),some k=>some (.ptr i (off+k*sz))
  |_,_=>none
 |.ptr i off,.int _ n=>
  match gY P t with
  |some (len,_,sz)=>match fw n len with
   |some k=>some (.ptr i (off+k*sz))
   |none=>none
  |none=>none
 |.grow i m _,.int _ n=>
  match fS P t,fw n m with
  |some (_,sz),some k=>some (.ptr i (k*sz))
  |_,_=>none
 |_,_=>none
theorem W6 {es:List PV}{o off k s sz:Nat}{ao:List Value}(hg:g o=some (.cells s ao))(e8:∀(i:Nat) e,es[i]?=some e→e.cells.length=sz)(hlen:off+es.length*sz≤ao.length)
  (r:∀(i:Nat) e (j:Nat) v v',es[i]?=some e→e.cells[j]?=some v→ao[off+i*sz+j]?=some v'→FR g v v') {e:PV} (he:es[k]?=some e):FR g (.vp e.cells) (.pointer (some ⟨o,off+k*sz,none⟩)):=by
 have hk:k<es.length:=by
  rcases Nat.lt_or_ge k es.length with h|h
  ·exact h
  rw[List.getElem?_eq_none h] at he;cases he
 refine .vp _ o _ s ao hg ?_ (fun j v v' hv aX=>r k e j v v' he hv aX)
 rw[e8 k e he]
 have h1:k*sz+sz≤es.length*sz:=by rw[← Nat.succ_mul];exact Nat.mul_le_mul_right _ hk
 omega
theorem W7 {n:Nat}{t:TypeId}{x i v:PV}{x' i':Value}(hx:VR g σ n x x')(hi:VR g σ n i i')(hv:qw P t x i=some v):∃v',x5 P t x' i'=some v'∧VR g σ n v v':=by
 unfold qw at hv
 split at hv
 ·rename_i es k m
  have:=hi.aB rfl;cases this
  split at hv
  ·rename_i ty sz q ht hw
   split at hv
   ·rename_i e he
    cases hb:Nat.beq e.cells.length sz with
    |false=>rw[hb] at hv;cases hv
    |true=>
     rw[hb] at hv;simp only[aJ,ax] at hv;subst hv
     have hb:e.cells.length=sz:=by simpa using hb
     have:=hx.aB rfl
     cases this with
     |fc=>simp at he
     |da=>simp at he
     |vec _ o off k0 s H4 ao hk dI hg h0 e8 hlen r=>
      have:H4=sz:=by rw[← e8 q e he,hb]
      subst this
      exact⟨_,by simp only[x5,ht,Dm,hw],.fr _ _ (W6 hg e8 hlen r he)⟩
   cases hv
  cases hv
 ·rename_i i0 off len k0 k m
  have:=hi.aB rfl;cases this
  split at hv
  ·rename_i ty sz q ht hw
   injection hv with hv;subst hv
   cases hx with
   |fr _ _ h=>cases h
   |own _ _ _ _ o a kk hi hs hl hk=>
    exact⟨.pointer (some ⟨o,a+off+q*sz,none⟩),by simp only[x5,ht,Dm,hw],by have:=VR.ptr (g:=g) i0 (off+q*sz) o a kk hi hs;rwa [show a+(off+q*sz)=a+off+q*sz by omega] at this⟩
  cases hv
 ·rename_i i0 off len k m
  have:=hi.aB rfl;cases this
  split at hv
  ·rename_i ty sz q ht hw
   injection hv with hv;subst hv
   cases hx with
   |fr _ _ h=>cases h
   |sub _ _ _ _ o a kk hi hs hl hk=>
    exact⟨.pointer (some ⟨o,a+off+q*sz,none⟩),by simp only[x5,ht,Dm,hw],by have:=VR.ptr (g:=g) i0 (off+q*sz) o a kk hi hs;rwa [show a+(off+q*sz)=a+off+q*sz by omega] at this⟩
  cases hv
 ·rename_i i0 off k m
  have:=hi.aB rfl;cases this
  split at hv
  ·rename_i len ty sz ht
   split at hv
   ·rename_i q hw
    injection hv with hv;subst hv
    cases hx with
    |fr _ _ h=>cases h
    |ptr _ _ o a kk hi hs=>
     exact⟨.pointer (some ⟨o,a+off+q*sz,none⟩),by simp only[x5,ht,Dm,hw],by have:=VR.ptr (g:=g) i0 (off+q*sz) o a kk hi hs;rwa [show a+(off+q*sz)=a+off+q*sz by omega] at this⟩
   cases hv
  cases hv
 ·rename_i i0 m nl k q0
  have:=hi.aB rfl;cases this
  split at hv
  ·rename_i ty sz q ht hw
   injection hv with hv;subst hv
   have hq:q<m:=by
    unfold fw at hw
    split at hw
    ·rename_i h1;injection hw with hw;omega
    cases hw
   cases hx with
   |fr _ _ h=>cases h
   |bW=>omega
   |bX=>omega
   |grow _ _ o a kk _ hi hs hn=>
    exact⟨.pointer (some ⟨o,a+q*sz,none⟩),by simp only[x5,ht,Dm,hw],.ptr i0 (q*sz) o a kk hi hs⟩
  cases hv
 cases hv
def mW (P:Program)(t:TypeId)(cs:List PV)(off:Nat):Option PV:=
 match bB P t with
 |some true=>match dc P t with
  |some n=>bif Nat.ble (off+n) cs.length then some (.agg ((cs.drop off).take n)) else none
  |none=>none
 |some false=>cs[off]?
 |none=>none
def rR (P:Program)(t:TypeId)(cs:List PV)(off:Nat):Option PV:=
 match dc P t with
 |some (_+1)=>mW P t cs off
 |_=>none
def pI (P:Program)(vh:ah)(t:TypeId)(p:PV):Option PV:=
 match p with
 |.vp cs=>mW P t cs 0
 |.ptr i off=>match vh.get i with
  |some (.box cs)=>mW P t cs off
  |some (.arr _ _ cs)=>mW P t cs off
  |some (.grow _ es)=>rR P t (es.flatMap PV.cells) off
  |_=>none
 |_=>none
theorem KF {n:Nat}{t:TypeId}{cs:List PV}{ao:List Value}{off o s:Nat}{v:PV}(hg:h.get o=some (.cells s ao))(hc:bc (VR g σ n) cs ao)(hv:mW P t cs off=some v):∃v',sj P h t (.pointer (some ⟨o,off,none⟩))=some v'∧VR g σ n v v':=by
 unfold mW at hv
 simp only[sj,hg]
 split at hv
 ·rename_i ha
  split at hv
  ·rename_i m hm
   cases hb:Nat.ble (off+m) cs.length with
   |false=>rw[hb] at hv;cases hv
   |true=>
    rw[hb] at hv;simp only[aJ,ax] at hv;subst hv
    rw[hc.1] at hb
    exact⟨_,by simp only[ha,hm,hb,aJ],Dl ((hc.drop off).take m)⟩
  cases hv
 ·rename_i ha
  obtain⟨v',h1,h2⟩:=hc.get hv
  exact⟨v',by simp[ha,h1],h2⟩
 cases hv
theorem PA {t:TypeId}{p v:PV}{p':Value}(s:VS lo g σ vh h)(hp:VR g σ vh.next p p')(hv:pI P vh t p=some v):∃v',sj P h t p'=some v'∧VR g σ vh.next v v':=by
 unfold pI at hv
 split at hv
 ·rename_i cs
  have:=hp.aB rfl
  cases this with
  |vp _ o off s0 ao hg hlen r=>
   have W8:=s.fz _ _ hg
   have hc:bc (VR g σ vh.next) cs ((ao.drop off).take cs.length):=⟨by simp;omega,fun i v v' hv aX=>.fr _ _ (r i v v' hv (by
    rw[List.getElem?_take] at aX
    split at aX
    ·rwa [List.getElem?_drop] at aX
    cases aX))⟩
   unfold mW at hv
   simp only[sj,W8]
   split at hv
   ·rename_i ha
    split at hv
    ·rename_i m hm
     cases hb:Nat.ble (0+m) cs.length with
     |false=>rw[hb] at hv;cases hv
     |true=>
      rw[hb] at hv;simp only[aJ,ax] at hv;subst hv
      have hb:m≤cs.length:=by simpa using hb
      have cK:Nat.ble (off+m) ao.length=true:=by rw[Nat.ble_eq];omega
      refine⟨.agg ((ao.drop off).take m).toArray,by simp only[ha,hm,cK,aJ],Dl ?_⟩
      have h2:=hc.take m
      rw[List.take_take,show min m cs.length=m by omega] at h2
      simpa using h2
    cases hv
   ·rename_i ha
    obtain⟨v',h1,h2⟩:=hc.get hv
    refine⟨v',?_,h2⟩
    rw[List.getElem?_take] at h1
    split at h1
    ·simpa[ha,List.getElem?_drop] using h1
    cases h1
   cases hv
 ·rename_i i off
  cases hp with
  |fr _ _ h=>cases h
  |ptr _ _ o a k hi hs=>
   split at hv
   ·rename_i cs hg
    obtain⟨s0,ao,h1,h2,h3⟩:=(s.obj i _ hg).2
    rw[hs] at h1 h2
    simp only at h1 h2;subst h2
    rw[Nat.zero_add]
    exact KF h1 h3 hv
   ·rename_i ag sz cs hg
    obtain⟨_,s0,ao,h1,h2,h3⟩:=(s.obj i _ hg).2
    rw[hs] at h1 h2
    simp only at h1 h2;subst h2
    rw[Nat.zero_add]
    exact KF h1 h3.vr hv
   ·rename_i sz es hg
    obtain⟨_,_,_,h0⟩:=(s.obj i _ hg).2
    unfold rR at hv
    split at hv
    ·rename_i n hn
     rcases h0 with rfl|⟨s0,ao,h1,h2,h3,_⟩
     ·unfold mW at hv
      rw[hn] at hv
      split at hv
      ·simp only[List.flatMap_nil,List.length_nil] at hv
       rw[show Nat.ble (off+(n+1)) 0=false by rfl,bl] at hv
       cases hv
      ·simp at hv
      cases hv
     rw[hs] at h1 h2
     simp only at h1 h2;subst h2
     rw[Nat.zero_add]
     exact KF h1 h3.vr hv
    cases hv
   cases hv
 cases hv
def fI (v:PV)(y:Nat):Option Nat:=
 match v with
 |.int _ i=>if 0≤i∧i≤y then some i.toNat else none
 |_=>none
theorem H5 {n:Nat}{v:PV}{v':Value}{y k:Nat}(h:VR g σ n v v')(hb:fI v y=some k):jW v' y=some k:=by
 unfold fI at hb
 split at hb
 ·have:=h.aB rfl;cases this
  rename_i kd i
  unfold jW
  cases i with
  |ofNat j=>
   by_cases hj:j≤y
   ·have:Nat.ble j y=true:=by simpa using hj
    simp[hj] at hb;subst hb;simp[this]
   simp[hj] at hb
  |negSucc j=>
   have:¬(0≤Int.negSucc j∧Int.negSucc j≤y):=by omega
   simp[this] at hb
 cases hb
theorem H6 {v:PV}{y k:Nat}(hb:fI v y=some k):k≤y:=by
 unfold fI at hb
 split at hb
 ·rename_i kd i
  by_cases h:0≤i∧i≤y
  ·simp only[h,and_self,if_true,ax] at hb;omega
  rw[if_neg h] at hb;cases hb
 cases hb
theorem PB {v:Value}{y y' k:Nat}(hb:jW v y=some k)(hy:y≤y'):jW v y'=some k:=by
 unfold jW at hb ⊢
 split at hb
 ·rename_i i
  cases h:Nat.ble i y with
  |false=>rw[h] at hb;cases hb
  |true=>
   rw[h] at hb
   have h1:i≤y:=by simpa using h
   have:Nat.ble i y'=true:=by rw[Nat.ble_eq];omega
   simp only[this,aJ] at hb ⊢;exact hb
 cases hb
def vO (ab:aW):Option Operand→Option (Option PV)
 |none=>some none
 |some x=>(cF ab x).map some
def iZ (g:Fz)(σ:Sg)(n:Nat):Option PV→Option Value→Prop
 |none,none=>True
 |some v,some v'=>VR g σ n v v'
 |_,_=>False
theorem Ad {n:Nat}(ht:VT g σ n ab ts){x:Option Operand}{v:Option PV}(hv:vO ab x=some v):∃v',tO ts x=some v'∧iZ g σ n v v':=by
 cases x with
 |none=>simp only[vO,ax] at hv;subst hv;exact⟨none,rfl,trivial⟩
 |some x=>
  obtain⟨u,h1,rfl⟩:=cZ hv
  obtain⟨v',h2,h3⟩:=eh ht h1
  exact⟨some v',by simp[tO,h2],h3⟩
def od (len known:Nat)(lo hi:Option PV):Option (Nat×Nat):=
 match (match hi with|some v=>fI v known|none=>some len) with
 |none=>none
 |some u=>match (match lo with|some v=>fI v u|none=>some 0) with
  |none=>none
  |some l=>some (l,u)
theorem ve {n:Nat}{len known er l u:Nat}{lo hi:Option PV}{eQ dD:Option Value}(hk:known≤er)(cw:iZ g σ n lo eQ)(gB:iZ g σ n hi dD)(hb:od len known lo hi=some (l,u)) :
  qf len er eQ dD none=some (l,u,none)∧l≤u∧(len≤known→u≤known):=by
 unfold od at hb
 split at hb
 ·cases hb
 rename_i u0 hu
 split at hb
 ·cases hb
 rename_i l0 hl
 simp only[ax,bI] at hb
 obtain⟨rfl,rfl⟩:=hb
 have e1:bH len er dD none=some u0∧(len≤known→u0≤known):=by
  cases hi with
  |none=>cases dD with
   |none=>simp only[ax] at hu;subst hu;exact⟨rfl,fun h=>h⟩
   |some=>exact gB.elim
  |some v=>cases dD with
   |none=>exact gB.elim
   |some v'=>exact⟨PB (H5 gB hu) hk,fun _=>H6 hu⟩
 have e2:bL u0 eQ=some l0∧l0≤u0:=by
  cases lo with
  |none=>cases eQ with
   |none=>simp only[ax] at hl;subst hl;exact⟨rfl,Nat.zero_le _⟩
   |some=>exact cw.elim
  |some v=>cases eQ with
   |none=>exact cw.elim
   |some v'=>exact⟨H5 cw hl,H6 hl⟩
 simp only[qf,bM]
 rw[e1.1]
 simp only
 rw[e2.1]
 exact⟨rfl,e2.2,e1.2⟩
def kj (n:Nat)(es:List PV):Bool:=es.all fun e=>Nat.beq e.cells.length n
def qz (P:Program)(t:TypeId)(x:PV)(lo hi:Option PV):Option PV:=
 match fS P t with
 |none=>none
 |some (_,sz)=>match x with
  |.aF=>(od 0 0 lo hi).map fun _=>.aF
  |.vec es=>bif kj sz es then (od es.length es.length lo hi).map fun p=>.vec ((es.drop p.1).take (p.2 - p.1)) else none
  |.own i off len k=>(od len k lo hi).map fun p=>.own i (bif Nat.beq k p.1 then off else off+p.1*sz) (p.2 - p.1) (k - p.1)
  |.sub i off len=>(od len len lo hi).map fun p=>bif Nat.beq p.2 p.1 then .vec [] else .sub i (off+p.1*sz) (p.2 - p.1)
  |_=>none
theorem W9 {es:List PV}{o off k s sz:Nat}{ao:List Value}(hk:es.length≤k)(dI:k+es.length<dC)(hg:g o=some (.cells s ao))(h0:0<sz)(e8:∀(i:Nat) e,es[i]?=some e→e.cells.length=sz)(hlen:off+es.length*sz≤ao.length)
  (r:∀(i:Nat) e (j:Nat) v v',es[i]?=some e→e.cells[j]?=some v→ao[off+i*sz+j]?=some v'→FR g v v') {l u k':Nat} (hl:l≤u) (hu:u≤es.length) (jr:u - l≤k') (Xa:k'+(u - l)<dC) :
  FR g (.vec ((es.drop l).take (u - l))) (.slice (some ⟨o,off+l*sz,none⟩) (u - l) k'):=by
 have hle:((es.drop l).take (u - l)).length=u - l:=by simp;omega
 have:=FR.vec (g:=g) ((es.drop l).take (u - l)) o (off+l*sz) k' s sz ao (by omega) (by omega) hg h0 (fun i e he=>?_) ?_ (fun i e j v v' he hv aX=>?_)
 ·rwa [hle] at this
 ·rw[List.getElem?_take] at he
  split at he
  ·rw[List.getElem?_drop] at he;exact e8 _ e he
  cases he
 ·rw[hle]
  have:l*sz+(u - l)*sz≤es.length*sz:=by rw[← Nat.add_mul];exact Nat.mul_le_mul_right _ (by omega)
  omega
 rw[List.getElem?_take] at he
 split at he
 ·rw[List.getElem?_drop] at he
  refine r (l+i) e j v v' he hv ?_
  rw[Nat.add_mul,show off+(l*sz+i*sz)+j=off+l*sz+i*sz+j by omega];exact aX
 cases he
theorem Xb {n:Nat}{t:TypeId}{x v:PV}{x':Value}{lo hi:Option PV}{eQ dD:Option Value}(hx:VR g σ n x x')(cw:iZ g σ n lo eQ)(gB:iZ g σ n hi dD)(hv:qz P t x lo hi=some v) :
  ∃v',kh P t x' eQ dD none=some v'∧VR g σ n v v':=by
 unfold qz at hv
 split at hv
 ·cases hv
 rename_i ty sz ht
 split at hv
 ·obtain⟨⟨l,u⟩,h1,rfl⟩:=cZ hv
  have:=hx.aB rfl;cases this
  obtain⟨h2,_⟩:=ve (Nat.le_refl _) cw gB h1
  exact⟨_,by simp only[kh,ht,h2],.fr _ _ .aF⟩
 ·rename_i es
  cases bg:kj sz es with
  |false=>rw[bg] at hv;cases hv
  |true=>
  rw[bg,aJ] at hv
  obtain⟨⟨l,u⟩,h1,rfl⟩:=cZ hv
  simp only
  have:=hx.aB rfl
  cases this with
  |fc=>
   obtain⟨h2,h3,h4⟩:=ve (Nat.le_refl _) cw gB h1
   exact⟨.slice none 0 0,by simp only[kh,ht];simp only[List.length_nil] at h2;simp only[h2],by simp only[List.drop_nil,List.take_nil];exact .fr _ _ .fc⟩
  |da o off k=>
   have h4:=(ve (er:=0) (Nat.le_refl _) cw gB h1).2.2 (Nat.le_refl _)
   have h3:=(ve (er:=0) (Nat.le_refl _) cw gB h1).2.1
   have hu:u=0:=by simpa using h4
   have hl:l=0:=by omega
   subst hu;subst hl
   simp only[List.drop_nil,List.take_nil]
   by_cases mu:k<ar
   ·have e1:Nat.blt k ar=true:=by rw[Nat.blt_eq];exact mu
    have h2:=(ve (er:=k) (by simp) cw gB h1).1
    simp only[List.length_nil] at h2
    refine⟨_,by simp only[kh,ht,e1,aJ,h2];rfl,?_⟩
    cases hbk:Nat.beq k 0<;>exact .fr _ _ (.da _ _ _)
   have e1:Nat.blt k ar=false:=by rw[← Bool.not_eq_true,Nat.blt_eq];exact mu
   have h2:=(ve (er:=0) (Nat.le_refl _) cw gB h1).1
   simp only[List.length_nil] at h2
   by_cases dI:k<dC
   ·have e2:Nat.blt k dC=true:=by rw[Nat.blt_eq];exact dI
    exact⟨.slice (some ⟨o,off,none⟩) 0 k,by simp only[kh,ht,e1,e2,aJ,bl,h2,Nat.beq_refl],.fr _ _ (.da _ _ _)⟩
   have e2:Nat.blt k dC=false:=by rw[← Bool.not_eq_true,Nat.blt_eq];exact dI
   exact⟨.slice (some ⟨o,off,none⟩) 0 dC,by simp only[kh,ht,e1,e2,bl,h2],.fr _ _ (.da _ _ _)⟩
  |vec _ o off k s H4 ao hk dI hg h0 e8 hlen r=>
   obtain⟨h2,h3,h4⟩:=ve (er:=es.length) (Nat.le_refl _) cw gB h1
   have h4:=h4 (Nat.le_refl _)
   have BD:u - l=0→((es.drop l).take (u - l))=[]:=fun h=>by rw[h,List.take_zero]
   have ea:0<u - l→H4=sz:=fun aU=>by
    have hl:0<es.length:=by omega
    have h5:=e8 0 es[0] (by simp[hl])
    unfold kj at bg
    rw[List.all_eq_true] at bg
    have h6:=bg es[0] (List.getElem_mem hl)
    rw[beq_eq,decide_eq_true_eq] at h6
    omega
   have fin:∀k',0<u - l→u - l≤k'→k'+(u - l)<dC→VR g σ n (.vec ((es.drop l).take (u - l))) (.slice (some ⟨o,off+l*sz,none⟩) (u - l) k'):=fun k' aU h5 h6=>by
    have BE:=ea aU;subst BE
    exact .fr _ _ (W9 hk dI hg h0 e8 hlen r h3 h4 h5 h6)
   by_cases mu:k<ar
   ·have e1:Nat.blt k ar=true:=by rw[Nat.blt_eq];exact mu
    have h2:=(ve (er:=k) hk cw gB h1).1
    refine⟨_,by simp only[kh,ht,e1,aJ,h2];rfl,?_⟩
    simp only[Option.getD_none]
    rcases jM k l with⟨hq,bZ⟩|⟨hq,bZ⟩
    ·have hz:u - l=0:=by omega
     rw[hq,BD hz,hz];exact .fr _ _ (.da _ _ _)
    rw[hq,bl]
    by_cases hz:u - l=0
    ·rw[BD hz,hz];exact .fr _ _ (.da _ _ _)
    exact fin _ (by omega) (by omega) (by omega)
   have e1:Nat.blt k ar=false:=by rw[← Bool.not_eq_true,Nat.blt_eq];exact mu
   have e2:Nat.blt k dC=true:=by rw[Nat.blt_eq];omega
   have e3:Nat.blt (k+l) dC=true:=by rw[Nat.blt_eq];omega
   rcases jM l 0 with⟨hq,bZ⟩|⟨hq,bZ⟩
   ·subst bZ
    refine⟨.slice (some ⟨o,off,none⟩) u k,by simp only[kh,ht,e1,e2,aJ,bl,h2,Nat.beq_refl],?_⟩
    by_cases hz:u=0
    ·subst hz;simp only[Nat.sub_self,List.take_zero];exact .fr _ _ (.da _ _ _)
    have:=fin k (by omega) (by omega) (by omega)
    simpa using this
   rcases jM u l with⟨hr,oF⟩|⟨hr,oF⟩
   ·refine⟨.slice (some ⟨o,off,none⟩) 0 dC,by simp only[kh,ht,e1,e2,aJ,bl,h2,hq,hr],?_⟩
    have hz:u - l=0:=by omega
    rw[BD hz];exact .fr _ _ (.da _ _ _)
   exact⟨.slice (some ⟨o,off+l*sz,none⟩) (u - l) (k+l),by simp only[kh,ht,e1,e2,e3,aJ,bl,h2,hq,hr],fin _ (by omega) (by omega) (by omega)⟩
 ·rename_i i off len k
  obtain⟨⟨l,u⟩,h1,rfl⟩:=cZ hv
  simp only
  cases hx with
  |fr _ _ h=>cases h
  |own _ _ _ _ o a kk hi hs hl hk=>
   obtain⟨h2,h3,h4⟩:=ve (er:=k) (Nat.le_refl _) cw gB h1
   have h4:=h4 hl
   have e1:Nat.blt k ar=true:=by rw[Nat.blt_eq];exact hk
   refine⟨_,by simp only[kh,ht,e1,aJ,h2];rfl,?_⟩
   simp only[Option.getD_none]
   rcases jM k l with⟨hq,bZ⟩|⟨hq,bZ⟩
   ·rw[hq];exact .own i off (u - l) (k - l) o a kk hi hs (by omega) (by omega)
   rw[hq]
   have:=VR.own (g:=g) i (off+l*sz) (u - l) (k - l) o a kk hi hs (by omega) (by omega)
   simpa[show a+(off+l*sz)=a+off+l*sz by omega] using this
 ·rename_i i off len
  obtain⟨⟨l,u⟩,h1,rfl⟩:=cZ hv
  simp only
  cases hx with
  |fr _ _ h=>cases h
  |sub _ _ _ k o a kk hi hs hl hk=>
   rcases Nat.lt_or_ge k ar with mu|mu
   ·obtain⟨h2,h3,h4⟩:=ve (er:=k) hl cw gB h1
    have h4:=h4 (Nat.le_refl _)
    have e1:Nat.blt k ar=true:=by rw[Nat.blt_eq];exact mu
    refine⟨_,by simp only[kh,ht,e1,aJ,h2];rfl,?_⟩
    simp only[Option.getD_none]
    rcases jM u l with⟨hq,bZ⟩|⟨hq,bZ⟩
    ·rw[hq]
     have hz:u - l=0:=by omega
     rw[hz];exact .fr _ _ (.da _ _ _)
    rw[hq]
    rcases jM k l with⟨hr,oF⟩|⟨hr,oF⟩
    ·omega
    rw[hr]
    have:=VR.sub (g:=g) i (off+l*sz) (u - l) (k - l) o a kk hi hs (by omega) (by omega)
    simpa[show a+(off+l*sz)=a+off+l*sz by omega] using this
   obtain⟨h2,h3,h4⟩:=ve (er:=len) (Nat.le_refl _) cw gB h1
   have h4:=h4 (Nat.le_refl _)
   have e1:Nat.blt k ar=false:=by rw[Bool.eq_false_iff];intro h;rw[Nat.blt_eq] at h;omega
   have e2:Nat.blt k dC=true:=by rw[Nat.blt_eq];omega
   rcases jM l 0 with⟨hq,bZ⟩|⟨hq,bZ⟩
   ·refine⟨.slice (some ⟨o,a+off,none⟩) u k,by simp only[kh,ht,e1,e2,aJ,bl,h2,hq],?_⟩
    subst bZ
    rcases jM u 0 with⟨hr,oF⟩|⟨hr,oF⟩
    ·rw[hr];subst oF;exact .fr _ _ (.da _ _ _)
    rw[hr]
    have:=VR.sub (g:=g) i (off+0*sz) (u - 0) k o a kk hi hs (by omega) (by omega)
    simpa using this
   rcases jM u l with⟨hr,oF⟩|⟨hr,oF⟩
   ·exact⟨.slice (some ⟨o,a+off,none⟩) 0 dC,by simp only[kh,ht,e1,e2,aJ,bl,h2,hq,hr],by rw[hr];exact .fr _ _ (.da _ _ _)⟩
   have e3:Nat.blt (k+l) dC=true:=by rw[Nat.blt_eq];omega
   refine⟨.slice (some ⟨o,a+off+l*sz,none⟩) (u - l) (k+l),by simp only[kh,ht,e1,e2,e3,aJ,bl,h2,hq,hr],?_⟩
   rw[hr]
   have:=VR.sub (g:=g) i (off+l*sz) (u - l) (k+l) o a kk hi hs (by omega) (by omega)
   simpa[show a+(off+l*sz)=a+off+l*sz by omega] using this
 cases hv
def qA (P:Program)(t:TypeId)(x:PV):Option PV:=
 match fS P t with
 |none=>none
 |some _=>match x with
  |.aF=>some .aF
  |.e0=>some .e0
  |.vec _=>some .e0
  |.grow _ _ _=>some .e0
  |_=>none
def BF (P:Program)(t:TypeId)(x:PV)(lo hi mx:Option PV):Option PV:=
 match x with
 |.sub i off len=>match lo,hi,mx with
  |none,some u,some m=>match fS P t,fI m len with
   |some _,some b=>match fI u b with
    |some a=>some (.own i off a b)
    |none=>none
   |_,_=>none
  |_,_,_=>none
 |_=>none
@[simp] theorem z5a (P:Program)(t:TypeId)(es:List PV)(lo hi mx:Option PV):BF P t (.vec es) lo hi mx=none:=rfl
@[simp] theorem z2e (P:Program)(t:TypeId)(i n:Nat)(nl:Bool)(lo hi mx:Option PV):BF P t (.grow i n nl) lo hi mx=none:=rfl
@[simp] theorem z4x (P:Program)(t:TypeId)(lo hi mx:Option PV):BF P t .aF lo hi mx=none:=rfl
@[simp] theorem z7d (P:Program)(t:TypeId)(lo hi mx:Option PV):BF P t .e0 lo hi mx=none:=rfl
theorem Xc {n:Nat}{t:TypeId}{x v:PV}{x':Value}{lo hi mx:Option PV}{eQ dD iS:Option Value}(hx:VR g σ n x x')(cw:iZ g σ n lo eQ)(gB:iZ g σ n hi dD)(ia:iZ g σ n mx iS)(hv:BF P t x lo hi mx=some v) :
  ∃v',kh P t x' eQ dD iS=some v'∧VR g σ n v v':=by
 unfold BF at hv
 split at hv
 ·rename_i i off len
  split at hv
  ·rename_i u m
   split at hv
   ·rename_i ty b ht hb
    split at hv
    ·rename_i a ha
     injection hv with hv;subst hv
     cases eQ with
     |some _=>exact cw.elim
     |none=>
     cases dD with
     |none=>exact gB.elim
     |some u'=>
     cases iS with
     |none=>exact ia.elim
     |some m'=>
     have h1:=H5 (v:=m) ia hb
     have h2:=H5 (v:=u) gB ha
     have h3:=H6 hb
     have h4:=H6 ha
     cases hx with
     |fr _ _ h=>cases h
     |sub _ _ _ k o a0 kk hi hs hl hk=>
      obtain⟨ty,sz⟩:=ty
      have hlen:b<ar:=by
       rcases Nat.lt_or_ge k ar with h|h
       ·omega
       have:dC=ar+ar:=rfl
       omega
      have hr:VR g σ n (.own i off a b) (.slice (some ⟨o,a0+off,none⟩) a b):=.own i off a b o a0 kk hi hs h4 hlen
      have vf:(bif Nat.beq b 0 then a0+off else a0+off+0*sz)=a0+off:=by cases Nat.beq b 0<;>simp
      cases mu:Nat.blt k ar with
      |true=>
       have e:qf len k none (some u') (some m')=some (0,a,some b):=by simp only[qf,bM,PB h1 hl,Option.map_some,bH,h2,bL]
       exact⟨_,by simp only[kh,ht,mu,aJ,e,Option.getD_some,vf,Nat.sub_zero],hr⟩
      |false=>
       have dI:Nat.blt k dC=true:=by rw[Nat.blt_eq];omega
       have e:qf len len none (some u') (some m')=some (0,a,some b):=by simp only[qf,bM,h1,Option.map_some,bH,h2,bL]
       have Et:Nat.blt b ar=true:=by rw[Nat.blt_eq];exact hlen
       exact⟨_,by simp only[kh,ht,mu,dI,aJ,bl,e,Et,vf,Nat.sub_zero],hr⟩
    cases hv
   cases hv
  cases hv
 cases hv
def kl (v:Option PV):Bool:=match v with
 |some (.int _ n)=>decide (n=0)
 |_=>false
theorem Xd {n len known:Nat}{lo hi mx:Option PV}{eQ dD iS:Option Value}(cw:iZ g σ n lo eQ)(gB:iZ g σ n hi dD)(ia:iZ g σ n mx iS)(h1:lo=none∨kl lo=true)(h2:kl hi=true)(h3:kl mx=true) :
  qf len known eQ dD iS=some (0,0,some 0):=by
 have val:∀ {v:Option PV} {v':Option Value},iZ g σ n v v'→kl v=true→∃k,v'=some (.int k 0):=fun {v v'} hr hz=>by
  unfold kl at hz
  split at hz
  ·rename_i k m
   simp only[decide_eq_true_eq] at hz;subst hz
   cases v' with
   |none=>exact hr.elim
   |some v'=>have:=VR.aB hr rfl;cases this;exact⟨k,rfl⟩
  cases hz
 obtain⟨k1,rfl⟩:=val gB h2
 obtain⟨k2,rfl⟩:=val ia h3
 have e:∀y,Nat.ble 0 y=true:=fun y=>by rw[Nat.ble_eq];exact Nat.zero_le _
 have hb:∀(k:IntKind) y,jW (.int k 0) y=some 0:=fun k y=>by
  show (bif Nat.ble 0 y then some 0 else none)=some 0
  rw[e];rfl
 have Xe:bL 0 eQ=some 0:=by
  rcases h1 with rfl|h1
  ·cases eQ with
   |none=>rfl
   |some=>exact cw.elim
  obtain⟨k3,rfl⟩:=val cw h1
  exact hb k3 0
 simp only[qf,bM,hb,Option.map_some,bH,Xe]
theorem Xf {n:Nat}{t:TypeId}{x v:PV}{x':Value}{lo hi mx:Option PV}{eQ dD iS:Option Value}(hx:VR g σ n x x')(cw:iZ g σ n lo eQ)(gB:iZ g σ n hi dD)(ia:iZ g σ n mx iS)
  (h1:lo=none∨kl lo=true) (h2:kl hi=true) (h3:kl mx=true) (hv:qA P t x=some v):∃v',kh P t x' eQ dD iS=some v'∧VR g σ n v v':=by
 have hb:∀len known,qf len known eQ dD iS=some (0,0,some 0):=fun len known=>Xd cw gB ia h1 h2 h3
 have any:∀o off len k,∀ty,fS P t=some ty→∃o' mo,kh P t (.slice (some ⟨o,off,none⟩) len k) eQ dD iS=some (.slice (some ⟨o',mo,none⟩) 0 0):=fun o off len k ty ht=>by
  obtain⟨ty,sz⟩:=ty
  simp only[kh,ht,hb]
  cases Nat.blt k ar with
  |true=>exact⟨_,_,rfl⟩
  |false=>
   cases Nat.blt k dC with
   |true=>exact⟨_,_,rfl⟩
   |false=>exact⟨_,_,rfl⟩
 have yB:∀ty,fS P t=some ty→kh P t (.slice none 0 0) eQ dD iS=some (.slice none 0 0):=fun ty ht=>by simp only[kh,ht,hb]
 unfold qA at hv
 split at hv
 ·cases hv
 rename_i ty ht
 split at hv
 ·injection hv with hv;subst hv
  have:=hx.aB rfl;cases this
  exact⟨_,yB _ ht,.fr _ _ .aF⟩
 ·injection hv with hv;subst hv
  have:=hx.aB rfl
  cases this with
  |tS=>exact⟨_,yB _ ht,.fr _ _ .tS⟩
  |e0 o off=>
   obtain⟨o',mo,h⟩:=any o off 0 0 _ ht
   exact⟨_,h,.fr _ _ (.e0 _ _)⟩
 ·injection hv with hv;subst hv
  have:=hx.aB rfl
  cases this with
  |fc=>exact⟨_,yB _ ht,.fr _ _ .tS⟩
  |da o off k=>
   obtain⟨o',mo,h⟩:=any o off 0 k _ ht
   exact⟨_,h,.fr _ _ (.e0 _ _)⟩
  |vec es o off k=>
   obtain⟨o',mo,h⟩:=any o off _ k _ ht
   exact⟨_,h,.fr _ _ (.e0 _ _)⟩
 ·injection hv with hv;subst hv
  cases hx with
  |fr _ _ h=>cases h
  |bW=>exact⟨_,yB _ ht,.fr _ _ .tS⟩
  |bX i o off=>
   obtain⟨o',mo,h⟩:=any o off 0 0 _ ht
   exact⟨_,h,.fr _ _ (.e0 _ _)⟩
  |grow i m o a k=>
   obtain⟨o',mo,h⟩:=any o a _ k _ ht
   exact⟨_,h,.fr _ _ (.e0 _ _)⟩
 cases hv
def ja (P:Program)(vh:ah)(t:TypeId)(x:PV):Option PV:=
 match P.underlying t,x with
 |some .string,.str s=>some (.int .i64 s.size)
 |some (.slice _),.aF=>some (.int .i64 0)
 |some (.slice _),.e0=>some (.int .i64 0)
 |some (.slice _),.vec es=>some (.int .i64 es.length)
 |some (.slice _),.own _ _ n _=>some (.int .i64 n)
 |some (.slice _),.sub _ _ n=>some (.int .i64 n)
 |some (.slice _),.grow _ n _=>some (.int .i64 n)
 |some (.array n _),_=>some (.int .i64 n)
 |some (.map _ _),.dj=>some (.int .i64 0)
 |some (.map _ _),.az es=>some (.int .i64 es.length)
 |some (.map _ _),.aY i=>match vh.get i with
  |some (.map es)=>some (.int .i64 es.length)
  |_=>none
 |_,_=>none
theorem Xg {t:TypeId}{x v:PV}{x':Value}(s:VS lo g σ vh h)(hx:VR g σ vh.next x x')(hv:ja P vh t x=some v):∃v',lX P h t x'=some v'∧FR g v v':=by
 unfold ja at hv
 split at hv
 ·rename_i hu;injection hv with hv;subst hv
  have:=hx.aB rfl;cases this
  exact⟨_,by simp[lX,hu,kO],.int _ _⟩
 ·rename_i hu;injection hv with hv;subst hv
  have:=hx.aB rfl;cases this
  exact⟨_,by simp[lX,hu,kO],.int _ _⟩
 ·rename_i hu;injection hv with hv;subst hv
  have:=hx.aB rfl;cases this<;>exact⟨_,by simp[lX,hu,kO],.int _ _⟩
 ·rename_i hu;injection hv with hv;subst hv
  have:=hx.aB rfl;cases this<;>exact⟨_,by first|(simp only[lX,hu,kO];done)|(simp only[lX,hu,kO];rfl),.int _ _⟩
 ·rename_i hu;injection hv with hv;subst hv
  cases hx with
  |fr _ _ h=>cases h
  |own=>exact⟨_,by simp[lX,hu,kO],.int _ _⟩
 ·rename_i hu;injection hv with hv;subst hv
  cases hx with
  |fr _ _ h=>cases h
  |sub=>exact⟨_,by simp only[lX,hu,kO],.int _ _⟩
 ·rename_i hu;injection hv with hv;subst hv
  cases hx with
  |fr _ _ h=>cases h
  |bW=>exact⟨_,by simp only[lX,hu,kO],.int _ _⟩
  |bX=>exact⟨_,by simp only[lX,hu,kO],.int _ _⟩
  |grow=>exact⟨_,by simp only[lX,hu,kO],.int _ _⟩
 ·rename_i hu;injection hv with hv;subst hv
  refine⟨_,by unfold lX;simp only[hu,kO],.int _ _⟩
 ·rename_i hu;injection hv with hv;subst hv
  have:=hx.aB rfl;cases this
  exact⟨_,by simp[lX,hu,kO],.int _ _⟩
 ·rename_i es hu;injection hv with hv;subst hv
  have:=hx.aB rfl
  cases this with
  |az _ o bf hg hlen rk rv=>exact⟨.int .i64 bf.length,by simp only[lX,hu,s.fz _ _ hg,kO],by rw[hlen];exact .int _ _⟩
 ·rename_i i hu
  split at hv
  ·rename_i es hg
   injection hv with hv;subst hv
   cases hx with
   |fr _ _ h=>cases h
   |aY _ o a k hi hs=>
    obtain⟨bf,h1,h2,h3,h4⟩:=(s.obj i _ hg).2
    rw[hs] at h1
    have hl:=h3.1
    simp only[List.length_map] at hl
    exact⟨.int .i64 bf.length,by simp only[lX,hu,h1,kO],by rw[hl];exact .int _ _⟩
  cases hv
 cases hv
end
def Sg.put (σ:Sg)(i:Nat)(x:Nat×Nat×Nat):Sg:=fun j=>if j=i then x else σ j
theorem Sg.ct (σ:Sg)(i:Nat)(x:Nat×Nat×Nat):σ.put i x i=x:=by simp[Sg.put]
theorem Sg.xg (σ:Sg){i j:Nat}(x:Nat×Nat×Nat)(h:j≠i):σ.put i x j=σ j:=by simp[Sg.put,h]
section
variable {P:Program} {lo:Nat} {g:Fz} {σ:Sg} {vh:ah} {h:ae}
theorem bc.BG {g g':Fz}{σ aL:Sg}{n n':Nat}(hle:g.le g')(hn:n≤n')(cp:∀i,i<n→aL i=σ i){l:List PV}{l':List Value}(hp:bc (VR g σ n) l l'):bc (VR g' aL n') l l':=hp.mono fun _ _ hv=>hv.mono hle hn cp
theorem rN.mono {g':Fz}{aL:Sg}{n n':Nat}{h':ae}{i:Nat}{x:aI}(hle:g.le g')(hn:n≤n')(cp:∀i,i<n→aL i=σ i)(hi:i<n)(hg:x.live=true→h'.get (σ i).1=h.get (σ i).1)(hx:rN g σ n h i x):rN g' aL n' h' i x:=by
 have hs:=cp i hi
 cases x with
 |box cs=>
  obtain⟨s,ao,h1,h2,h3⟩:=hx
  exact⟨s,ao,by rw[hs,hg rfl];exact h1,by rw[hs];exact h2,h3.BG hle hn cp⟩
 |arr ag sz cs=>
  obtain⟨h0,s,ao,h1,h2,h3⟩:=hx
  exact⟨h0,s,ao,by rw[hs,hg rfl];exact h1,by rw[hs];exact h2,h3.mono fun _ _ h=>h.mono hle⟩
 |grow sz es=>
  obtain⟨h0,h1,h2,h3⟩:=hx
  cases es with
  |nil=>exact⟨h0,h1,h2,.inl rfl⟩
  |cons e r=>exact⟨h0,h1,h2,h3.imp_right fun⟨s,ao,k1,k2,k3,k4⟩=>⟨s,ao,by rw[hs,hg rfl];exact k1,by rw[hs];exact k2,k3.mono fun _ _ h=>h.mono hle,by rw[hs];exact k4⟩⟩
 |map es=>
  obtain⟨bf,h1,h2,h3,h4⟩:=hx
  exact⟨bf,by rw[hs,hg rfl];exact h1,by rw[hs];exact h2,h3.mono fun _ _ h=>h.mono hle,h4.mono fun _ _ h=>h.mono hle⟩
 |dz es=>
  obtain⟨bf,h1,h2,h3,h4⟩:=hx
  exact⟨bf,by rw[hs,hg rfl];exact h1,by rw[hs];exact h2,h3.mono fun _ _ h=>h.mono hle,h4.BG hle hn cp⟩
 |bJ es=>
  obtain⟨h0,h1,h2,s,ao,k1,k2,k3,k4⟩:=hx
  exact⟨h0,h1,h2,s,ao,by rw[hs,hg rfl];exact k1,by rw[hs];exact k2,k3.BG hle hn cp,by rw[hs];exact k4⟩
 |emap es k born=>
  obtain⟨bf,h1,h2,h3,h4⟩:=hx
  exact⟨bf,by rw[hs,hg rfl];exact h1,by rw[hs];exact h2,h3.mono fun _ _ h=>h.mono hle,h4.mono fun _ _ h=>h.mono hle⟩
 |loop N ps a bd ab jump=>
  obtain⟨L,h1,h2,h3,h4,h5,h6⟩:=hx
  exact⟨L,by rw[hs,hg rfl];exact h1,h2,h3,h4,h5,h6.mono hle hn cp⟩
theorem rN.lt {n:Nat}{i:Nat}{x:aI}(hl:x.live=true)(hx:rN g σ n h i x):(σ i).1<h.next:=by
 cases x with
 |box cs=>obtain⟨s,ao,h1,_⟩:=hx;exact ae.fC h1
 |arr ag sz cs=>obtain⟨_,s,ao,h1,_⟩:=hx;exact ae.fC h1
 |grow sz es=>
  obtain⟨_,_,_,h3⟩:=hx
  rcases h3 with rfl|⟨s,ao,h1,_⟩
  ·cases hl
  exact ae.fC h1
 |map es=>obtain⟨bf,h1,_⟩:=hx;exact ae.fC h1
 |dz es=>obtain⟨bf,h1,_⟩:=hx;exact ae.fC h1
 |bJ es=>obtain⟨_,_,_,s,ao,h1,_⟩:=hx;exact ae.fC h1
 |emap es=>obtain⟨bf,h1,_⟩:=hx;exact ae.fC h1
 |loop=>obtain⟨L,h1,_⟩:=hx;exact ae.fC h1
theorem VS.Xh (s:VS lo g σ vh h){o:Nat}(ho:h.next≤o):g o=none:=by
 cases hg:g o with
 |none=>rfl
 |some x=>have:=ae.fC (s.fz o x hg);omega
theorem VS.alloc (s:VS lo g σ vh h){x:aI}(y:a7)(k:Nat)(hx:rN g (σ.put vh.next (h.next,0,k)) (vh.next+1) (h.alloc y) vh.next x) :
  VS lo g (σ.put vh.next (h.next,0,k)) (vh.alloc x) (h.alloc y)∧VF σ vh h (σ.put vh.next (h.next,0,k)) (vh.alloc x) (h.alloc y):=by
 have cp:∀i,i<vh.next→(σ.put vh.next (h.next,0,k)) i=σ i:=fun i hi=>Sg.xg _ _ (by omega)
 have hold:∀o,o<h.next→(h.alloc y).get o=h.get o:=fun o ho=>by rw[ae.gX,if_neg (by omega)]
 have split:∀i z,(vh.alloc x).get i=some z→(i=vh.next∧z=x)∨(i<vh.next∧vh.get i=some z):=fun i z hz=>by
  rw[ah.gX] at hz
  by_cases hi:i=vh.next
  ·subst hi;simp at hz;exact .inl ⟨rfl,hz.symm⟩
  simp[hi] at hz;exact .inr ⟨(s.obj i z hz).1,hz⟩
 refine⟨⟨fun i z hz=>?_,fun i j z z' hz iC hl nV he=>?_,fun i z hz hl=>?_,fun o z hz=>?_,fun i z hz hl=>?_,?_⟩,⟨?_,fun o ho hn=>hold o ho,fun i z hz hl aU=>?_⟩⟩
 ·rcases split i z hz with⟨rfl,rfl⟩|⟨hi,hz⟩
  ·exact⟨by simp[ah.alloc],hx⟩
  refine⟨by simp[ah.alloc];omega,(s.obj i z hz).2.mono (Fz.le_refl g) (Nat.le_succ _) cp hi fun hl=>hold _ ((s.obj i z hz).2.lt hl)⟩
 ·rcases split i z hz with⟨rfl,rfl⟩|⟨hi,sy⟩<;>rcases split j z' iC with⟨rfl,rfl⟩|⟨hj,oU⟩
  ·rfl
  ·rw[Sg.ct,cp j hj] at he
   have:=(s.obj j z' oU).2.lt nV;simp only at he;omega
  ·rw[Sg.ct,cp i hi] at he
   have:=(s.obj i z sy).2.lt hl;simp only at he;omega
  rw[cp i hi,cp j hj] at he
  exact s.inj i j z z' sy oU hl nV he
 ·rcases split i z hz with⟨rfl,rfl⟩|⟨hi,hz⟩
  ·rw[Sg.ct];exact s.bA
  rw[cp i hi];exact s.low i z hz hl
 ·have:=s.fz o z hz
  rw[hold o (ae.fC this)];exact this
 ·rcases split i z hz with⟨rfl,rfl⟩|⟨hi,hz⟩
  ·rw[Sg.ct];exact s.Xh (Nat.le_refl _)
  rw[cp i hi];exact s.iG i z hz hl
 ·have:=s.bA;simp;omega
 ·simp
 rcases split i z hz with⟨rfl,rfl⟩|⟨hi,hz⟩
 ·rw[Sg.ct] at aU;simp only at aU;omega
 rw[cp i hi];exact⟨i,z,hz,hl,rfl⟩
theorem VS.PD (s:VS lo g σ vh h){x:aI}(p:Nat×Nat×Nat)(hx:rN g (σ.put vh.next p) (vh.next+1) h vh.next x)(hp:x.live=true→lo≤p.1∧g p.1=none∧∀i y,vh.get i=some y→y.live=true→(σ i).1≠p.1)
  : VS lo g (σ.put vh.next p) (vh.alloc x) h:=by
 have cp:∀i,i<vh.next→(σ.put vh.next p) i=σ i:=fun i hi=>Sg.xg _ _ (by omega)
 have split:∀i z,(vh.alloc x).get i=some z→(i=vh.next∧z=x)∨(i<vh.next∧vh.get i=some z):=fun i z hz=>by
  rw[ah.gX] at hz
  by_cases hi:i=vh.next
  ·subst hi;simp at hz;exact .inl ⟨rfl,hz.symm⟩
  simp[hi] at hz;exact .inr ⟨(s.obj i z hz).1,hz⟩
 refine⟨fun i z hz=>?_,fun i j z z' hz iC hl nV he=>?_,fun i z hz hl=>?_,s.fz,fun i z hz hl=>?_,s.bA⟩
 ·rcases split i z hz with⟨rfl,rfl⟩|⟨hi,hz⟩
  ·exact⟨by simp[ah.alloc],hx⟩
  exact⟨by simp[ah.alloc];omega,(s.obj i z hz).2.mono (Fz.le_refl g) (Nat.le_succ _) cp hi fun hl=>rfl⟩
 ·rcases split i z hz with⟨rfl,rfl⟩|⟨hi,sy⟩<;>rcases split j z' iC with⟨rfl,rfl⟩|⟨hj,oU⟩
  ·rfl
  ·rw[Sg.ct,cp j hj] at he
   exact absurd he.symm ((hp hl).2.2 j z' oU nV)
  ·rw[Sg.ct,cp i hi] at he
   exact absurd he ((hp nV).2.2 i z sy hl)
  rw[cp i hi,cp j hj] at he
  exact s.inj i j z z' sy oU hl nV he
 ·rcases split i z hz with⟨rfl,rfl⟩|⟨hi,hz⟩
  ·rw[Sg.ct];exact(hp hl).1
  rw[cp i hi];exact s.low i z hz hl
 rcases split i z hz with⟨rfl,rfl⟩|⟨hi,hz⟩
 ·rw[Sg.ct];exact(hp hl).2.1
 rw[cp i hi];exact s.iG i z hz hl
theorem VS.sub (s:VS lo g σ vh h){aQ:ah}(hn:aQ.next=vh.next)(hs:∀i x,aQ.get i=some x→vh.get i=some x):VS lo g σ aQ h∧VF σ vh h σ aQ h:=
 ⟨⟨fun i x hx=>by rw[hn];exact s.obj i x (hs i x hx),fun i j x y hx hy=>s.inj i j x y (hs i x hx) (hs j y hy),fun i x hx=>s.low i x (hs i x hx),s.fz,fun i x hx=>s.iG i x (hs i x hx),s.bA⟩,
  ⟨Nat.le_refl _,fun _ _ _=>rfl,fun i x hx hl _=>⟨i,x,hs i x hx,hl,rfl⟩⟩⟩
theorem gH {i j:Nat}{x:aI}(hx:(vh.drop i).get j=some x):j≠i∧vh.get j=some x:=by
 rw[ah.KA] at hx
 by_cases h:j=i
 ·simp[h] at hx
 simp[h] at hx;exact⟨h,hx⟩
theorem VS.kill (s:VS lo g σ vh h){i:Nat}{x:aI}(hx:vh.get i=some x)(hl:x.live=true):VS lo g σ (vh.drop i) (h.put (σ i).1 none)∧VF σ vh h σ (vh.drop i) (h.put (σ i).1 none):=by
 have aU:=(s.obj i x hx).2.lt hl
 have cA:∀o,o≠(σ i).1→(h.put (σ i).1 none).get o=h.get o:=fun o ho=>by rw[ae.dB _ _ _ _ aU,if_neg ho]
 have cC:∀j y,(vh.drop i).get j=some y→y.live=true→(σ j).1≠(σ i).1:=fun j y hy fg he=>by
  obtain⟨h1,h2⟩:=gH hy
  exact h1 (s.inj j i y x h2 hx fg hl he)
 refine⟨⟨fun j y hy=>?_,fun j k y z hy hz=>s.inj j k y z (gH hy).2 (gH hz).2,fun j y hy=>s.low j y (gH hy).2,fun o z hz=>?_,fun j y hy=>s.iG j y (gH hy).2,s.bA⟩,⟨Nat.le_refl _,fun o ho hn=>cA o fun he=>hn i x hx hl he.symm,fun j y hy fg _=>⟨j,y,(gH hy).2,fg,rfl⟩⟩⟩
 ·obtain⟨k1,k2⟩:=s.obj j y (gH hy).2
  exact⟨k1,k2.mono (Fz.le_refl g) (Nat.le_refl _) (fun _ _=>rfl) k1 fun fg=>cA _ (cC j y hy fg)⟩
 have hd:=s.iG i x hx hl
 rw[cA o (by rintro rfl;rw[hd] at hz;cases hz)]
 exact s.fz o z hz
theorem BH {i j:Nat}{x x' y:aI}(hx:vh.get i=some x)(hy:(vh.put i x').get j=some y):(j=i∧y=x')∨(j≠i∧vh.get j=some y):=by
 rw[ah.dB vh i j x' x hx] at hy
 by_cases h:j=i
 ·simp[h] at hy;exact .inl ⟨h,hy.symm⟩
 simp[h] at hy;exact .inr ⟨h,hy⟩
theorem VS.write (s:VS lo g σ vh h){i:Nat}{x x':aI}(hx:vh.get i=some x)(hl:x.live=true)(y:a7)(tD:rN g σ vh.next (h.put (σ i).1 (some y)) i x'):VS lo g σ (vh.put i x') (h.put (σ i).1 (some y))∧VF σ vh h σ (vh.put i x') (h.put (σ i).1 (some y)):=by
 have aU:=(s.obj i x hx).2.lt hl
 have cA:∀o,o≠(σ i).1→(h.put (σ i).1 (some y)).get o=h.get o:=fun o ho=>by rw[ae.dB _ _ _ _ aU,if_neg ho]
 have cC:∀j z,j≠i→vh.get j=some z→z.live=true→(σ j).1≠(σ i).1:=fun j z hj hz bT he=>hj (s.inj j i z x hz hx bT hl he)
 refine⟨⟨fun j z hz=>?_,fun j k z z' hz iC bT sH he=>?_,fun j z hz bT=>?_,fun o z hz=>?_,fun j z hz bT=>?_,s.bA⟩,⟨Nat.le_refl _,fun o ho hn=>cA o fun he=>hn i x hx hl he.symm,fun j z hz bT _=>?_⟩⟩
 ·rcases BH hx hz with⟨rfl,rfl⟩|⟨hj,hz⟩
  ·exact⟨(s.obj j x hx).1,tD⟩
  obtain⟨k1,k2⟩:=s.obj j z hz
  exact⟨k1,k2.mono (Fz.le_refl g) (Nat.le_refl _) (fun _ _=>rfl) k1 fun bT=>cA _ (cC j z hj hz bT)⟩
 ·rcases BH hx hz with⟨rfl,rfl⟩|⟨hj,sy⟩<;>rcases BH hx iC with⟨rfl,rfl⟩|⟨hk,oU⟩
  ·rfl
  ·exact absurd he.symm (cC k z' hk oU sH)
  ·exact absurd he (cC j z hj sy bT)
  exact s.inj j k z z' sy oU bT sH he
 ·rcases BH hx hz with⟨rfl,rfl⟩|⟨hj,hz⟩
  ·exact s.low j x hx hl
  exact s.low j z hz bT
 ·have hd:=s.iG i x hx hl
  rw[cA o (by rintro rfl;rw[hd] at hz;cases hz)]
  exact s.fz o z hz
 ·rcases BH hx hz with⟨rfl,rfl⟩|⟨hj,hz⟩
  ·exact s.iG j x hx hl
  exact s.iG j z hz bT
 rcases BH hx hz with⟨rfl,rfl⟩|⟨hj,hz⟩
 ·exact⟨j,x,hx,hl,rfl⟩
 exact⟨j,z,hz,bT,rfl⟩
def jb (vh:ah)(v:PV):PV×ah:=(.ptr vh.next 0,vh.alloc (.box v.cells))
theorem PE (s:VS lo g σ vh h){cs:List PV}{ao:List Value}(hc:bc (VR g σ vh.next) cs ao):iH lo g σ vh h (.ptr vh.next 0) (vh.alloc (.box cs)) (.pointer (some ⟨h.next,0,none⟩)) (h.alloc (.cells 0 ao)):=by
 have cp:∀i,i<vh.next→(σ.put vh.next (h.next,0,0)) i=σ i:=fun i hi=>Sg.xg _ _ (by omega)
 obtain⟨h1,h2⟩:=s.alloc (x:=.box cs) (.cells 0 ao) 0 ⟨0,ao,by rw[Sg.ct,ae.gX,if_pos rfl],by rw[Sg.ct],hc.BG (Fz.le_refl g) (Nat.le_succ _) cp⟩
 refine⟨_,?_,h1,h2,Nat.le_succ _,cp⟩
 have:=VR.ptr (g:=g) (σ:=σ.put vh.next (h.next,0,0)) (n:=(vh.alloc (.box cs)).next) vh.next 0 h.next 0 0 (Nat.lt_succ_self _) (Sg.ct _ _ _)
 simpa using this
theorem Xi (s:VS lo g σ vh h){v:PV}{v':Value}(hv:VR g σ vh.next v v'):iH lo g σ vh h (jb vh v).1 (jb vh v).2 (sh h v').1 (sh h v').2:=PE s hv.cells
def eB (P:Program)(t:TypeId):Option (List PV):=(oC P t).bind fX
theorem xh {t:TypeId}{z:List PV}(hz:eB P t=some z):∃z',oC P t=some z'∧bc (FR g) z z':=by
 unfold eB at hz
 cases h1:oC P t with
 |none=>rw[h1] at hz;cases hz
 |some z'=>rw[h1] at hz;exact⟨z',rfl,(HX hz).1⟩
def qB (P:Program)(vh:ah)(t:TypeId):Option (PV×ah):=
 match eB P t with
 |some z=>some (.ptr vh.next 0,vh.alloc (.box z))
 |none=>none
theorem Xj (s:VS lo g σ vh h){t:TypeId}{v:PV}{ak:ah}(hv:qB P vh t=some (v,ak)):∃v' h',CW P h t=some (v',h')∧iH lo g σ vh h v ak v' h':=by
 unfold qB at hv
 split at hv
 ·rename_i z hz
  simp only[ax,bI] at hv
  obtain⟨rfl,rfl⟩:=hv
  obtain⟨z',h1,h2⟩:=xh (g:=g) hz
  exact⟨_,_,by simp only[CW,h1],PE s h2.vr⟩
 cases hv
def qC (vh:ah):PV×ah:=(.aY vh.next,vh.alloc (.map []))
theorem Xk (s:VS lo g σ vh h):iH lo g σ vh h (qC vh).1 (qC vh).2 (.map (some h.next)) (h.alloc (.map [])):=by
 have cp:∀i,i<vh.next→(σ.put vh.next (h.next,0,0)) i=σ i:=fun i hi=>Sg.xg _ _ (by omega)
 obtain⟨h1,h2⟩:=s.alloc (x:=.map []) (.map []) 0 ⟨[],by rw[Sg.ct,ae.gX,if_pos rfl],by rw[Sg.ct],.nil,.nil⟩
 exact⟨_,VR.aY vh.next h.next 0 0 (Nat.lt_succ_self _) (Sg.ct _ _ _),h1,h2,Nat.le_succ _,cp⟩
def gI (place:Nat→Option (Nat×Nat)):List PV→List (Nat×PV)→Option (List PV)
 |cells,[]=>some cells
 |cells,(i,v)::rest=>
  match place i with
  |none=>none
  |some (off,size)=>
   bif Nat.beq v.cells.length size&&Nat.ble (off+v.cells.length) cells.length then gI place (jP cells off v.cells) rest else none
theorem E6 {n:Nat}{place:Nat→Option (Nat×Nat)}:∀ {parts:List (Nat×PV)} {b8:List (Nat×Value)} {cells out:List PV} {lu:List Value},HY (VR g σ n) parts b8→bc (VR g σ n) cells lu→gI place cells parts=some out→
  ∃eR,tH place lu b8=some eR∧bc (VR g σ n) out eR
 |[],b8,cells,out,lu,hp,hc,ho=>by
  simp only[gI,ax] at ho;subst ho
  have:=hp.1;simp at this;subst this
  exact⟨lu,rfl,hc⟩
 |(i,v)::rest,b8,cells,out,lu,hp,hc,ho=>by
  cases b8 with
  |nil=>have:=hp.1;simp at this
  |cons q r=>
   obtain⟨i',v'⟩:=q
   have h1:=hp.1
   simp only[List.map_cons,List.cons.injEq] at h1
   obtain⟨rfl,h1⟩:=h1
   obtain⟨u,l,h2,h3,h4⟩:=hp.2.dt
   simp only[List.map_cons,List.cons.injEq] at h2
   obtain⟨rfl,rfl⟩:=h2
   simp only[gI] at ho
   simp only[tH]
   have PF:=h3.cells
   split at ho
   ·cases ho
   rename_i off size gZ
   simp only[gZ]
   rw[← PF.1,← hc.1]
   cases hb:(Nat.beq v.cells.length size&&Nat.ble (off+v.cells.length) cells.length) with
   |false=>rw[hb] at ho;cases ho
   |true=>
    rw[hb] at ho
    simp only[aJ] at ho ⊢
    exact E6 ⟨h1,h4⟩ (hc.e9 off PF) ho
def nB (P:Program)(t:TypeId)(parts:List (Nat×PV)):Option PV:=
 match eB P t,P.underlying t with
 |some z,some (.struct fields)=>
  match CZ P fields.toList with
  |some l=>(gI (l[·]?) z parts).map .agg
  |none=>none
 |some z,some (.array _ e)=>
  match dc P e with
  |some n=>(gI (fun i=>some (i*n,n)) z parts).map .agg
  |none=>none
 |_,_=>none
theorem Xl {n:Nat}{t:TypeId}{parts:List (Nat×PV)}{b8:List (Nat×Value)}{v:PV}(hp:HY (VR g σ n) parts b8)(hv:nB P t parts=some v):∃v',C0 P t b8=some v'∧VR g σ n v v':=by
 unfold nB at hv
 split at hv
 ·rename_i z fields hz hu
  obtain⟨z',h1,h2⟩:=xh (g:=g) hz
  split at hv
  ·rename_i l hl
   obtain⟨cs,h3,rfl⟩:=cZ hv
   obtain⟨ao,h4,h5⟩:=E6 hp h2.vr h3
   exact⟨.agg ao.toArray,by simp only[C0,h1,hu,hl,h4,Option.map_some],Dl h5⟩
  cases hv
 ·rename_i z m e hz hu
  obtain⟨z',h1,h2⟩:=xh (g:=g) hz
  split at hv
  ·rename_i sz hl
   obtain⟨cs,h3,rfl⟩:=cZ hv
   obtain⟨ao,h4,h5⟩:=E6 hp h2.vr h3
   exact⟨.agg ao.toArray,by simp only[C0,h1,hu,hl,h4,Option.map_some],Dl h5⟩
  cases hv
 cases hv
def cB (z:List PV)(n:Nat):List PV:=(List.replicate n z).flatten
theorem Dn {R:PV→Value→Prop}{z:List PV}{z':List Value}(hz:bc R z z'):∀n,bc R (cB z n) (cJ z' n)
 |0=>.nil
 |n+1=>by
  simp only[cB,List.replicate_succ,List.flatten_cons,cJ]
  exact hz.append (Dn hz n)
theorem PG (s:VS lo g σ vh h){ag:Bool}{cs:List PV}{ao:List Value}{sz len k:Nat}(h0:0<sz)(BB:len≤k)(hk:k<ar)(hc:bc (FR g) cs ao) :
  iH lo g σ vh h (.own vh.next 0 len k) (vh.alloc (.arr ag sz cs)) (.slice (some ⟨h.next,0,none⟩) len k) (h.alloc (.cells 0 ao)):=by
 have cp:∀i,i<vh.next→(σ.put vh.next (h.next,0,0)) i=σ i:=fun i hi=>Sg.xg _ _ (by omega)
 obtain⟨h1,h2⟩:=s.alloc (x:=.arr ag sz cs) (.cells 0 ao) 0 ⟨h0,0,ao,by rw[Sg.ct,ae.gX,if_pos rfl],by rw[Sg.ct],hc⟩
 refine⟨_,?_,h1,h2,Nat.le_succ _,cp⟩
 have:=VR.own (g:=g) (σ:=σ.put vh.next (h.next,0,0)) (n:=(vh.alloc (.arr ag sz cs)).next) vh.next 0 len k h.next 0 0 (Nat.lt_succ_self _) (Sg.ct _ _ _) BB hk
 simpa using this
def oV (P:Program)(vh:ah)(t:TypeId)(len:Nat)(parts:List (Nat×PV)):Option (PV×ah):=
 match fS P t with
 |some (e,n)=>
  match eB P e,bB P e with
  |some z,some ag=>
   bif Nat.beq z.length n&&Nat.ble (len*n) 16777216&&Nat.blt 0 n then
    match gI (fun i=>some (i*n,n)) (cB z len) parts with
    |some cs=>bif PV.aG cs then some (.own vh.next 0 len len,vh.alloc (.arr ag n cs)) else none
    |none=>none
   else none
  |_,_=>none
 |none=>none
theorem Xm (s:VS lo g σ vh h){t:TypeId}{len:Nat}{parts:List (Nat×PV)}{b8:List (Nat×Value)}{v:PV}{ak:ah}(hp:HY (VR g σ vh.next) parts b8)(hv:oV P vh t len parts=some (v,ak)) :
  ∃v' h',C4 P h t len b8=some (v',h')∧iH lo g σ vh h v ak v' h':=by
 unfold oV at hv
 split at hv
 ·rename_i e n ht
  split at hv
  ·rename_i z ag hz dQ
   obtain⟨z',h1,h2⟩:=xh (g:=g) hz
   cases hb:(Nat.beq z.length n&&Nat.ble (len*n) 16777216&&Nat.blt 0 n) with
   |false=>rw[hb] at hv;cases hv
   |true=>
    rw[hb] at hv
    simp only[aJ] at hv
    split at hv
    ·rename_i cs hf
     cases ha:PV.aG cs with
     |false=>rw[ha] at hv;cases hv
     |true=>
      rw[ha] at hv
      simp only[aJ,ax,bI] at hv
      obtain⟨rfl,rfl⟩:=hv
      obtain⟨ao,h4,h5⟩:=E6 hp (Dn h2.vr len) hf
      have oB:(Nat.beq z'.length n&&Nat.ble (len*n) 16777216&&Nat.blt 0 n)=true:=by rw[← h2.1];exact hb
      simp only[bR,Nat.blt_eq,Nat.ble_eq] at hb
      have hlen:len≤len*n:=Nat.le_mul_of_pos_right _ hb.2
      have:(16777216:Nat)<ar:=by decide
      exact⟨_,_,by simp only[C4,ht,h1,oB,aJ,h4],PG s hb.2 (Nat.le_refl _) (by omega) (h5.aB ha)⟩
    cases hv
  cases hv
 cases hv
def oX (P:Program)(vh:ah)(t:TypeId)(l c:PV):Option (PV×ah):=
 match l,c,fS P t with
 |.int .i64 l,.int .i64 c,some (e,n)=>
  match eB P e,(P.info? e).map (·.bytes),bB P e with
  |some z,some bytes,some ag=>
   bif decide (0≤l∧l≤c∧c≤4294967296)&&Nat.beq z.length n&&Nat.ble bytes 4096&&Nat.blt 0 n then
    some (.own vh.next 0 l.toNat c.toNat,vh.alloc (.arr ag n (cB z c.toNat)))
   else none
  |_,_,_=>none
 |_,_,_=>none
theorem Xn (s:VS lo g σ vh h){t:TypeId}{l c v:PV}{l' c':Value}{ak:ah}(hl:VR g σ vh.next l l')(hc:VR g σ vh.next c c')(hv:oX P vh t l c=some (v,ak)) :
  ∃v' h',C5 P h t l' c'=some (v',h')∧iH lo g σ vh h v ak v' h':=by
 unfold oX at hv
 split at hv
 ·rename_i l c e n ht
  have:=hl.aB rfl;cases this
  have:=hc.aB rfl;cases this
  split at hv
  ·rename_i z bytes ag hz nC dQ
   obtain⟨z',h1,h2⟩:=xh (g:=g) hz
   cases hb:(decide (0≤l∧l≤c∧c≤4294967296)&&Nat.beq z.length n&&Nat.ble bytes 4096&&Nat.blt 0 n) with
   |false=>rw[hb] at hv;cases hv
   |true=>
    rw[hb] at hv
    simp only[aJ,ax,bI] at hv
    obtain⟨rfl,rfl⟩:=hv
    simp only[bR,decide_eq_true_eq,Nat.blt_eq,Nat.ble_eq] at hb
    obtain⟨⟨⟨⟨gG,cK,oa⟩,BJ⟩,KG⟩,E7⟩:=hb
    have C9:z'.length=n:=by rw[← h2.1];simpa using BJ
    cases l with
    |negSucc l=>omega
    |ofNat l=>
     cases c with
     |negSucc c=>omega
     |ofNat c=>
      have e1:l≤c:=by have:(l:Int)≤(c:Int):=cK;omega
      have e2:c≤4294967296:=by have:(c:Int)≤4294967296:=oa;omega
      have e3:bytes*c≤4096*4294967296:=Nat.mul_le_mul KG e2
      have cN:(Nat.beq z'.length n&&Nat.ble l c&&Nat.ble (bytes*c) 281474976710656&&Nat.blt 0 n&&Nat.ble c 281474976710656)=true:=by
       simp only[bR,Nat.ble_eq,Nat.blt_eq]
       exact⟨⟨⟨⟨by rw[C9];exact Nat.beq_refl n,e1⟩,by omega⟩,E7⟩,by omega⟩
      have:(4294967296:Nat)<ar:=by decide
      exact⟨.slice (some ⟨h.next,0,none⟩) l c,h.alloc (.cells 0 (cJ z' c)),by simp only[C5,ht,h1,nC,cN,aJ],PG s E7 e1 (by omega) (Dn h2 c)⟩
  cases hv
 cases hv
def qD (P:Program)(vh:ah)(t:TypeId)(p v:PV):Option ah:=
 match p with
 |.ptr i off=>
  match vh.get i,dc P t with
  |some (.box cs),some n=>bif Nat.beq v.cells.length n&&v.cells.all PV.one&&Nat.ble (off+n) cs.length then some (vh.put i (.box (jP cs off v.cells))) else none
  |some (.arr ag sz cs),some n=>bif Nat.beq v.cells.length n&&v.cells.all PV.one&&Nat.ble (off+n) cs.length&&PV.aG v.cells then some (vh.put i (.arr ag sz (jP cs off v.cells))) else none
  |_,_=>none
 |_=>none
theorem Xo (s:VS lo g σ vh h){t:TypeId}{p v:PV}{p' v':Value}{ak:ah}(hp:VR g σ vh.next p p')(pJ:VR g σ vh.next v v')(hv:qD P vh t p v=some ak) :
  ∃h',CX P lo h t p' v'=some h'∧iH lo g σ vh h (.bp []) ak Go.undef h':=by
 unfold qD at hv
 split at hv
 ·rename_i i off
  cases hp with
  |fr _ _ h=>cases h
  |ptr _ _ o a k hi hs=>
   have iD:=pJ.cells
   split at hv
   ·rename_i cs n hg hn
    cases hb:(Nat.beq v.cells.length n&&v.cells.all PV.one&&Nat.ble (off+n) cs.length) with
    |false=>rw[hb] at hv;cases hv
    |true=>
     rw[hb] at hv;simp only[aJ,ax] at hv;subst hv
     obtain⟨s0,ao,h1,h2,h3⟩:=(s.obj i _ hg).2
     have bC:=s.low i _ hg rfl
     simp only[bR,Nat.ble_eq,Nat.beq_eq_true_eq] at hb
     obtain⟨⟨gG,cK⟩,oa⟩:=hb
     have h4:=s.write hg rfl (x':=.box (jP cs off v.cells)) (.cells s0 (e9 ao off v'.cells.toList)) ⟨s0,_,by rw[ae.dB _ _ _ _ (ae.fC h1),if_pos rfl],h2,h3.e9 off iD⟩
     rw[hs] at h1 h2 bC h4
     simp only at h1 h2 bC h4;subst h2
     have cN:(Nat.ble lo o&&Nat.beq v'.cells.toList.length n&&v'.cells.toList.all (·.oneCell')&&Nat.ble (0+off+n) ao.length)=true:=by
      simp only[bR,Nat.ble_eq,Nat.beq_eq_true_eq]
      exact⟨⟨⟨bC,by rw[← iD.1];exact gG⟩,iD.vd cK⟩,by rw[← h3.1];omega⟩
     rw[Nat.zero_add] at cN ⊢
     refine⟨_,by simp only[CX,h1,hn,cN,aJ],σ,.fr _ _ ?_,h4.1,h4.2,Nat.le_refl _,fun _ _=>rfl⟩
     exact .bp [] #[] rfl (fun i v v' h=>by simp at h)
   ·rename_i ag sz cs n hg hn
    cases hb:(Nat.beq v.cells.length n&&v.cells.all PV.one&&Nat.ble (off+n) cs.length&&PV.aG v.cells) with
    |false=>rw[hb] at hv;cases hv
    |true=>
     rw[hb] at hv;simp only[aJ,ax] at hv;subst hv
     obtain⟨h0,s0,ao,h1,h2,h3⟩:=(s.obj i _ hg).2
     have bC:=s.low i _ hg rfl
     simp only[bR,Nat.ble_eq,Nat.beq_eq_true_eq] at hb
     obtain⟨⟨⟨gG,cK⟩,oa⟩,BJ⟩:=hb
     have h4:=s.write hg rfl (x':=.arr ag sz (jP cs off v.cells)) (.cells s0 (e9 ao off v'.cells.toList)) ⟨h0,s0,_,by rw[ae.dB _ _ _ _ (ae.fC h1),if_pos rfl],h2,h3.e9 off (iD.aB BJ)⟩
     rw[hs] at h1 h2 bC h4
     simp only at h1 h2 bC h4;subst h2
     have cN:(Nat.ble lo o&&Nat.beq v'.cells.toList.length n&&v'.cells.toList.all (·.oneCell')&&Nat.ble (0+off+n) ao.length)=true:=by
      simp only[bR,Nat.ble_eq,Nat.beq_eq_true_eq]
      exact⟨⟨⟨bC,by rw[← iD.1];exact gG⟩,iD.vd cK⟩,by rw[← h3.1];omega⟩
     rw[Nat.zero_add] at cN ⊢
     refine⟨_,by simp only[CX,h1,hn,cN,aJ],σ,.fr _ _ ?_,h4.1,h4.2,Nat.le_refl _,fun _ _=>rfl⟩
     exact .bp [] #[] rfl (fun i v v' h=>by simp at h)
   cases hv
 cases hv
end
section
variable {P:Program} {lo:Nat} {g:Fz} {σ:Sg} {vh:ah} {h:ae}
theorem Ae {n:Nat}:∀ {es:List PV},(∀e∈es,e.cells.length=n)→(es.flatMap PV.cells).length=es.length*n
 |[],_=>by simp
 |e::r,hl=>by
  simp only[List.flatMap_cons,List.length_append,List.length_cons]
  rw[Ae fun x hx=>hl x (List.mem_cons_of_mem _ hx),hl e (by simp),Nat.succ_mul]
  omega
theorem PH {R:PV→Value→Prop}{n:Nat}{ao:List Value}:∀ {es:List PV} {off:Nat},(∀e∈es,e.cells.length=n)→(∀(i:Nat) e (j:Nat) v v',es[i]?=some e→e.cells[j]?=some v→ao[off+i*n+j]?=some v'→R v v')→
  off+es.length*n≤ao.length→bc R (es.flatMap PV.cells) ((ao.drop off).take (es.length*n))
 |[],off,_,_,_=>by simp only[List.flatMap_nil,List.length_nil,Nat.zero_mul,List.take_zero];exact .nil
 |e::r,off,hl,hr,hlen=>by
  simp only[List.length_cons,Nat.succ_mul] at hlen
  have he:=hl e (by simp)
  have ih:=PH (R:=R) (n:=n) (ao:=ao) (es:=r) (off:=off+n) (fun x hx=>hl x (List.mem_cons_of_mem _ hx)) (fun i x j v v' hx hv aX=>hr (i+1) x j v v' (by simpa using hx) hv (by rw[Nat.succ_mul,show off+(i*n+n)+j=off+n+i*n+j by omega];exact aX)) (by omega)
  have h1:bc R e.cells ((ao.drop off).take n):=⟨by simp;omega,fun j v v' hv aX=>by
   rw[List.getElem?_take] at aX
   split at aX
   ·rw[List.getElem?_drop] at aX
    exact hr 0 e j v v' (by simp) hv (by simpa using aX)
   cases aX⟩
  have h2:=h1.append ih
  simp only[List.flatMap_cons,List.length_cons,Nat.succ_mul]
  have h3:(ao.drop off).take (r.length*n+n)=(ao.drop off).take n++(ao.drop (off+n)).take (r.length*n):=by
   rw[Nat.add_comm,List.take_add,List.drop_drop]
  rw[h3];exact h2
theorem E8 {R:PV→Value→Prop}{n:Nat}:∀ {es:List PV} {ao:List Value},(∀e∈es,e.cells.length=n)→bc R (es.flatMap PV.cells) ao→∀(i:Nat) e (j:Nat) v v',es[i]?=some e→e.cells[j]?=some v→ao[i*n+j]?=some v'→R v v'
 |[],_,_,_,i,e,j,v,v',he,_,_=>by simp at he
 |x::r,ao,hl,hr,i,e,j,v,v',he,hv,aX=>by
  have hx:=hl x (by simp)
  simp only[List.flatMap_cons] at hr
  cases i with
  |zero=>
   simp at he;subst he
   have hj:j<x.cells.length:=by
    rcases Nat.lt_or_ge j x.cells.length with h|h
    ·exact h
    rw[List.getElem?_eq_none h] at hv;cases hv
   exact hr.2 j v v' (by rw[List.getElem?_append_left hj];exact hv) (by simpa using aX)
  |succ i=>
   have h2:bc R (r.flatMap PV.cells) (ao.drop n):=by
    have:=hr.drop n
    rwa [show (x.cells++r.flatMap PV.cells).drop n=r.flatMap PV.cells by rw[← hx];simp] at this
   exact E8 (fun y hy=>hl y (List.mem_cons_of_mem _ hy)) h2 i e j v v' (by simpa using he) hv (by rw[List.getElem?_drop,show n+(i*n+j)=(i+1)*n+j by rw[Nat.succ_mul];omega];exact aX)
theorem Xp {n:Nat}{es:List PV}(h:kj n es=true):∀e∈es,e.cells.length=n:=fun e he=>by
 unfold kj at h
 rw[List.all_eq_true] at h
 simpa using h e he
def chunk (ag:Bool)(sz n:Nat)(cs:List PV):List PV:=bif ag then (List.range n).map fun i=>.agg ((cs.drop (i*sz)).take sz) else cs.take n
theorem KH {sz:Nat}:∀ {n:Nat} {cs:List PV},n*sz≤cs.length→(chunk true sz n cs).flatMap PV.cells=cs.take (n*sz)
 |0,cs,_=>by simp[chunk]
 |n+1,cs,h=>by
  have ih:=KH (sz:=sz) (n:=n) (cs:=cs.drop sz) (by rw[Nat.succ_mul] at h;simp;omega)
  simp only[chunk,aJ] at ih ⊢
  rw[List.range_succ_eq_map,List.map_cons,List.flatMap_cons,List.map_map]
  have he:((fun i=>PV.agg ((cs.drop (i*sz)).take sz))∘Nat.succ)=fun i=>PV.agg (((cs.drop sz).drop (i*sz)).take sz):=by
   funext i
   simp only[Function.comp,List.drop_drop]
   rw[Nat.succ_mul,Nat.add_comm sz]
  rw[he,ih]
  simp only[Nat.zero_mul,List.drop_zero,PV.cells]
  rw[Nat.succ_mul,Nat.add_comm (n*sz),List.take_add]
theorem PI:∀ {n:Nat} {cs:List PV},kj 1 (cs.take n)=true→cs.all PV.one=true→(chunk false 1 n cs).flatMap PV.cells=cs.take n
 |n,cs,_,ho=>by
  simp only[chunk,bl]
  have h1:∀l:List PV,l.all PV.one=true→l.flatMap PV.cells=l:=fun l=>by
   induction l with
   |nil=>intro _;rfl
   |cons e r ih=>
    intro h
    simp only[List.all_cons,bR] at h
    rw[List.flatMap_cons,ih h.2]
    cases e<;>first|rfl|(simp[PV.one] at h)
  exact h1 _ (by rw[List.all_eq_true] at ho ⊢;exact fun x hx=>ho x (List.mem_of_mem_take hx))
def jw (vh:ah)(n:Nat)(x:PV):Option (List PV):=
 match x with
 |.aF=>some []
 |.e0=>some []
 |.vec es=>bif kj n es then some es else none
 |.own i off len _=>match vh.get i with
  |some (.arr ag sz cs)=>bif Nat.beq sz n&&(ag||(Nat.beq sz 1&&cs.all PV.one))&&Nat.ble (off+len*n) cs.length then some (chunk ag sz len (cs.drop off)) else none
  |_=>none
 |.sub i off len=>match vh.get i with
  |some (.arr ag sz cs)=>bif Nat.beq sz n&&(ag||(Nat.beq sz 1&&cs.all PV.one))&&Nat.ble (off+len*n) cs.length then some (chunk ag sz len (cs.drop off)) else none
  |_=>none
 |.grow i m _=>bif Nat.beq m 0 then some [] else match vh.get i with
  |some (.grow sz es)=>bif Nat.beq sz n&&Nat.beq es.length m then some es else none
  |_=>none
 |_=>none
theorem Dq (s:VS lo g σ vh h){n:Nat}(hn:0<n){x:PV}{x':Value}{es:List PV}(hx:VR g σ vh.next x x')(he:jw vh n x=some es) :
  jB x'=some es.length∧(∀e∈es,e.cells.length=n)∧∀m,m≤es.length→∃bk,nW h n x' m=some bk∧bc (FR g) ((es.take m).flatMap PV.cells) bk:=by
 have nil:∀ {x':Value},∀m,m≤([]:List PV).length→∃bk,nW h n x' m=some bk∧bc (FR g) ((([]:List PV).take m).flatMap PV.cells) bk:=fun m hm=>by
  have:m=0:=by simpa using hm
  subst this
  exact⟨[],by simp[nW],.nil⟩
 have src:∀ {o off k s0:Nat} {ao:List Value} {es:List PV},h.get o=some (.cells s0 ao)→off+es.length*n≤ao.length→(∀e∈es,e.cells.length=n)→bc (FR g) (es.flatMap PV.cells) ((ao.drop off).take (es.length*n))→
   ∀m,m≤es.length→∃bk,nW h n (.slice (some ⟨o,off,none⟩) es.length k) m=some bk∧bc (FR g) ((es.take m).flatMap PV.cells) bk:=fun {o off k s0 ao es} hg hlen hl hr m hm=>by
  rcases jM m 0 with⟨hq,bZ⟩|⟨hq,bZ⟩
  ·subst bZ;exact⟨[],by simp[nW],by simp;exact .nil⟩
  have h1:m*n≤es.length*n:=Nat.mul_le_mul_right _ hm
  have h2:Nat.ble (off+m*n) ao.length=true:=by rw[Nat.ble_eq];omega
  refine⟨(ao.drop off).take (m*n),by simp only[nW,hq,bl,hg,h2,aJ],?_⟩
  have h3:=hr.take (m*n)
  rw[List.take_take,Nat.min_eq_left h1] at h3
  have h4:(es.flatMap PV.cells).take (m*n)=(es.take m).flatMap PV.cells:=by
   have h5:es.flatMap PV.cells=(es.take m).flatMap PV.cells++(es.drop m).flatMap PV.cells:=by rw[← List.flatMap_append,List.take_append_drop]
   have h6:=Ae (es:=es.take m) fun e he=>hl e (List.mem_of_mem_take he)
   rw[h5,List.take_left' (by rw[h6,List.length_take,Nat.min_eq_left hm])]
  rw[h4] at h3;exact h3
 unfold jw at he
 split at he
 ·injection he with he;subst he
  have:=hx.aB rfl;cases this
  exact⟨rfl,by simp,nil⟩
 ·injection he with he;subst he
  have:=hx.aB rfl;cases this<;>exact⟨rfl,by simp,nil⟩
 ·rename_i Af
  cases bg:kj n Af with
  |false=>rw[bg] at he;cases he
  |true=>
   rw[bg] at he;simp only[aJ,ax] at he;subst he
   have hl:=Xp bg
   have:=hx.aB rfl
   cases this with
   |fc=>exact⟨rfl,by simp,nil⟩
   |da=>exact⟨rfl,by simp,nil⟩
   |vec _ o off k s0 sz ao hk dI hg h0 e8 hlen r=>
    refine⟨rfl,hl,?_⟩
    by_cases oY:Af=[]
    ·subst oY;exact nil
    have:sz=n:=by
     have h1:0<Af.length:=by
      cases Af with
      |nil=>exact absurd rfl oY
      |cons=>simp
     rw[← e8 0 Af[0] (by simp[h1])]
     exact hl _ (List.getElem_mem h1)
    subst this
    exact src (s.fz _ _ hg) hlen hl (PH hl r hlen)
 ·rename_i i off len k
  split at he
  ·rename_i ag sz cs tV
   cases hb:(Nat.beq sz n&&(ag||(Nat.beq sz 1&&cs.all PV.one))&&Nat.ble (off+len*n) cs.length) with
   |false=>rw[hb] at he;cases he
   |true=>
    rw[hb] at he;simp only[aJ,ax] at he;subst he
    simp only[bR,Bool.or_eq_true,Nat.ble_eq,beq_eq,decide_eq_true_eq] at hb
    obtain⟨⟨gG,cK⟩,oa⟩:=hb
    subst gG
    obtain⟨h0,s0,ao,h1,h2,h3⟩:=(s.obj i _ tV).2
    cases hx with
    |fr _ _ h=>cases h
    |own _ _ _ _ o a kk hi hs hl hk=>
     rw[hs] at h1 h2;simp only at h1 h2;subst h2
     have ep:∀e∈chunk ag sz len (cs.drop off),e.cells.length=sz:=by
      intro e sI
      cases ag with
      |true=>
       simp only[chunk,aJ,List.mem_map,List.mem_range] at sI
       obtain⟨i,hi,rfl⟩:=sI
       have:i*sz+sz≤len*sz:=by rw[← Nat.succ_mul];exact Nat.mul_le_mul_right _ hi
       simp[PV.cells];omega
      |false=>
       simp only[Bool.false_eq_true,false_or] at cK
       simp only[chunk,bl] at sI
       have h5:=(List.all_eq_true.1 cK.2) e (List.mem_of_mem_drop (List.mem_of_mem_take sI))
       rw[cK.1]
       cases e<;>first|rfl|(simp[PV.one] at h5)
     have hlen:(chunk ag sz len (cs.drop off)).length=len:=by
      cases ag with
      |true=>simp[chunk]
      |false=>
       simp only[Bool.false_eq_true,false_or] at cK
       have:=cK.1;subst this
       simp[chunk];omega
     have kQ:(chunk ag sz len (cs.drop off)).flatMap PV.cells=(cs.drop off).take (len*sz):=by
      cases ag with
      |true=>exact KH (by simp;omega)
      |false=>
       simp only[Bool.false_eq_true,false_or] at cK
       have:=cK.1;subst this
       have bg:(cs.drop off).all PV.one=true:=by rw[List.all_eq_true];exact fun x hx=>(List.all_eq_true.1 cK.2) x (List.mem_of_mem_drop hx)
       have h1:kj 1 ((cs.drop off).take len)=true:=by
        unfold kj
        rw[List.all_eq_true]
        intro e sI
        have h5:=(List.all_eq_true.1 bg) e (List.mem_of_mem_take sI)
        cases e<;>first|rfl|(simp[PV.one] at h5)
       rw[PI h1 bg,Nat.mul_one]
     refine⟨by simp only[jB];rw[hlen],ep,?_⟩
     have h4:bc (FR g) ((chunk ag sz len (cs.drop off)).flatMap PV.cells) ((ao.drop off).take ((chunk ag sz len (cs.drop off)).length*sz)):=by
      rw[kQ,hlen];exact(h3.drop off).take _
     have h5:=src (o:=o) (off:=off) (k:=k) h1 (by rw[hlen,← h3.1];exact oa) ep h4
     rw[hlen] at h5
     rw[Nat.zero_add,hlen];exact h5
  cases he
 ·rename_i i off len
  split at he
  ·rename_i ag sz cs tV
   cases hb:(Nat.beq sz n&&(ag||(Nat.beq sz 1&&cs.all PV.one))&&Nat.ble (off+len*n) cs.length) with
   |false=>rw[hb] at he;cases he
   |true=>
    rw[hb] at he;simp only[aJ,ax] at he;subst he
    simp only[bR,Bool.or_eq_true,Nat.ble_eq,beq_eq,decide_eq_true_eq] at hb
    obtain⟨⟨gG,cK⟩,oa⟩:=hb
    subst gG
    obtain⟨h0,s0,ao,h1,h2,h3⟩:=(s.obj i _ tV).2
    cases hx with
    |fr _ _ h=>cases h
    |sub _ _ _ k o a kk hi hs hl hk=>
     rw[hs] at h1 h2;simp only at h1 h2;subst h2
     have ep:∀e∈chunk ag sz len (cs.drop off),e.cells.length=sz:=by
      intro e sI
      cases ag with
      |true=>
       simp only[chunk,aJ,List.mem_map,List.mem_range] at sI
       obtain⟨i,hi,rfl⟩:=sI
       have:i*sz+sz≤len*sz:=by rw[← Nat.succ_mul];exact Nat.mul_le_mul_right _ hi
       simp[PV.cells];omega
      |false=>
       simp only[Bool.false_eq_true,false_or] at cK
       simp only[chunk,bl] at sI
       have h5:=(List.all_eq_true.1 cK.2) e (List.mem_of_mem_drop (List.mem_of_mem_take sI))
       rw[cK.1]
       cases e<;>first|rfl|(simp[PV.one] at h5)
     have hlen:(chunk ag sz len (cs.drop off)).length=len:=by
      cases ag with
      |true=>simp[chunk]
      |false=>
       simp only[Bool.false_eq_true,false_or] at cK
       have:=cK.1;subst this
       simp[chunk];omega
     have kQ:(chunk ag sz len (cs.drop off)).flatMap PV.cells=(cs.drop off).take (len*sz):=by
      cases ag with
      |true=>exact KH (by simp;omega)
      |false=>
       simp only[Bool.false_eq_true,false_or] at cK
       have:=cK.1;subst this
       have bg:(cs.drop off).all PV.one=true:=by rw[List.all_eq_true];exact fun x hx=>(List.all_eq_true.1 cK.2) x (List.mem_of_mem_drop hx)
       have h1:kj 1 ((cs.drop off).take len)=true:=by
        unfold kj
        rw[List.all_eq_true]
        intro e sI
        have h5:=(List.all_eq_true.1 bg) e (List.mem_of_mem_take sI)
        cases e<;>first|rfl|(simp[PV.one] at h5)
       rw[PI h1 bg,Nat.mul_one]
     refine⟨by simp only[jB];rw[hlen],ep,?_⟩
     have h4:bc (FR g) ((chunk ag sz len (cs.drop off)).flatMap PV.cells) ((ao.drop off).take ((chunk ag sz len (cs.drop off)).length*sz)):=by
      rw[kQ,hlen];exact(h3.drop off).take _
     have h5:=src (o:=o) (off:=off) (k:=k) h1 (by rw[hlen,← h3.1];exact oa) ep h4
     rw[hlen] at h5
     rw[Nat.zero_add,hlen];exact h5
  cases he
 ·rename_i i m nl
  rcases jM m 0 with⟨hq,bZ⟩|⟨hq,bZ⟩
  ·rw[hq] at he;simp only[aJ,ax] at he;subst he;subst bZ
   cases hx with
   |fr _ _ h=>cases h
   |bW=>exact⟨rfl,by simp,nil⟩
   |bX=>exact⟨rfl,by simp,nil⟩
   |grow _ _ _ _ _ _ _ _ hn=>omega
  rw[hq] at he;simp only[bl] at he
  split at he
  ·rename_i sz Af tV
   cases hb:(Nat.beq sz n&&Nat.beq Af.length m) with
   |false=>rw[hb] at he;cases he
   |true=>
    rw[hb] at he;simp only[aJ,ax] at he;subst he
    simp only[bR,Nat.beq_eq_true_eq] at hb
    obtain⟨gG,cK⟩:=hb
    have gG:sz=n:=by simpa using gG
    have cK:Af.length=m:=by simpa using cK
    subst gG
    obtain⟨h0,hl,KI,kF⟩:=(s.obj i _ tV).2
    rcases kF with rfl|⟨s0,ao,h1,h2,h3,h4⟩
    ·exact absurd cK.symm bZ
    cases hx with
    |fr _ _ h=>cases h
    |bW=>exact absurd rfl bZ
    |bX=>exact absurd rfl bZ
    |grow _ _ o a k _ hi hs hm=>
     subst cK
     rw[hs] at h1 h2;simp only at h1 h2;subst h2
     have kQ:=Ae hl
     refine⟨rfl,hl,src h1 (by rw[← kQ,h3.1];simp) hl ?_⟩
     rw[List.drop_zero,← kQ,h3.1,List.take_length];exact h3
  cases he
 cases he
end
end Go.Am
end
