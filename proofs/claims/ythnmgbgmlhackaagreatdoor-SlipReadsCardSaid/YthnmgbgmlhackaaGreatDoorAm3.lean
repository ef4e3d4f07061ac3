/-
 What is used in the proof of a statement (part Am3); no condition.
-/
import Derived.Laws.IdiomRangeMap
import Derived.Sort.Row
import Derived.Sort.Grow
import Derived.Shelf.SortM.Plain
import Derived.Test.YthnmgbgmlhackaaGreatDoorAm2
set_option linter.all false
set_option maxHeartbeats 40000000
set_option maxRecDepth 100000
section
namespace Go.Am
variable [bG]
section
variable {P:Program}
theorem WY {ts:aI}{t:Nat}{v:Value}(h:t<ts.length):(bA ts (some t) v).getD t Go.undef=v:=by
 simp[bA,h]
theorem Ph {ts:aI}{t u:Nat}{v:Value}(h:t≠u):(bA ts (some t) v).getD u Go.undef=ts.getD u Go.undef:=by
 rw[List.getD_eq_getElem?_getD,List.getD_eq_getElem?_getD,EO (by intro hh;injection hh with hh;exact h hh)]
section
variable {lo:Nat} {i j WZ W0 tI tN tB tE m it nT:Nat} {o1 o2 o3:Oper} {KE:Array Oper} {body:Code} {es:List (Value×Value)} {Inv:List (Value×Value)→aI→ah→Prop} {Q:kN}
end
end
section
variable {P:Program} {lo:Nat} {h:ah}
theorem mG.H5 {f:FuncId}{args:List Value}{R:Value→ah→Prop}
  (hc:∀U w a6,br U args a6.toList→Rel U lo h w→Calls P f a6 w fun e w'=>∃r v h' aQ,e=.returned v∧aj aQ r v∧Rel aQ lo h' w'∧Frame lo U h w aQ h' w'∧R r h'):mG P lo f args h R:=by
 intro F hF ox n U w a6 ha r
 rw[hF.eq ox]
 exact callsIn_wide.2 (hc U w a6 ha r)
theorem W2 {U:Mu}{w:World}(os:Array Obj)(n:Nat)(r:Rel U lo h w):Rel U lo h (Sort.grow (Sort.ahead w n) os)∧Frame lo U h w U h (Sort.grow (Sort.ahead w n) os):=by
 have hk:∀b,b<w.heap.size→(Sort.grow (Sort.ahead w n) os).heap[b]?=w.heap[b]?:=fun b hb=>by
  simp only[Sort.grow,Sort.heap_ahead,Array.getElem?_append,hb,if_true]
 refine⟨⟨fun o x hx=>?_,r.inj,r.nE,fun o x b a C hl hx hm off=>?_,r.bI,r.jE.step (by simp[Sort.grow]) (fun b hb _=>hk b hb) fun o x b a C h1 h2 h3 _=>⟨o,x,a,C,h1,h2,h3⟩⟩,⟨Mu.le_refl _,by simp[Sort.grow],Nat.le_refl _,fun b hb _=>hk b hb,fun _ _ h=>h,fun _ _=>rfl,fun _ _=>rfl,fun _ _ h=>h,⟨rfl,rfl,rfl,fun _=>by first|exact Nat.le_refl _|exact Nat.le_add_right _ _|exact Nat.le_succ _⟩⟩⟩
 ·obtain⟨b,a,C,h1,h2⟩:=r.bg o x hx
  exact⟨b,a,C,h1,h2.kept (hk b h2.qW)⟩
 rw[x9 (hk b (mZ r hx hm).qW)]
 exact r.eI o x b a C hl hx hm off
end
inductive PV where
  |bool (b:Bool)
  |int (k:IntKind) (n:Int)
  |str (s:ByteArray)
  |nilFunc
  |nilIface
  |eU
  |aG
  |dM
  |e0
  |func (f:FuncId) (xs ys:List PV)
  |agg (cs:List PV)
  |bn (cs:List PV)
  |iface (t:TypeId) (v:PV)
  |vec (es:List PV)
  |vp (cs:List PV)
  |aC (es:List (PV×PV))
  |ptr (i off:Nat)
  |own (i off len k:Nat)
  |sub (i off len:Nat)
  |grow (i n:Nat) (nl:Bool)
  |ba (i:Nat)
  |bw (i:Nat)
  deriving Inhabited
def PV.cells:PV→List PV
 |.agg cs=>cs
 |v=>[v]
mutual
def PV.aH:PV→Bool
 |.func _ xs ys=>PV.aJ xs&&PV.aJ ys
 |.agg cs=>PV.aJ cs
 |.bn cs=>PV.aJ cs
 |.iface _ v=>v.aH
 |.ptr .. | .own .. | .sub .. | .grow .. | .ba .. | .bw ..=>false
 |_=>true
def PV.aJ:List PV→Bool
 |[]=>true
 |v::r=>v.aH&&PV.aJ r
end
mutual
def PV.dU:PV→Bool
 |.func _ xs ys=>PV.gM xs&&PV.gM ys
 |.agg cs=>PV.gM cs
 |.bn cs=>PV.gM cs
 |.iface _ v=>v.dU
 |.bool .. | .int .. | .str .. | .nilFunc|.nilIface|.eU|.aG|.dM=>true
 |_=>false
def PV.gM:List PV→Bool
 |[]=>true
 |v::r=>v.dU&&PV.gM r
end
theorem PV.Dt:∀ {l:List PV} {i:Nat} {v:PV},PV.aJ l=true→l[i]?=some v→v.aH=true
 |[],i,v,_,h=>by simp at h
 |u::r,i,v,ha,h=>by
  simp only[PV.aJ,bV] at ha
  cases i with
  |zero=>simp at h;subst h;exact ha.1
  |succ i=>simp at h;exact PV.Dt ha.2 h
theorem PV.E8:∀ {l:List PV} {i:Nat} {v:PV},PV.gM l=true→l[i]?=some v→v.dU=true
 |[],i,v,_,h=>by simp at h
 |u::r,i,v,ha,h=>by
  simp only[PV.gM,bV] at ha
  cases i with
  |zero=>simp at h;subst h;exact ha.1
  |succ i=>simp at h;exact PV.E8 ha.2 h
theorem PV.Pj:∀ {l:List PV},(∀v∈l,v.aH=true)→PV.aJ l=true
 |[],_=>rfl
 |v::r,h=>by simp only[PV.aJ,bV];exact⟨h v (by simp),PV.Pj fun u hu=>h u (List.mem_cons_of_mem _ hu)⟩
abbrev Fz:=Nat→Option a7
inductive FR (g:Fz):PV→Value→Prop where
  |bool (b:Bool):FR g (.bool b) (.bool b)
  |int (k:IntKind) (n:Int):FR g (.int k n) (.int k n)
  |str (s:ByteArray):FR g (.str s) (.string s)
  |nilFunc:FR g .nilFunc .nilFunc
  |nilIface:FR g .nilIface .nilIface
  |eU:FR g .eU (.pointer none)
  |aG:FR g .aG (.slice none 0 0)
  |dM:FR g .dM (.map none)
  |tO:FR g .e0 (.slice none 0 0)
  |e0 (o off:Nat):FR g .e0 (.slice (some ⟨o,off,none⟩) 0 0)
  |func (f:FuncId) (xs ys:List PV) (bl dv:Array Value) (hx:xs.length=bl.size) (hy:ys.length=dv.size)
      (rx:∀(i:Nat) v v',xs[i]?=some v→bl[i]?=some v'→FR g v v') (ry:∀(i:Nat) v v',ys[i]?=some v→dv[i]?=some v'→FR g v v') :
      FR g (.func f xs ys) (.func (.func f) bl dv)
  |agg (cs:List PV) (ar:Array Value) (hs:cs.length=ar.size) (r:∀(i:Nat) v v',cs[i]?=some v→ar[i]?=some v'→FR g v v'):FR g (.agg cs) (.agg ar)
  |bn (cs:List PV) (ar:Array Value) (hs:cs.length=ar.size) (r:∀(i:Nat) v v',cs[i]?=some v→ar[i]?=some v'→FR g v v'):FR g (.bn cs) (.tuple ar)
  |iface (t:TypeId) (v:PV) (v':Value) (h:FR g v v'):FR g (.iface t v) (.iface t v')
  |fu:FR g (.vec []) (.slice none 0 0)
  |de (o off k:Nat):FR g (.vec []) (.slice (some ⟨o,off,none⟩) 0 k)
  |vec (es:List PV) (o off k s sz:Nat) (ar:List Value) (hk:es.length≤k) (dL:k+es.length<dI) (hg:g o=some (.cells s ar)) (h0:0<sz) (fp:∀(i:Nat) e,es[i]?=some e→e.cells.length=sz) (hlen:off+es.length*sz≤ar.length)
      (r:∀(i:Nat) e (j:Nat) v v',es[i]?=some e→e.cells[j]?=some v→ar[off+i*sz+j]?=some v'→FR g v v'):FR g (.vec es) (.slice (some ⟨o,off,none⟩) es.length k)
  |vp (cs:List PV) (o off s:Nat) (ar:List Value) (hg:g o=some (.cells s ar)) (hlen:off+cs.length≤ar.length)
      (r:∀(j:Nat) v v',cs[j]?=some v→ar[off+j]?=some v'→FR g v v'):FR g (.vp cs) (.pointer (some ⟨o,off,none⟩))
  |aC (es:List (PV×PV)) (o:Nat) (bh:List (Value×Value)) (hg:g o=some (.map bh)) (hlen:es.length=bh.length)
      (rk:∀(j:Nat) p p',es[j]?=some p→bh[j]?=some p'→FR g p.1 p'.1) (rv:∀(j:Nat) p p',es[j]?=some p→bh[j]?=some p'→FR g p.2 p'.2):FR g (.aC es) (.map (some o))
def Fz.le (g g':Fz):Prop:=∀o x,g o=some x→g' o=some x
theorem Fz.le_refl (g:Fz):g.le g:=fun _ _ h=>h
theorem Fz.le_trans {a b c:Fz}(h:a.le b)(h':b.le c):a.le c:=fun o x hx=>h' o x (h o x hx)
theorem FR.mono {g g':Fz}(hle:g.le g'){v:PV}{v':Value}(h:FR g v v'):FR g' v v':=by
 induction h with
 |bool b=>exact .bool b
 |int k n=>exact .int k n
 |str s=>exact .str s
 |nilFunc=>exact .nilFunc
 |nilIface=>exact .nilIface
 |eU=>exact .eU
 |aG=>exact .aG
 |dM=>exact .dM
 |tO=>exact .tO
 |e0 o off=>exact .e0 o off
 |func f xs ys bl dv hx hy _ _ rx ry=>exact .func f xs ys bl dv hx hy rx ry
 |agg cs ar hs _ r=>exact .agg cs ar hs r
 |bn cs ar hs _ r=>exact .bn cs ar hs r
 |iface t v v' _ ih=>exact .iface t v v' ih
 |fu=>exact .fu
 |de o off k=>exact .de o off k
 |vec es o off k s sz ar hk dL hg h0 fp hlen _ r=>exact .vec es o off k s sz ar hk dL (hle _ _ hg) h0 fp hlen r
 |vp cs o off s ar hg hlen _ r=>exact .vp cs o off s ar (hle _ _ hg) hlen r
 |aC es o bh hg hlen _ _ rk rv=>exact .aC es o bh (hle _ _ hg) hlen rk rv
abbrev Sg:=Nat→Nat×Nat×Nat
inductive VR (g:Fz) (σ:Sg) (n:Nat):PV→Value→Prop where
  |fr (v:PV) (v':Value) (h:FR g v v'):VR g σ n v v'
  |ptr (i off o a k:Nat) (hi:i<n) (h:σ i=(o,a,k)):VR g σ n (.ptr i off) (.pointer (some ⟨o,a+off,none⟩))
  |own (i off len k o a kk:Nat) (hi:i<n) (h:σ i=(o,a,kk)) (hl:len≤k) (hk:k<ay):VR g σ n (.own i off len k) (.slice (some ⟨o,a+off,none⟩) len k)
  |sub (i off len k o a kk:Nat) (hi:i<n) (h:σ i=(o,a,kk)) (hl:len≤k) (hk:k+len<dI):VR g σ n (.sub i off len) (.slice (some ⟨o,a+off,none⟩) len k)
  |bX (i:Nat) (nl:Bool):VR g σ n (.grow i 0 nl) (.slice none 0 0)
  |bY (i o off:Nat):VR g σ n (.grow i 0 false) (.slice (some ⟨o,off,none⟩) 0 0)
  |grow (i m o a k:Nat) (nl:Bool) (hi:i<n) (h:σ i=(o,a,k)) (hn:0<m):VR g σ n (.grow i m nl) (.slice (some ⟨o,a,none⟩) m k)
  |ba (i o a k:Nat) (hi:i<n) (h:σ i=(o,a,k)):VR g σ n (.ba i) (.map (some o))
  |bw (i o a k:Nat) (hi:i<n) (h:σ i=(o,a,k)):VR g σ n (.bw i) (.func (.yield o) #[] #[])
  |agg (cs:List PV) (ar:Array Value) (hs:cs.length=ar.size) (r:∀(i:Nat) v v',cs[i]?=some v→ar[i]?=some v'→VR g σ n v v'):VR g σ n (.agg cs) (.agg ar)
  |bn (cs:List PV) (ar:Array Value) (hs:cs.length=ar.size) (r:∀(i:Nat) v v',cs[i]?=some v→ar[i]?=some v'→VR g σ n v v'):VR g σ n (.bn cs) (.tuple ar)
  |func (f:FuncId) (xs ys:List PV) (bl dv:Array Value) (hx:xs.length=bl.size) (hy:ys.length=dv.size)
      (rx:∀(i:Nat) v v',xs[i]?=some v→bl[i]?=some v'→VR g σ n v v') (ry:∀(i:Nat) v v',ys[i]?=some v→dv[i]?=some v'→VR g σ n v v') :
      VR g σ n (.func f xs ys) (.func (.func f) bl dv)
theorem VR.mono {g g':Fz}{σ aO:Sg}{n n':Nat}(hle:g.le g')(hn:n≤n')(cu:∀i,i<n→aO i=σ i){v:PV}{v':Value}(h:VR g σ n v v'):VR g' aO n' v v':=by
 induction h with
 |fr v v' h=>exact .fr v v' (h.mono hle)
 |ptr i off o a k hi h=>exact .ptr i off o a k (by omega) ((cu i hi).trans h)
 |own i off len k o a kk hi h hl hk=>exact .own i off len k o a kk (by omega) ((cu i hi).trans h) hl hk
 |sub i off len k o a kk hi h hl hk=>exact .sub i off len k o a kk (by omega) ((cu i hi).trans h) hl hk
 |bX i nl=>exact .bX i nl
 |bY i o off=>exact .bY i o off
 |grow i m o a k nl hi h hn=>exact .grow i m o a k nl (by omega) ((cu i hi).trans h) hn
 |ba i o a k hi h=>exact .ba i o a k (by omega) ((cu i hi).trans h)
 |bw i o a k hi h=>exact .bw i o a k (by omega) ((cu i hi).trans h)
 |agg cs ar hs _ r=>exact .agg cs ar hs r
 |bn cs ar hs _ r=>exact .bn cs ar hs r
 |func f xs ys bl dv hx hy _ _ rx ry=>exact .func f xs ys bl dv hx hy rx ry
theorem PV.Pk {f:FuncId}{xs ys:List PV}:(PV.func f xs ys).aH=(PV.aJ xs&&PV.aJ ys):=by simp only[PV.aH]
theorem PV.KF {cs:List PV}:(PV.agg cs).aH=PV.aJ cs:=by simp only[PV.aH]
theorem PV.Pl {cs:List PV}:(PV.bn cs).aH=PV.aJ cs:=by simp only[PV.aH]
theorem VR.aH {g:Fz}{σ:Sg}{n:Nat}{v:PV}{v':Value}(h:VR g σ n v v'):v.aH=true→FR g v v':=by
 induction h with
 |fr v v' h=>exact fun _=>h
 |ptr=>intro h;simp[PV.aH] at h
 |own=>intro h;simp[PV.aH] at h
 |sub=>intro h;simp[PV.aH] at h
 |bX=>intro h;simp[PV.aH] at h
 |bY=>intro h;simp[PV.aH] at h
 |grow=>intro h;simp[PV.aH] at h
 |ba=>intro h;simp[PV.aH] at h
 |bw=>intro h;simp[PV.aH] at h
 |agg cs ar hs _ r=>intro h;rw[PV.KF] at h;exact .agg cs ar hs fun i v v' hv aW=>r i v v' hv aW (PV.Dt h hv)
 |bn cs ar hs _ r=>intro h;rw[PV.Pl] at h;exact .bn cs ar hs fun i v v' hv aW=>r i v v' hv aW (PV.Dt h hv)
 |func f xs ys bl dv hx hy _ _ rx ry=>intro h;rw[PV.Pk,bV] at h;exact .func f xs ys bl dv hx hy (fun i v v' hv aW=>rx i v v' hv aW (PV.Dt h.1 hv)) (fun i v v' hv aW=>ry i v v' hv aW (PV.Dt h.2 hv))
def be (R:PV→Value→Prop)(l:List PV)(l':List Value):Prop:=l.length=l'.length∧∀(i:Nat) v v',l[i]?=some v→l'[i]?=some v'→R v v'
section
variable {R R':PV→Value→Prop}
theorem be.mono (hm:∀v v',R v v'→R' v v'){l:List PV}{l':List Value}(h:be R l l'):be R' l l':=⟨h.1,fun i v v' a b=>hm _ _ (h.2 i v v' a b)⟩
theorem be.nil:be R [] []:=⟨rfl,fun i v v' h=>by simp at h⟩
theorem be.cons {v:PV}{v':Value}{l:List PV}{l':List Value}(hv:R v v')(h:be R l l'):be R (v::l) (v'::l'):=by
 refine⟨by simp[h.1],fun i u u' hu qk=>?_⟩
 cases i with
 |zero=>simp at hu qk;subst hu;subst qk;exact hv
 |succ i=>simp at hu qk;exact h.2 i u u' hu qk
theorem be.iW {l:List Value}(h:be R [] l):l=[]:=by
 have:=h.1;simp at this;exact List.eq_nil_of_length_eq_zero this.symm
theorem be.dw {v:PV}{l:List PV}{r:List Value}(h:be R (v::l) r):∃v' l',r=v'::l'∧R v v'∧be R l l':=by
 cases r with
 |nil=>have:=h.1;simp at this
 |cons v' l'=>exact⟨v',l',rfl,h.2 0 v v' (by simp) (by simp),by have:=h.1;simpa using this,fun i x x' hx tt=>h.2 (i+1) x x' (by simpa using hx) (by simpa using tt)⟩
theorem be.get {l:List PV}{l':List Value}(h:be R l l'){i:Nat}{v:PV}(hv:l[i]?=some v):∃v',l'[i]?=some v'∧R v v':=by
 have aY:i<l.length:=by
  rcases Nat.lt_or_ge i l.length with h|h
  ·exact h
  rw[List.getElem?_eq_none h] at hv;cases hv
 have:i<l'.length:=h.1▸aY
 exact⟨l'[i],by simp[this],h.2 i v _ hv (by simp[this])⟩
theorem be.append {l r:List PV}{l' r':List Value}(h:be R l l')(h2:be R r r'):be R (l++r) (l'++r'):=by
 refine⟨by simp[h.1,h2.1],fun i v v' hv aW=>?_⟩
 by_cases hi:i<l.length
 ·rw[List.getElem?_append_left hi] at hv
  rw[List.getElem?_append_left (by have:=h.1;omega)] at aW
  exact h.2 i v v' hv aW
 rw[List.getElem?_append_right (by omega)] at hv
 rw[List.getElem?_append_right (by have:=h.1;omega),← h.1] at aW
 exact h2.2 _ v v' hv aW
theorem be.take {l:List PV}{l':List Value}(n:Nat)(h:be R l l'):be R (l.take n) (l'.take n):=by
 refine⟨by simp[h.1],fun i v v' hv aW=>?_⟩
 rw[List.getElem?_take] at hv aW
 split at hv
 ·rename_i aY;simp only[aY,if_true] at aW;exact h.2 i v v' hv aW
 simp at hv
theorem be.drop {l:List PV}{l':List Value}(n:Nat)(h:be R l l'):be R (l.drop n) (l'.drop n):=by
 refine⟨by simp[h.1],fun i v v' hv aW=>?_⟩
 rw[List.getElem?_drop] at hv aW
 exact h.2 _ v v' hv aW
def kx (cs:List PV)(off:Nat)(vs:List PV):List PV:=cs.take off++vs++cs.drop (off+vs.length)
theorem be.fq {l r:List PV}{l' r':List Value}(off:Nat)(h:be R l l')(h2:be R r r'):be R (kx l off r) (fq l' off r'):=by
 unfold kx Go.Am.fq
 rw[h2.1]
 exact((h.take off).append h2).append (h.drop _)
theorem be.aH {g:Fz}{σ:Sg}{n:Nat}{l:List PV}{l':List Value}(h:be (VR g σ n) l l')(hf:PV.aJ l=true):be (FR g) l l':=⟨h.1,fun i v v' hv aW=>(h.2 i v v' hv aW).aH (PV.Dt hf hv)⟩
theorem be.vr {g:Fz}{σ:Sg}{n:Nat}{l:List PV}{l':List Value}(h:be (FR g) l l'):be (VR g σ n) l l':=h.mono fun _ _ h=>.fr _ _ h
end
theorem FR.cells {g:Fz}{v:PV}{v':Value}(h:FR g v v'):be (FR g) v.cells v'.cells.toList:=by
 cases h with
 |agg cs ar hs r=>exact⟨by simpa[PV.cells,Value.cells] using hs,fun i v v' hv aW=>r i v v' hv (by simpa[Value.cells] using aW)⟩
 |bool=>exact .cons (.bool _) .nil
 |int=>exact .cons (.int _ _) .nil
 |str=>exact .cons (.str _) .nil
 |nilFunc=>exact .cons .nilFunc .nil
 |nilIface=>exact .cons .nilIface .nil
 |eU=>exact .cons .eU .nil
 |aG=>exact .cons .aG .nil
 |dM=>exact .cons .dM .nil
 |tO=>exact .cons .tO .nil
 |e0 o off=>exact .cons (.e0 o off) .nil
 |func f xs ys bl dv hx hy rx ry=>exact .cons (.func f xs ys bl dv hx hy rx ry) .nil
 |bn cs ar hs r=>exact .cons (.bn cs ar hs r) .nil
 |iface t v v' h=>exact .cons (.iface t v v' h) .nil
 |fu=>exact .cons .fu .nil
 |de o off k=>exact .cons (.de o off k) .nil
 |vec es o off k s sz ar hk dL hg h0 fp hlen r=>exact .cons (.vec es o off k s sz ar hk dL hg h0 fp hlen r) .nil
 |vp cs o off s ar hg hlen r=>exact .cons (.vp cs o off s ar hg hlen r) .nil
 |aC es o bh hg hlen rk rv=>exact .cons (.aC es o bh hg hlen rk rv) .nil
theorem VR.cells {g:Fz}{σ:Sg}{n:Nat}{v:PV}{v':Value}(h:VR g σ n v v'):be (VR g σ n) v.cells v'.cells.toList:=by
 cases h with
 |fr _ _ h=>exact h.cells.vr
 |agg cs ar hs r=>exact⟨by simpa[PV.cells,Value.cells] using hs,fun i v v' hv aW=>r i v v' hv (by simpa[Value.cells] using aW)⟩
 |ptr i off o a k hi h=>exact .cons (.ptr i off o a k hi h) .nil
 |own i off len k o a kk hi h hl hk=>exact .cons (.own i off len k o a kk hi h hl hk) .nil
 |sub i off len k o a kk hi h hl hk=>exact .cons (.sub i off len k o a kk hi h hl hk) .nil
 |bX i nl=>exact .cons (.bX i nl) .nil
 |bY i o off=>exact .cons (.bY i o off) .nil
 |grow i m o a k nl hi h hn=>exact .cons (.grow i m o a k nl hi h hn) .nil
 |ba i o a k hi h=>exact .cons (.ba i o a k hi h) .nil
 |bw i o a k hi h=>exact .cons (.bw i o a k hi h) .nil
 |bn cs ar hs r=>exact .cons (.bn cs ar hs r) .nil
 |func f xs ys bl dv hx hy rx ry=>exact .cons (.func f xs ys bl dv hx hy rx ry) .nil
def PV.one:PV→Bool
 |.agg _=>false
 |.bn _=>false
 |_=>true
theorem FR.one {g:Fz}{v:PV}{v':Value}(h:FR g v v'):v'.oneCell'=v.one:=by cases h<;>rfl
theorem VR.one {g:Fz}{σ:Sg}{n:Nat}{v:PV}{v':Value}(h:VR g σ n v v'):v'.oneCell'=v.one:=by
 cases h with
 |fr _ _ h=>exact h.one
 |_=>rfl
theorem be.u7 {g:Fz}{σ:Sg}{n:Nat}{l:List PV}{l':List Value}(h:be (VR g σ n) l l')(ho:l.all PV.one=true):l'.all (·.oneCell')=true:=by
 rw[List.all_eq_true] at ho ⊢
 intro v' aW
 obtain⟨i,hi⟩:=List.getElem?_of_mem aW
 have aY:i<l'.length:=by
  rcases Nat.lt_or_ge i l'.length with h|h
  ·exact h
  rw[List.getElem?_eq_none h] at hi;cases hi
 have hl:i<l.length:=h.1▸aY
 rw[(h.2 i l[i] v' (by simp[hl]) hi).one]
 exact ho _ (List.getElem_mem hl)
inductive aL where
  |box (cs:List PV)
  |arr (ag:Bool) (sz:Nat) (cs:List PV)
  |grow (sz:Nat) (es:List PV)
  |map (es:List (PV×PV))
  |dD (es:List (PV×PV))
  |bR (es:List PV)
  |emap (es:List (PV×PV)) (k:Value) (born:Nat)
  |loop (N:Nat) (ps:Array Tmp) (assign body:Code) (ae:List (Nat×PV)) (jump:Option Code)
  deriving Inhabited
structure ai where
  next:Nat
  bg:List (Nat×aL)
def bs (i:Nat):List (Nat×aL)→Option aL
 |[]=>none
 |(j,x)::r=>bif Nat.beq i j then some x else bs i r
def ai.get (vh:ai)(i:Nat):Option aL:=bs i vh.bg
def ai.alloc (vh:ai)(x:aL):ai:=⟨vh.next+1,(vh.next,x)::vh.bg⟩
def dN (i:Nat)(x:aL):List (Nat×aL)→List (Nat×aL)
 |[]=>[]
 |(j,y)::r=>bif Nat.beq i j then (j,x)::dN i x r else (j,y)::dN i x r
def ai.put (vh:ai)(i:Nat)(x:aL):ai:=⟨vh.next,dN i x vh.bg⟩
def jz (i:Nat):List (Nat×aL)→List (Nat×aL)
 |[]=>[]
 |(j,y)::r=>bif Nat.beq i j then jz i r else (j,y)::jz i r
def ai.drop (vh:ai)(i:Nat):ai:=⟨vh.next,jz i vh.bg⟩
def ai.empty:ai:=⟨0,[]⟩
theorem beq_eq (i j:Nat):Nat.beq i j=decide (i=j):=by rw[Bool.eq_iff_iff];simp
theorem Pm (i j:Nat)(x:aL):∀l,bs j (dN i x l)=if j=i then (bs i l).map (fun _=>x) else bs j l
 |[]=>by simp[dN,bs]
 |(k,y)::r=>by
  have ih:=Pm i j x r
  simp only[dN,beq_eq]
  by_cases yF:i=k
  ·subst yF
   simp only[decide_true,aM,bs,beq_eq,ih]
   by_cases gY:j=i<;>simp[gY]
  simp only[yF,decide_false,bq,bs,beq_eq,ih]
  by_cases tP:j=k
  ·subst tP
   have:¬j=i:=fun h=>yF h.symm
   simp[this]
  by_cases gY:j=i
  ·subst gY;simp[tP]
  simp[tP,gY]
theorem KG (i j:Nat):∀l,bs j (jz i l)=if j=i then none else bs j l
 |[]=>by simp[jz,bs]
 |(k,y)::r=>by
  have ih:=KG i j r
  simp only[jz,beq_eq]
  by_cases yF:i=k
  ·subst yF
   simp only[decide_true,aM,bs,beq_eq,ih]
   by_cases gY:j=i<;>simp[gY]
  simp only[yF,decide_false,bq,bs,beq_eq,ih]
  by_cases tP:j=k
  ·subst tP
   have:¬j=i:=fun h=>yF h.symm
   simp[this]
  simp[tP]
theorem ai.ij (vh:ai)(x:aL)(j:Nat):(vh.alloc x).get j=if j=vh.next then some x else vh.get j:=by
 simp only[ai.get,ai.alloc,bs,beq_eq]
 by_cases h:j=vh.next<;>simp[h]
theorem ai.dH (vh:ai)(i j:Nat)(x y:aL)(hy:vh.get i=some y):(vh.put i x).get j=if j=i then some x else vh.get j:=by
 have hy:bs i vh.bg=some y:=hy
 simp only[ai.get,ai.put,Pm,hy,Option.map_some]
theorem ai.KH (vh:ai)(i j:Nat):(vh.drop i).get j=if j=i then none else vh.get j:=by
 simp only[ai.get,ai.drop,KG]
def aL.live:aL→Bool
 |.grow _ []=>false
 |_=>true
abbrev aX:=List (Nat×PV)
def cm (t:Nat):aX→Option PV
 |[]=>none
 |(u,v)::r=>bif Nat.beq t u then some v else cm t r
def VT (g:Fz)(σ:Sg)(n:Nat)(ae:aX)(ts:aI):Prop:=∀t v,cm t ae=some v→VR g σ n v (ts.getD t Go.undef)
def rj (g:Fz)(σ:Sg)(n:Nat)(h:ah)(i:Nat):aL→Prop
 |.box cs=>∃s ar,h.get (σ i).1=some (.cells s ar)∧(σ i).2.1=0∧be (VR g σ n) cs ar
 |.arr _ sz cs=>0<sz∧∃s ar,h.get (σ i).1=some (.cells s ar)∧(σ i).2.1=0∧be (FR g) cs ar
 | .grow sz es => 0 < sz ∧ (∀ e ∈ es, e.cells.length = sz) ∧ es.length < ay ∧ (es = [] ∨ ∃ s ar, h.get (σ i).1 = some (.cells s ar) ∧ (σ i).2.1 = 0 ∧ be (FR g) (es.flatMap PV.cells) ar ∧
  ((σ i).2.2=ay∧s=sz∨(σ i).2.2=es.length))
 |.map es=>∃bh,h.get (σ i).1=some (.map bh)∧(σ i).2.1=0∧be (FR g) (es.map (·.1)) (bh.map (·.1))∧be (FR g) (es.map (·.2)) (bh.map (·.2))
 |.dD es=>∃bh,h.get (σ i).1=some (.map bh)∧(σ i).2.1=0∧be (FR g) (es.map (·.1)) (bh.map (·.1))∧be (VR g σ n) (es.map (·.2)) (bh.map (·.2))
 |.bR es=>es≠[]∧(∀e∈es,e.cells=[e])∧es.length<ay∧∃s ar,h.get (σ i).1=some (.cells s ar)∧(σ i).2.1=0∧be (VR g σ n) es ar∧((σ i).2.2=ay∧s=1∨(σ i).2.2=es.length)
 |.emap es k born=>∃bh,h.get (σ i).1=some (.emap bh k born)∧(σ i).2.1=0∧be (FR g) (es.map (·.1)) (bh.map (·.1))∧be (FR g) (es.map (·.2)) (bh.map (·.2))
 |.loop N ps a bd ae jump=>∃L,h.get (σ i).1=some (.loop L jump)∧L.params=ps∧L.assign=a∧L.body=bd∧L.ts.length=N∧VT g σ n ae L.ts
structure VS (lo:Nat) (g:Fz) (σ:Sg) (vh:ai) (h:ah):Prop where
  obj:∀i x,vh.get i=some x→i<vh.next∧rj g σ vh.next h i x
  inj:∀i j x y,vh.get i=some x→vh.get j=some y→x.live=true→y.live=true→(σ i).1=(σ j).1→i=j
  low:∀i x,vh.get i=some x→x.live=true→lo≤(σ i).1
  fz:∀o x,g o=some x→h.get o=some x
  jf:∀i x,vh.get i=some x→x.live=true→g (σ i).1=none
  bI:lo≤h.next
theorem VT.mono {g g':Fz}{σ aO:Sg}{n n':Nat}(hle:g.le g')(hn:n≤n')(cu:∀i,i<n→aO i=σ i){ae:aX}{ts:aI}(h:VT g σ n ae ts):VT g' aO n' ae ts:=fun t v hv=>(h t v hv).mono hle hn cu
structure VF (σ:Sg) (vh:ai) (h:ah) (aO:Sg) (ak:ai) (h':ah):Prop where
  next:h.next≤h'.next
  fM:∀o,o<h.next→(∀i x,vh.get i=some x→x.live=true→(σ i).1≠o)→h'.get o=h.get o
  own:∀i x,ak.get i=some x→x.live=true→(aO i).1<h.next→∃j y,vh.get j=some y∧y.live=true∧(σ j).1=(aO i).1
theorem VF.refl (σ:Sg)(vh:ai)(h:ah):VF σ vh h σ vh h:=⟨Nat.le_refl _,fun _ _ _=>rfl,fun i x hx hl _=>⟨i,x,hx,hl,rfl⟩⟩
theorem VF.trans {σ o8 dq:Sg}{vh b9 aP:ai}{h h1 h2:ah}(a:VF σ vh h o8 b9 h1)(b:VF o8 b9 h1 dq aP h2):VF σ vh h dq aP h2 where
  next:=Nat.le_trans a.next b.next
  fM o ho hn:=by
    rw[b.fM o (Nat.lt_of_lt_of_le ho a.next) (fun i x hx hl he=>?_),a.fM o ho hn]
    obtain⟨j,y,hj,Bi,q9⟩:=a.own i x hx hl (he▸ho)
    exact hn j y hj Bi (q9.trans he)
  own i x hx hl aY:=by
    obtain⟨j,y,hj,Bi,q9⟩:=b.own i x hx hl (Nat.lt_of_lt_of_le aY a.next)
    obtain⟨k,z,hk,KI,tQ⟩:=a.own j y hj Bi (q9▸aY)
    exact⟨k,z,hk,KI,tQ.trans q9⟩
def rl:Value→Option PV
 |.bool b=>some (.bool b)
 |.int k n=>some (.int k n)
 |.string s=>some (.str s)
 |.nilFunc=>some .nilFunc
 |.nilIface=>some .nilIface
 |.pointer none=>some .eU
 |.slice none 0 0=>some .aG
 |.map none=>some .dM
 |_=>none
def gN:List Value→Option (List PV)
 |[]=>some []
 |v::r=>match rl v,gN r with
  |some p,some l=>some (p::l)
  |_,_=>none
def bp:Value→Option PV
 |.agg cs=>(gN cs.toList).map .agg
 |.tuple cs=>(gN cs.toList).map .bn
 |v=>rl v
theorem Pn {g:Fz}{v:Value}{p:PV}(h:rl v=some p):FR g p v∧tu v=true:=by
 unfold rl at h
 split at h<;>first|cases h;done|(injection h with h;subst h;first|exact⟨.bool _,rfl⟩|exact⟨.int _ _,rfl⟩|exact⟨.str _,rfl⟩|exact⟨.nilFunc,rfl⟩|exact⟨.nilIface,rfl⟩|exact⟨.eU,rfl⟩|exact⟨.aG,rfl⟩|exact⟨.dM,rfl⟩)
theorem H6 {g:Fz}:∀ {l:List Value} {ps:List PV},gN l=some ps→be (FR g) ps l∧l.all tu=true
 |[],ps,h=>by simp only[gN,az] at h;subst h;exact⟨.nil,rfl⟩
 |v::r,ps,h=>by
  simp only[gN] at h
  split at h
  ·rename_i p l h1 h2
   injection h with h;subst h
   have ih:=H6 (g:=g) h2
   have h3:=Pn (g:=g) h1
   exact⟨.cons h3.1 ih.1,by simp[h3.2,ih.2]⟩
  cases h
theorem yH {g:Fz}{v:Value}{p:PV}(h:bp v=some p):FR g p v∧kK v=true:=by
 unfold bp at h
 split at h
 ·obtain⟨l,h1,rfl⟩:=dd h
  have:=H6 (g:=g) h1
  exact⟨.agg _ _ (by simpa using this.1.1) (fun i v v' hv aW=>this.1.2 i v v' hv (by simpa using aW)),this.2⟩
 ·obtain⟨l,h1,rfl⟩:=dd h
  have:=H6 (g:=g) h1
  exact⟨.bn _ _ (by simpa using this.1.1) (fun i v v' hv aW=>this.1.2 i v v' hv (by simpa using aW)),this.2⟩
 rename_i hx hy
 have:=Pn (g:=g) h
 refine⟨this.1,?_⟩
 unfold kK
 split
 ·exact absurd rfl (hx _)
 ·exact absurd rfl (hy _)
 exact this.2
def cN (ae:aX):Operand→Option PV
 |.tmp t=>cm t ae
 |.const v=>bp v
 |.func f=>some (.func f [] [])
 |.global _=>none
section
variable {P:Program} {lo:Nat} {g:Fz} {σ:Sg} {vh:ai} {h:ah} {ae:aX} {ts:aI}
theorem eH {n:Nat}(ht:VT g σ n ae ts){x:Operand}{v:PV}(hv:cN ae x=some v):∃v',cP ts x=some v'∧VR g σ n v v':=by
 cases x with
 |tmp t=>exact⟨_,rfl,ht t v hv⟩
 |const u=>
  have:=yH (g:=g) hv
  exact⟨u,by simp[cP,this.2],.fr _ _ this.1⟩
 |func f=>
  simp only[cN,az] at hv;subst hv
  exact⟨_,rfl,.fr _ _ (.func f [] [] #[] #[] rfl rfl (fun i v v' h=>by simp at h) (fun i v v' h=>by simp at h))⟩
 |global=>simp[cN] at hv
def jL (ae:aX):List Operand→Option (List PV)
 |[]=>some []
 |x::r=>match cN ae x,jL ae r with
  |some v,some l=>some (v::l)
  |_,_=>none
theorem yI {n:Nat}(ht:VT g σ n ae ts):∀ {xs:List Operand} {l:List PV},jL ae xs=some l→∃l',nK ts xs=some l'∧be (VR g σ n) l l'
 |[],l,h=>by simp only[jL,az] at h;subst h;exact⟨[],rfl,.nil⟩
 |x::r,l,h=>by
  simp only[jL] at h
  split at h
  ·rename_i v l1 h1 h2
   injection h with h;subst h
   obtain⟨v',k1,k2⟩:=eH ht h1
   obtain⟨l',k3,k4⟩:=yI ht h2
   exact⟨v'::l',by simp[nK,k1,k3],.cons k2 k4⟩
  cases h
def o9 (ae:aX):List (Nat×Operand)→Option (List (Nat×PV))
 |[]=>some []
 |(i,x)::r=>match cN ae x,o9 ae r with
  |some v,some l=>some ((i,v)::l)
  |_,_=>none
def H7 (R:PV→Value→Prop)(l:List (Nat×PV))(l':List (Nat×Value)):Prop:=l.map (·.1)=l'.map (·.1)∧be R (l.map (·.2)) (l'.map (·.2))
theorem H8 {n:Nat}(ht:VT g σ n ae ts):∀ {xs:List (Nat×Operand)} {l:List (Nat×PV)},o9 ae xs=some l→∃l',tG ts xs=some l'∧H7 (VR g σ n) l l'
 |[],l,h=>by simp only[o9,az] at h;subst h;exact⟨[],rfl,rfl,.nil⟩
 |(i,x)::r,l,h=>by
  simp only[o9] at h
  split at h
  ·rename_i v l1 h1 h2
   injection h with h;subst h
   obtain⟨v',k1,k2⟩:=eH ht h1
   obtain⟨l',k3,k4,k5⟩:=H8 ht h2
   exact⟨(i,v')::l',by simp[tG,k1,k3],by simp[k4],.cons k2 k5⟩
  cases h
def iz:PV→Option Value
 |.bool b=>some (.bool b)
 |.int k n=>some (.int k n)
 |.str s=>some (.string s)
 |.nilFunc=>some .nilFunc
 |.nilIface=>some .nilIface
 |.eU=>some (.pointer none)
 |.aG=>some (.slice none 0 0)
 |.dM=>some (.map none)
 |_=>none
def gO:List PV→Option (List Value)
 |[]=>some []
 |v::r=>match iz v,gO r with
  |some p,some l=>some (p::l)
  |_,_=>none
def pa:PV→Option Value
 |.agg cs=>(gO cs).map fun l=>.agg l.toArray
 |v=>iz v
theorem Po {v:PV}{v' x:Value}(hv:FR g v v')(h:iz v=some x):v'=x:=by
 unfold iz at h
 split at h<;>first|cases h;done|(injection h with h;subst h;cases hv;rfl)
theorem Pp:∀ {l:List PV} {l' xs:List Value},be (FR g) l l'→gO l=some xs→l'=xs
 |[],l',xs,hl,h=>by simp only[gO,az] at h;subst h;exact hl.iW
 |v::r,l',xs,hl,h=>by
  simp only[gO] at h
  split at h
  ·rename_i p l h1 h2
   injection h with h;subst h
   obtain⟨v',r',rfl,k1,k2⟩:=hl.dw
   rw[Po k1 h1,Pp k2 h2]
  cases h
theorem Pq {v:PV}{x:Value}(h:iz v=some x):v.aH=true:=by
 unfold iz at h
 split at h<;>first|cases h;done|simp[PV.aH]
theorem Pr:∀ {l:List PV} {xs:List Value},gO l=some xs→PV.aJ l=true
 |[],_,_=>rfl
 |v::r,xs,h=>by
  simp only[gO] at h
  split at h
  ·rename_i h1 h2
   simp[PV.aJ,Pq h1,Pr h2]
  cases h
theorem E9 {n:Nat}{v:PV}{v' x:Value}(hv:VR g σ n v v')(h:pa v=some x):v'=x:=by
 unfold pa at h
 split at h
 ·obtain⟨l,h1,rfl⟩:=dd h
  have hf:=hv.aH (by rw[PV.KF];exact Pr h1)
  cases hf with
  |agg cs ar hs r=>
   have:=Pp (g:=g) (l':=ar.toList) ⟨by simpa using hs,fun i v v' hv aW=>r i v v' hv (by simpa using aW)⟩ h1
   rw[← this]
 exact Po (hv.aH (Pq h)) h
def iN (lo:Nat)(g:Fz)(σ:Sg)(vh:ai)(h:ah)(v:PV)(ak:ai)(v':Value)(h':ah):Prop:=
 ∃aO,VR g aO ak.next v v'∧VS lo g aO ak h'∧VF σ vh h aO ak h'∧vh.next≤ak.next∧∀i,i<vh.next→aO i=σ i
theorem iN.same {v:PV}{v':Value}(s:VS lo g σ vh h)(hv:VR g σ vh.next v v'):iN lo g σ vh h v vh v' h:=
 ⟨σ,hv,s,VF.refl _ _ _,Nat.le_refl _,fun _ _=>rfl⟩
def tR:PV→Option Bool
 |.vp _=>some false
 |.ptr _ _=>some false
 |_=>none
def tS:PV→Option Bool
 |.vec (_::_)=>some false
 |.own _ _ _ _=>some false
 |.sub _ _ _=>some false
 |.grow _ n true=>some (Nat.beq n 0)
 |.grow _ (_+1) false=>some false
 |_=>none
def pN (P:Program)(t:TypeId)(a b:PV):Option Bool:=
 match b,P.underlying t with
 |.eU,some (.pointer _)=>tR a
 |.aG,some (.slice _)=>tS a
 |_,_=>none
def kg (P:Program)(op:BinOp)(t:TypeId)(a b:PV):Option PV:=
 match pa a,pa b with
 |some x,some y=>(nc P op t x y).bind bp
 |_,_=>match op with
  |.eql=>(pN P t a b).map .bool
  |.neq=>(pN P t a b).map fun r=>.bool !r
  |_=>none
theorem Ps {n:Nat}{t:TypeId}{a b:PV}{a' b':Value}{r:Bool}(ha:VR g σ n a a')(hb:VR g σ n b b')(hq:pN P t a b=some r):dC P t a' b'=some r:=by
 unfold pN at hq
 split at hq
 ·rename_i hu
  have:=hb.aH rfl;cases this
  unfold tR at hq
  split at hq
  ·injection hq with hq;subst hq
   have:=ha.aH rfl;cases this;simp[dC,hu]
  ·injection hq with hq;subst hq
   cases ha with
   |fr _ _ h=>cases h
   |ptr=>simp[dC,hu]
  cases hq
 ·rename_i hu
  have:=hb.aH rfl;cases this
  unfold tS at hq
  split at hq
  ·injection hq with hq;subst hq
   have:=ha.aH rfl;cases this;simp[dC,hu]
  ·injection hq with hq;subst hq
   cases ha with
   |fr _ _ h=>cases h
   |own=>simp[dC,hu]
  ·injection hq with hq;subst hq
   cases ha with
   |fr _ _ h=>cases h
   |sub=>simp[dC,hu]
  ·injection hq with hq;subst hq
   cases ha with
   |fr _ _ h=>cases h
   |bX=>simp[dC,hu]
   |grow i m o a k nl hi h hn=>
    simp only[dC,hu,beq_eq]
    simp
    omega
  ·injection hq with hq;subst hq
   cases ha with
   |fr _ _ h=>cases h
   |grow i m o a k nl hi h hn=>simp[dC,hu]
  cases hq
 cases hq
theorem KJ {t:TypeId}{a b:Value}{r:Bool}(h:dC P t a b=some r)(h1:∀k x k' y,¬(a=.int k x∧b=.int k' y))(h2:∀x y,¬(a=.string x∧b=.string y)) :
  nc P .eql t a b=some (.bool r)∧nc P .neq t a b=some (.bool !r):=by
 constructor
 ·unfold nc
  split<;>first|(simp_all;done)|(simp[dC] at h;done)
 unfold nc
 split<;>first|(simp_all;done)|(simp[dC] at h;done)
theorem H9 {n:Nat}{t:TypeId}{a b:PV}{b':Value}{r:Bool}(hb:VR g σ n b b')(hq:pN P t a b=some r):b'=.pointer none∨b'=.slice none 0 0:=by
 unfold pN at hq
 split at hq
 ·have:=hb.aH rfl;cases this;exact .inl rfl
 ·have:=hb.aH rfl;cases this;exact .inr rfl
 cases hq
theorem W3 {n:Nat}{op:BinOp}{t:TypeId}{a b v:PV}{a' b':Value}(ha:VR g σ n a a')(hb:VR g σ n b b')(hv:kg P op t a b=some v):∃v',nc P op t a' b'=some v'∧FR g v v':=by
 unfold kg at hv
 split at hv
 ·rename_i x y h1 h2
  rw[E9 ha h1,E9 hb h2]
  cases h3:nc P op t x y with
  |none=>rw[h3] at hv;cases hv
  |some u=>rw[h3] at hv;exact⟨u,rfl,(yH hv).1⟩
 split at hv
 ·obtain⟨r,h1,rfl⟩:=dd hv
  have:=Ps ha hb h1
  refine⟨_,(KJ this ?_ ?_).1,.bool _⟩
  ·rintro k x k' y ⟨_,rfl⟩;rcases H9 hb h1 with h|h<;>cases h
  rintro x y ⟨_,rfl⟩;rcases H9 hb h1 with h|h<;>cases h
 ·obtain⟨r,h1,rfl⟩:=dd hv
  have:=Ps ha hb h1
  refine⟨_,(KJ this ?_ ?_).2,.bool _⟩
  ·rintro k x k' y ⟨_,rfl⟩;rcases H9 hb h1 with h|h<;>cases h
  rintro x y ⟨_,rfl⟩;rcases H9 hb h1 with h|h<;>cases h
 cases hv
def rm (P:Program)(t:TypeId)(cs:List PV)(off n:Nat):Option PV:=
 match bB P t with
 |some true=>bif Nat.ble (off+n) cs.length then some (.agg ((cs.drop off).take n)) else none
 |some false=>cs[off]?
 |none=>none
theorem Du {n:Nat}{cs:List PV}{ar:List Value}(h:be (VR g σ n) cs ar):VR g σ n (.agg cs) (.agg ar.toArray):=
 .agg _ _ (by simpa using h.1) fun i v v' hv aW=>h.2 i v v' hv (by simpa using aW)
theorem Pt {n m:Nat}{t:TypeId}{cs:List PV}{ar:List Value}{off:Nat}{v:PV}(h:be (VR g σ n) cs ar)(hv:rm P t cs off m=some v):∃v',apart P t ar off m=some v'∧VR g σ n v v':=by
 unfold rm at hv
 unfold apart
 split at hv
 ·rename_i hg
  cases hb:Nat.ble (off+m) cs.length with
  |false=>rw[hb] at hv;cases hv
  |true=>
   rw[hb] at hv;simp only[aM,az] at hv;subst hv
   rw[h.1] at hb
   exact⟨_,by simp[hg,hb],Du ((h.drop off).take m)⟩
 ·rename_i hg
  obtain⟨v',h1,h2⟩:=h.get hv
  exact⟨v',by simp[hg,h1],h2⟩
 cases hv
theorem KK {n:Nat}{cs:List PV}{v':Value}(h:VR g σ n (.agg cs) v'):∃ar:Array Value,v'=.agg ar∧be (VR g σ n) cs ar.toList:=by
 cases h with
 |fr _ _ h=>cases h with
  |agg _ ar hs r=>exact⟨ar,rfl,by simpa using hs,fun i v v' hv aW=>.fr _ _ (r i v v' hv (by simpa using aW))⟩
 |agg _ ar hs r=>exact⟨ar,rfl,by simpa using hs,fun i v v' hv aW=>r i v v' hv (by simpa using aW)⟩
theorem KL {n:Nat}{cs:List PV}{v':Value}(h:VR g σ n (.bn cs) v'):∃ar:Array Value,v'=.tuple ar∧be (VR g σ n) cs ar.toList:=by
 cases h with
 |fr _ _ h=>cases h with
  |bn _ ar hs r=>exact⟨ar,rfl,by simpa using hs,fun i v v' hv aW=>.fr _ _ (r i v v' hv (by simpa using aW))⟩
 |bn _ ar hs r=>exact⟨ar,rfl,by simpa using hs,fun i v v' hv aW=>r i v v' hv (by simpa using aW)⟩
def sd (P:Program)(t:TypeId)(x:PV)(f:Nat):Option PV:=
 match x,dc P t f with
 |.agg cs,some (ty,off,n)=>rm P ty cs off n
 |_,_=>none
theorem W4 {n:Nat}{t:TypeId}{x v:PV}{x':Value}{f:Nat}(hx:VR g σ n x x')(hv:sd P t x f=some v):∃v',Et P t x' f=some v'∧VR g σ n v v':=by
 unfold sd at hv
 split at hv
 ·rename_i hf
  obtain⟨ar,rfl,hc⟩:=KK hx
  obtain⟨v',h1,h2⟩:=Pt hc hv
  exact⟨v',by simp[Et,hf,h1],h2⟩
 cases hv
def fY (n:Int)(len:Nat):Option Nat:=if 0≤n∧n<len then some n.toNat else none
theorem Dv (n:Int)(len:Nat):within n len=fY n len:=by
 unfold within fY
 cases n with
 |ofNat k=>
  simp only[Int.ofNat_eq_natCast]
  by_cases h:k<len
  ·have:Nat.blt k len=true:=by rw[Nat.blt_eq];exact h
   simp[this,h]
  have:Nat.blt k len=false:=by rw[← Bool.not_eq_true,Nat.blt_eq];exact h
  simp[this,h]
 |negSucc k=>simp
def se (P:Program)(t:TypeId)(x i:PV):Option PV:=
 match x,i with
 |.agg cs,.int _ n=>
  match ik P t with
  |some (len,e,sz)=>match fY n len with
   |some k=>rm P e cs (k*sz) sz
   |none=>none
  |none=>none
 |.str s,.int k n=>(A0 P t (.string s) (.int k n)).bind bp
 |_,_=>none
theorem W5 {n:Nat}{t:TypeId}{x i v:PV}{x' i':Value}(hx:VR g σ n x x')(hi:VR g σ n i i')(hv:se P t x i=some v):∃v',A0 P t x' i'=some v'∧VR g σ n v v':=by
 unfold se at hv
 split at hv
 ·rename_i k m
  have:=hi.aH rfl;cases this
  obtain⟨ar,rfl,hc⟩:=KK hx
  split at hv
  ·rename_i ha
   split at hv
   ·rename_i hw
    obtain⟨v',h1,h2⟩:=Pt hc hv
    exact⟨v',by simp[A0,ha,Dv,hw,h1],h2⟩
   cases hv
  cases hv
 ·have:=hi.aH rfl;cases this
  have:=hx.aH rfl;cases this
  rename_i s k m
  cases h3:A0 P t (.string s) (.int k m) with
  |none=>rw[h3] at hv;cases hv
  |some u=>rw[h3] at hv;exact⟨u,rfl,.fr _ _ (yH hv).1⟩
 cases hv
def sf (x:PV)(i:Nat):Option PV:=
 match x with
 |.bn vs=>vs[i]?
 |_=>none
theorem W6 {n:Nat}{x v:PV}{x':Value}{i:Nat}(hx:VR g σ n x x')(hv:sf x i=some v):∃v',Eu x' i=some v'∧VR g σ n v v':=by
 unfold sf at hv
 split at hv
 ·obtain⟨ar,rfl,hc⟩:=KL hx
  obtain⟨v',h1,h2⟩:=hc.get hv
  exact⟨v',by simpa[Eu] using h1,h2⟩
 cases hv
def sg (P:Program)(s:TypeId)(p:PV)(f:Nat):Option PV:=
 match p,dc P s f with
 |.ptr i off,some (_,fo,n)=>bif Nat.beq n 0 then none else some (.ptr i (off+fo))
 |.vp cs,some (_,fo,n)=>bif Nat.beq n 0||!Nat.ble fo cs.length then none else some (.vp (cs.drop fo))
 |_,_=>none
theorem KM {cs:List PV}{o off s:Nat}{ar:List Value}(hg:g o=some (.cells s ar))(hlen:off+cs.length≤ar.length)(r:∀(j:Nat) v v',cs[j]?=some v→ar[off+j]?=some v'→FR g v v'){k:Nat}(hk:k≤cs.length) :
  FR g (.vp (cs.drop k)) (.pointer (some ⟨o,off+k,none⟩)):=
 .vp _ o (off+k) s ar hg (by simp;omega) fun j v v' hv aW=>r (k+j) v v' (by rw[List.getElem?_drop] at hv;exact hv) (by rw[show off+(k+j)=off+k+j by omega];exact aW)
theorem W7 {n:Nat}{t:TypeId}{p v:PV}{p':Value}{f:Nat}(hp:VR g σ n p p')(hv:sg P t p f=some v):∃v',C8 P t p' f=some v'∧VR g σ n v v':=by
 unfold sg at hv
 split at hv
 ·rename_i i off ty fo m hf
  cases hb:Nat.beq m 0 with
  |true=>rw[hb] at hv;cases hv
  |false=>
   rw[hb] at hv;simp only[bq,az] at hv;subst hv
   cases hp with
   |fr _ _ h=>cases h
   |ptr _ _ o a k hi hs=>
    exact⟨_,by simp only[C8,hf,hb,bq];rfl,by have:=VR.ptr (g:=g) i (off+fo) o a k hi hs;rwa [show a+(off+fo)=a+off+fo by omega] at this⟩
 ·rename_i cs ty fo m hf
  cases hb:Nat.beq m 0 with
  |true=>rw[hb] at hv;cases hv
  |false=>
   cases hc:Nat.ble fo cs.length with
   |false=>rw[hb,hc] at hv;cases hv
   |true=>
    rw[hb,hc] at hv;simp only[Bool.not_true,Bool.or_false,bq,az] at hv;subst hv
    have:=hp.aH rfl
    cases this with
    |vp _ o off s ar hg hlen r=>
     exact⟨_,by simp only[C8,hf,hb,bq],.fr _ _ (KM hg hlen r (by simpa using hc))⟩
 cases hv
def sh (P:Program)(t:TypeId)(x i:PV):Option PV:=
 match x,i with
 |.vec es,.int _ n=>
  match fT P t,fY n es.length with
  |some (_,sz),some k=>match es[k]? with
   |some e=>bif Nat.beq e.cells.length sz then some (.vp e.cells) else none
   |none=>none
  |_,_=>none
 |.own i off len _,.int _ n=>
  match fT P t,fY n len with
  |some (_,sz),some k=>some (.ptr i (off+k*sz))
  |_,_=>none
 |.sub i off len,.int _ n=>
  match fT P t,fY n len with
  |some (_,sz),some k=>some (.ptr i (off+k*sz))
  |_,_=>none
 |.ptr i off,.int _ n=>
  match ik P t with
  |some (len,_,sz)=>match fY n len with
   |some k=>some (.ptr i (off+k*sz))
   |none=>none
  |none=>none
 |.grow i m _,.int _ n=>
  match fT P t,fY n m with
  |some (_,sz),some k=>some (.ptr i (k*sz))
  |_,_=>none
 |_,_=>none
theorem W8 {es:List PV}{o off k s sz:Nat}{ar:List Value}(hg:g o=some (.cells s ar))(fp:∀(i:Nat) e,es[i]?=some e→e.cells.length=sz)(hlen:off+es.length*sz≤ar.length)
  (r:∀(i:Nat) e (j:Nat) v v',es[i]?=some e→e.cells[j]?=some v→ar[off+i*sz+j]?=some v'→FR g v v') {e:PV} (he:es[k]?=some e):FR g (.vp e.cells) (.pointer (some ⟨o,off+k*sz,none⟩)):=by
 have hk:k<es.length:=by
  rcases Nat.lt_or_ge k es.length with h|h
  ·exact h
  rw[List.getElem?_eq_none h] at he;cases he
 refine .vp _ o _ s ar hg ?_ (fun j v v' hv aW=>r k e j v v' he hv aW)
 rw[fp k e he]
 have h1:k*sz+sz≤es.length*sz:=by rw[← Nat.succ_mul];exact Nat.mul_le_mul_right _ hk
 omega
theorem W9 {n:Nat}{t:TypeId}{x i v:PV}{x' i':Value}(hx:VR g σ n x x')(hi:VR g σ n i i')(hv:sh P t x i=some v):∃v',ye P t x' i'=some v'∧VR g σ n v v':=by
 unfold sh at hv
 split at hv
 ·rename_i es k m
  have:=hi.aH rfl;cases this
  split at hv
  ·rename_i ty sz q ht hw
   split at hv
   ·rename_i e he
    cases hb:Nat.beq e.cells.length sz with
    |false=>rw[hb] at hv;cases hv
    |true=>
     rw[hb] at hv;simp only[aM,az] at hv;subst hv
     have hb:e.cells.length=sz:=by simpa using hb
     have:=hx.aH rfl
     cases this with
     |fu=>simp at he
     |de=>simp at he
     |vec _ o off k0 s Ia ar hk dL hg h0 fp hlen r=>
      have:Ia=sz:=by rw[← fp q e he,hb]
      subst this
      exact⟨_,by simp only[ye,ht,Dv,hw],.fr _ _ (W8 hg fp hlen r he)⟩
   cases hv
  cases hv
 ·rename_i i0 off len k0 k m
  have:=hi.aH rfl;cases this
  split at hv
  ·rename_i ty sz q ht hw
   injection hv with hv;subst hv
   cases hx with
   |fr _ _ h=>cases h
   |own _ _ _ _ o a kk hi hs hl hk=>
    exact⟨.pointer (some ⟨o,a+off+q*sz,none⟩),by simp only[ye,ht,Dv,hw],by have:=VR.ptr (g:=g) i0 (off+q*sz) o a kk hi hs;rwa [show a+(off+q*sz)=a+off+q*sz by omega] at this⟩
  cases hv
 ·rename_i i0 off len k m
  have:=hi.aH rfl;cases this
  split at hv
  ·rename_i ty sz q ht hw
   injection hv with hv;subst hv
   cases hx with
   |fr _ _ h=>cases h
   |sub _ _ _ _ o a kk hi hs hl hk=>
    exact⟨.pointer (some ⟨o,a+off+q*sz,none⟩),by simp only[ye,ht,Dv,hw],by have:=VR.ptr (g:=g) i0 (off+q*sz) o a kk hi hs;rwa [show a+(off+q*sz)=a+off+q*sz by omega] at this⟩
  cases hv
 ·rename_i i0 off k m
  have:=hi.aH rfl;cases this
  split at hv
  ·rename_i len ty sz ht
   split at hv
   ·rename_i q hw
    injection hv with hv;subst hv
    cases hx with
    |fr _ _ h=>cases h
    |ptr _ _ o a kk hi hs=>
     exact⟨.pointer (some ⟨o,a+off+q*sz,none⟩),by simp only[ye,ht,Dv,hw],by have:=VR.ptr (g:=g) i0 (off+q*sz) o a kk hi hs;rwa [show a+(off+q*sz)=a+off+q*sz by omega] at this⟩
   cases hv
  cases hv
 ·rename_i i0 m nl k q0
  have:=hi.aH rfl;cases this
  split at hv
  ·rename_i ty sz q ht hw
   injection hv with hv;subst hv
   have hq:q<m:=by
    unfold fY at hw
    split at hw
    ·rename_i h1;injection hw with hw;omega
    cases hw
   cases hx with
   |fr _ _ h=>cases h
   |bX=>omega
   |bY=>omega
   |grow _ _ o a kk _ hi hs hn=>
    exact⟨.pointer (some ⟨o,a+q*sz,none⟩),by simp only[ye,ht,Dv,hw],.ptr i0 (q*sz) o a kk hi hs⟩
  cases hv
 cases hv
def oz (P:Program)(t:TypeId)(cs:List PV)(off:Nat):Option PV:=
 match bB P t with
 |some true=>match cW P t with
  |some n=>bif Nat.ble (off+n) cs.length then some (.agg ((cs.drop off).take n)) else none
  |none=>none
 |some false=>cs[off]?
 |none=>none
def tU (P:Program)(t:TypeId)(cs:List PV)(off:Nat):Option PV:=
 match cW P t with
 |some (_+1)=>oz P t cs off
 |_=>none
def rp (P:Program)(vh:ai)(t:TypeId)(p:PV):Option PV:=
 match p with
 |.vp cs=>oz P t cs 0
 |.ptr i off=>match vh.get i with
  |some (.box cs)=>oz P t cs off
  |some (.arr _ _ cs)=>oz P t cs off
  |some (.grow _ es)=>tU P t (es.flatMap PV.cells) off
  |_=>none
 |_=>none
theorem KN {n:Nat}{t:TypeId}{cs:List PV}{ar:List Value}{off o s:Nat}{v:PV}(hg:h.get o=some (.cells s ar))(hc:be (VR g σ n) cs ar)(hv:oz P t cs off=some v):∃v',rT P h t (.pointer (some ⟨o,off,none⟩))=some v'∧VR g σ n v v':=by
 unfold oz at hv
 simp only[rT,hg]
 split at hv
 ·rename_i ha
  split at hv
  ·rename_i m hm
   cases hb:Nat.ble (off+m) cs.length with
   |false=>rw[hb] at hv;cases hv
   |true=>
    rw[hb] at hv;simp only[aM,az] at hv;subst hv
    rw[hc.1] at hb
    exact⟨_,by simp only[ha,hm,hb,aM],Du ((hc.drop off).take m)⟩
  cases hv
 ·rename_i ha
  obtain⟨v',h1,h2⟩:=hc.get hv
  exact⟨v',by simp[ha,h1],h2⟩
 cases hv
theorem Pu {t:TypeId}{p v:PV}{p':Value}(s:VS lo g σ vh h)(hp:VR g σ vh.next p p')(hv:rp P vh t p=some v):∃v',rT P h t p'=some v'∧VR g σ vh.next v v':=by
 unfold rp at hv
 split at hv
 ·rename_i cs
  have:=hp.aH rfl
  cases this with
  |vp _ o off s0 ar hg hlen r=>
   have Xa:=s.fz _ _ hg
   have hc:be (VR g σ vh.next) cs ((ar.drop off).take cs.length):=⟨by simp;omega,fun i v v' hv aW=>.fr _ _ (r i v v' hv (by
    rw[List.getElem?_take] at aW
    split at aW
    ·rwa [List.getElem?_drop] at aW
    cases aW))⟩
   unfold oz at hv
   simp only[rT,Xa]
   split at hv
   ·rename_i ha
    split at hv
    ·rename_i m hm
     cases hb:Nat.ble (0+m) cs.length with
     |false=>rw[hb] at hv;cases hv
     |true=>
      rw[hb] at hv;simp only[aM,az] at hv;subst hv
      have hb:m≤cs.length:=by simpa using hb
      have cS:Nat.ble (off+m) ar.length=true:=by rw[Nat.ble_eq];omega
      refine⟨.agg ((ar.drop off).take m).toArray,by simp only[ha,hm,cS,aM],Du ?_⟩
      have h2:=hc.take m
      rw[List.take_take,show min m cs.length=m by omega] at h2
      simpa using h2
    cases hv
   ·rename_i ha
    obtain⟨v',h1,h2⟩:=hc.get hv
    refine⟨v',?_,h2⟩
    rw[List.getElem?_take] at h1
    split at h1
    ·simpa[ha,List.getElem?_drop] using h1
    cases h1
   cases hv
 ·rename_i i off
  cases hp with
  |fr _ _ h=>cases h
  |ptr _ _ o a k hi hs=>
   split at hv
   ·rename_i cs hg
    obtain⟨s0,ar,h1,h2,h3⟩:=(s.obj i _ hg).2
    rw[hs] at h1 h2
    simp only at h1 h2;subst h2
    rw[Nat.zero_add]
    exact KN h1 h3 hv
   ·rename_i ag sz cs hg
    obtain⟨_,s0,ar,h1,h2,h3⟩:=(s.obj i _ hg).2
    rw[hs] at h1 h2
    simp only at h1 h2;subst h2
    rw[Nat.zero_add]
    exact KN h1 h3.vr hv
   ·rename_i sz es hg
    obtain⟨_,_,_,h0⟩:=(s.obj i _ hg).2
    unfold tU at hv
    split at hv
    ·rename_i n hn
     rcases h0 with rfl|⟨s0,ar,h1,h2,h3,_⟩
     ·unfold oz at hv
      rw[hn] at hv
      split at hv
      ·simp only[List.flatMap_nil,List.length_nil] at hv
       rw[show Nat.ble (off+(n+1)) 0=false by rfl,bq] at hv
       cases hv
      ·simp at hv
      cases hv
     rw[hs] at h1 h2
     simp only at h1 h2;subst h2
     rw[Nat.zero_add]
     exact KN h1 h3.vr hv
    cases hv
   cases hv
 cases hv
def gz (v:PV)(y:Nat):Option Nat:=
 match v with
 |.int _ i=>if 0≤i∧i≤y then some i.toNat else none
 |_=>none
theorem Ib {n:Nat}{v:PV}{v':Value}{y k:Nat}(h:VR g σ n v v')(hb:gz v y=some k):j9 v' y=some k:=by
 unfold gz at hb
 split at hb
 ·have:=h.aH rfl;cases this
  rename_i kd i
  unfold j9
  cases i with
  |ofNat j=>
   by_cases hj:j≤y
   ·have:Nat.ble j y=true:=by simpa using hj
    simp[hj] at hb;subst hb;simp[this]
   simp[hj] at hb
  |negSucc j=>
   have:¬(0≤Int.negSucc j∧Int.negSucc j≤y):=by omega
   simp[this] at hb
 cases hb
theorem Ic {v:PV}{y k:Nat}(hb:gz v y=some k):k≤y:=by
 unfold gz at hb
 split at hb
 ·rename_i kd i
  by_cases h:0≤i∧i≤y
  ·simp only[h,and_self,if_true,az] at hb;omega
  rw[if_neg h] at hb;cases hb
 cases hb
theorem Pv {v:Value}{y y' k:Nat}(hb:j9 v y=some k)(hy:y≤y'):j9 v y'=some k:=by
 unfold j9 at hb ⊢
 split at hb
 ·rename_i i
  cases h:Nat.ble i y with
  |false=>rw[h] at hb;cases hb
  |true=>
   rw[h] at hb
   have h1:i≤y:=by simpa using h
   have:Nat.ble i y'=true:=by rw[Nat.ble_eq];omega
   simp only[this,aM] at hb ⊢;exact hb
 cases hb
def vO (ae:aX):Option Operand→Option (Option PV)
 |none=>some none
 |some x=>(cN ae x).map some
def jg (g:Fz)(σ:Sg)(n:Nat):Option PV→Option Value→Prop
 |none,none=>True
 |some v,some v'=>VR g σ n v v'
 |_,_=>False
theorem An {n:Nat}(ht:VT g σ n ae ts){x:Option Operand}{v:Option PV}(hv:vO ae x=some v):∃v',tH ts x=some v'∧jg g σ n v v':=by
 cases x with
 |none=>simp only[vO,az] at hv;subst hv;exact⟨none,rfl,trivial⟩
 |some x=>
  obtain⟨u,h1,rfl⟩:=dd hv
  obtain⟨v',h2,h3⟩:=eH ht h1
  exact⟨some v',by simp[tH,h2],h3⟩
def pO (len known:Nat)(lo hi:Option PV):Option (Nat×Nat):=
 match (match hi with|some v=>gz v known|none=>some len) with
 |none=>none
 |some u=>match (match lo with|some v=>gz v u|none=>some 0) with
  |none=>none
  |some l=>some (l,u)
theorem u9 {n:Nat}{len known eK l u:Nat}{lo hi:Option PV}{eX dJ:Option Value}(hk:known≤eK)(cC:jg g σ n lo eX)(gG:jg g σ n hi dJ)(hb:pO len known lo hi=some (l,u)) :
  qg len eK eX dJ none=some (l,u,none)∧l≤u∧(len≤known→u≤known):=by
 unfold pO at hb
 split at hb
 ·cases hb
 rename_i u0 hu
 split at hb
 ·cases hb
 rename_i l0 hl
 simp only[az,bO] at hb
 obtain⟨rfl,rfl⟩:=hb
 have e1:bH len eK dJ none=some u0∧(len≤known→u0≤known):=by
  cases hi with
  |none=>cases dJ with
   |none=>simp only[az] at hu;subst hu;exact⟨rfl,fun h=>h⟩
   |some=>exact gG.elim
  |some v=>cases dJ with
   |none=>exact gG.elim
   |some v'=>exact⟨Pv (Ib gG hu) hk,fun _=>Ic hu⟩
 have e2:bL u0 eX=some l0∧l0≤u0:=by
  cases lo with
  |none=>cases eX with
   |none=>simp only[az] at hl;subst hl;exact⟨rfl,Nat.zero_le _⟩
   |some=>exact cC.elim
  |some v=>cases eX with
   |none=>exact cC.elim
   |some v'=>exact⟨Ib cC hl,Ic hl⟩
 simp only[qg,bM]
 rw[e1.1]
 simp only
 rw[e2.1]
 exact⟨rfl,e2.2,e1.2⟩
def ky (n:Nat)(es:List PV):Bool:=es.all fun e=>Nat.beq e.cells.length n
def sj (P:Program)(t:TypeId)(x:PV)(lo hi:Option PV):Option PV:=
 match fT P t with
 |none=>none
 |some (_,sz)=>match x with
  |.aG=>(pO 0 0 lo hi).map fun _=>.aG
  |.vec es=>bif ky sz es then (pO es.length es.length lo hi).map fun p=>.vec ((es.drop p.1).take (p.2 - p.1)) else none
  |.own i off len k=>(pO len k lo hi).map fun p=>.own i (bif Nat.beq k p.1 then off else off+p.1*sz) (p.2 - p.1) (k - p.1)
  |.sub i off len=>(pO len len lo hi).map fun p=>bif Nat.beq p.2 p.1 then .vec [] else .sub i (off+p.1*sz) (p.2 - p.1)
  |_=>none
theorem Xb {es:List PV}{o off k s sz:Nat}{ar:List Value}(hk:es.length≤k)(dL:k+es.length<dI)(hg:g o=some (.cells s ar))(h0:0<sz)(fp:∀(i:Nat) e,es[i]?=some e→e.cells.length=sz)(hlen:off+es.length*sz≤ar.length)
  (r:∀(i:Nat) e (j:Nat) v v',es[i]?=some e→e.cells[j]?=some v→ar[off+i*sz+j]?=some v'→FR g v v') {l u k':Nat} (hl:l≤u) (hu:u≤es.length) (jw:u - l≤k') (Xc:k'+(u - l)<dI) :
  FR g (.vec ((es.drop l).take (u - l))) (.slice (some ⟨o,off+l*sz,none⟩) (u - l) k'):=by
 have hle:((es.drop l).take (u - l)).length=u - l:=by simp;omega
 have:=FR.vec (g:=g) ((es.drop l).take (u - l)) o (off+l*sz) k' s sz ar (by omega) (by omega) hg h0 (fun i e he=>?_) ?_ (fun i e j v v' he hv aW=>?_)
 ·rwa [hle] at this
 ·rw[List.getElem?_take] at he
  split at he
  ·rw[List.getElem?_drop] at he;exact fp _ e he
  cases he
 ·rw[hle]
  have:l*sz+(u - l)*sz≤es.length*sz:=by rw[← Nat.add_mul];exact Nat.mul_le_mul_right _ (by omega)
  omega
 rw[List.getElem?_take] at he
 split at he
 ·rw[List.getElem?_drop] at he
  refine r (l+i) e j v v' he hv ?_
  rw[Nat.add_mul,show off+(l*sz+i*sz)+j=off+l*sz+i*sz+j by omega];exact aW
 cases he
theorem Xd {n:Nat}{t:TypeId}{x v:PV}{x':Value}{lo hi:Option PV}{eX dJ:Option Value}(hx:VR g σ n x x')(cC:jg g σ n lo eX)(gG:jg g σ n hi dJ)(hv:sj P t x lo hi=some v) :
  ∃v',kv P t x' eX dJ none=some v'∧VR g σ n v v':=by
 unfold sj at hv
 split at hv
 ·cases hv
 rename_i ty sz ht
 split at hv
 ·obtain⟨⟨l,u⟩,h1,rfl⟩:=dd hv
  have:=hx.aH rfl;cases this
  obtain⟨h2,_⟩:=u9 (Nat.le_refl _) cC gG h1
  exact⟨_,by simp only[kv,ht,h2],.fr _ _ .aG⟩
 ·rename_i es
  cases bo:ky sz es with
  |false=>rw[bo] at hv;cases hv
  |true=>
  rw[bo,aM] at hv
  obtain⟨⟨l,u⟩,h1,rfl⟩:=dd hv
  simp only
  have:=hx.aH rfl
  cases this with
  |fu=>
   obtain⟨h2,h3,h4⟩:=u9 (Nat.le_refl _) cC gG h1
   exact⟨.slice none 0 0,by simp only[kv,ht];simp only[List.length_nil] at h2;simp only[h2],by simp only[List.drop_nil,List.take_nil];exact .fr _ _ .fu⟩
  |de o off k=>
   have h4:=(u9 (eK:=0) (Nat.le_refl _) cC gG h1).2.2 (Nat.le_refl _)
   have h3:=(u9 (eK:=0) (Nat.le_refl _) cC gG h1).2.1
   have hu:u=0:=by simpa using h4
   have hl:l=0:=by omega
   subst hu;subst hl
   simp only[List.drop_nil,List.take_nil]
   by_cases mH:k<ay
   ·have e1:Nat.blt k ay=true:=by rw[Nat.blt_eq];exact mH
    have h2:=(u9 (eK:=k) (by simp) cC gG h1).1
    simp only[List.length_nil] at h2
    refine⟨_,by simp only[kv,ht,e1,aM,h2];rfl,?_⟩
    cases hbk:Nat.beq k 0<;>exact .fr _ _ (.de _ _ _)
   have e1:Nat.blt k ay=false:=by rw[← Bool.not_eq_true,Nat.blt_eq];exact mH
   have h2:=(u9 (eK:=0) (Nat.le_refl _) cC gG h1).1
   simp only[List.length_nil] at h2
   by_cases dL:k<dI
   ·have e2:Nat.blt k dI=true:=by rw[Nat.blt_eq];exact dL
    exact⟨.slice (some ⟨o,off,none⟩) 0 k,by simp only[kv,ht,e1,e2,aM,bq,h2,Nat.beq_refl],.fr _ _ (.de _ _ _)⟩
   have e2:Nat.blt k dI=false:=by rw[← Bool.not_eq_true,Nat.blt_eq];exact dL
   exact⟨.slice (some ⟨o,off,none⟩) 0 dI,by simp only[kv,ht,e1,e2,bq,h2],.fr _ _ (.de _ _ _)⟩
  |vec _ o off k s Ia ar hk dL hg h0 fp hlen r=>
   obtain⟨h2,h3,h4⟩:=u9 (eK:=es.length) (Nat.le_refl _) cC gG h1
   have h4:=h4 (Nat.le_refl _)
   have BG:u - l=0→((es.drop l).take (u - l))=[]:=fun h=>by rw[h,List.take_zero]
   have ev:0<u - l→Ia=sz:=fun aY=>by
    have hl:0<es.length:=by omega
    have h5:=fp 0 es[0] (by simp[hl])
    unfold ky at bo
    rw[List.all_eq_true] at bo
    have h6:=bo es[0] (List.getElem_mem hl)
    rw[beq_eq,decide_eq_true_eq] at h6
    omega
   have fin:∀k',0<u - l→u - l≤k'→k'+(u - l)<dI→VR g σ n (.vec ((es.drop l).take (u - l))) (.slice (some ⟨o,off+l*sz,none⟩) (u - l) k'):=fun k' aY h5 h6=>by
    have BH:=ev aY;subst BH
    exact .fr _ _ (Xb hk dL hg h0 fp hlen r h3 h4 h5 h6)
   by_cases mH:k<ay
   ·have e1:Nat.blt k ay=true:=by rw[Nat.blt_eq];exact mH
    have h2:=(u9 (eK:=k) hk cC gG h1).1
    refine⟨_,by simp only[kv,ht,e1,aM,h2];rfl,?_⟩
    simp only[Option.getD_none]
    rcases jU k l with⟨hq,b8⟩|⟨hq,b8⟩
    ·have hz:u - l=0:=by omega
     rw[hq,BG hz,hz];exact .fr _ _ (.de _ _ _)
    rw[hq,bq]
    by_cases hz:u - l=0
    ·rw[BG hz,hz];exact .fr _ _ (.de _ _ _)
    exact fin _ (by omega) (by omega) (by omega)
   have e1:Nat.blt k ay=false:=by rw[← Bool.not_eq_true,Nat.blt_eq];exact mH
   have e2:Nat.blt k dI=true:=by rw[Nat.blt_eq];omega
   have e3:Nat.blt (k+l) dI=true:=by rw[Nat.blt_eq];omega
   rcases jU l 0 with⟨hq,b8⟩|⟨hq,b8⟩
   ·subst b8
    refine⟨.slice (some ⟨o,off,none⟩) u k,by simp only[kv,ht,e1,e2,aM,bq,h2,Nat.beq_refl],?_⟩
    by_cases hz:u=0
    ·subst hz;simp only[Nat.sub_self,List.take_zero];exact .fr _ _ (.de _ _ _)
    have:=fin k (by omega) (by omega) (by omega)
    simpa using this
   rcases jU u l with⟨hr,oQ⟩|⟨hr,oQ⟩
   ·refine⟨.slice (some ⟨o,off,none⟩) 0 dI,by simp only[kv,ht,e1,e2,aM,bq,h2,hq,hr],?_⟩
    have hz:u - l=0:=by omega
    rw[BG hz];exact .fr _ _ (.de _ _ _)
   exact⟨.slice (some ⟨o,off+l*sz,none⟩) (u - l) (k+l),by simp only[kv,ht,e1,e2,e3,aM,bq,h2,hq,hr],fin _ (by omega) (by omega) (by omega)⟩
 ·rename_i i off len k
  obtain⟨⟨l,u⟩,h1,rfl⟩:=dd hv
  simp only
  cases hx with
  |fr _ _ h=>cases h
  |own _ _ _ _ o a kk hi hs hl hk=>
   obtain⟨h2,h3,h4⟩:=u9 (eK:=k) (Nat.le_refl _) cC gG h1
   have h4:=h4 hl
   have e1:Nat.blt k ay=true:=by rw[Nat.blt_eq];exact hk
   refine⟨_,by simp only[kv,ht,e1,aM,h2];rfl,?_⟩
   simp only[Option.getD_none]
   rcases jU k l with⟨hq,b8⟩|⟨hq,b8⟩
   ·rw[hq];exact .own i off (u - l) (k - l) o a kk hi hs (by omega) (by omega)
   rw[hq]
   have:=VR.own (g:=g) i (off+l*sz) (u - l) (k - l) o a kk hi hs (by omega) (by omega)
   simpa[show a+(off+l*sz)=a+off+l*sz by omega] using this
 ·rename_i i off len
  obtain⟨⟨l,u⟩,h1,rfl⟩:=dd hv
  simp only
  cases hx with
  |fr _ _ h=>cases h
  |sub _ _ _ k o a kk hi hs hl hk=>
   rcases Nat.lt_or_ge k ay with mH|mH
   ·obtain⟨h2,h3,h4⟩:=u9 (eK:=k) hl cC gG h1
    have h4:=h4 (Nat.le_refl _)
    have e1:Nat.blt k ay=true:=by rw[Nat.blt_eq];exact mH
    refine⟨_,by simp only[kv,ht,e1,aM,h2];rfl,?_⟩
    simp only[Option.getD_none]
    rcases jU u l with⟨hq,b8⟩|⟨hq,b8⟩
    ·rw[hq]
     have hz:u - l=0:=by omega
     rw[hz];exact .fr _ _ (.de _ _ _)
    rw[hq]
    rcases jU k l with⟨hr,oQ⟩|⟨hr,oQ⟩
    ·omega
    rw[hr]
    have:=VR.sub (g:=g) i (off+l*sz) (u - l) (k - l) o a kk hi hs (by omega) (by omega)
    simpa[show a+(off+l*sz)=a+off+l*sz by omega] using this
   obtain⟨h2,h3,h4⟩:=u9 (eK:=len) (Nat.le_refl _) cC gG h1
   have h4:=h4 (Nat.le_refl _)
   have e1:Nat.blt k ay=false:=by rw[Bool.eq_false_iff];intro h;rw[Nat.blt_eq] at h;omega
   have e2:Nat.blt k dI=true:=by rw[Nat.blt_eq];omega
   rcases jU l 0 with⟨hq,b8⟩|⟨hq,b8⟩
   ·refine⟨.slice (some ⟨o,a+off,none⟩) u k,by simp only[kv,ht,e1,e2,aM,bq,h2,hq],?_⟩
    subst b8
    rcases jU u 0 with⟨hr,oQ⟩|⟨hr,oQ⟩
    ·rw[hr];subst oQ;exact .fr _ _ (.de _ _ _)
    rw[hr]
    have:=VR.sub (g:=g) i (off+0*sz) (u - 0) k o a kk hi hs (by omega) (by omega)
    simpa using this
   rcases jU u l with⟨hr,oQ⟩|⟨hr,oQ⟩
   ·exact⟨.slice (some ⟨o,a+off,none⟩) 0 dI,by simp only[kv,ht,e1,e2,aM,bq,h2,hq,hr],by rw[hr];exact .fr _ _ (.de _ _ _)⟩
   have e3:Nat.blt (k+l) dI=true:=by rw[Nat.blt_eq];omega
   refine⟨.slice (some ⟨o,a+off+l*sz,none⟩) (u - l) (k+l),by simp only[kv,ht,e1,e2,e3,aM,bq,h2,hq,hr],?_⟩
   rw[hr]
   have:=VR.sub (g:=g) i (off+l*sz) (u - l) (k+l) o a kk hi hs (by omega) (by omega)
   simpa[show a+(off+l*sz)=a+off+l*sz by omega] using this
 cases hv
def sn (P:Program)(t:TypeId)(x:PV):Option PV:=
 match fT P t with
 |none=>none
 |some _=>match x with
  |.aG=>some .aG
  |.e0=>some .e0
  |.vec _=>some .e0
  |.grow _ _ _=>some .e0
  |_=>none
def BJ (P:Program)(t:TypeId)(x:PV)(lo hi mx:Option PV):Option PV:=
 match x with
 |.sub i off len=>match lo,hi,mx with
  |none,some u,some m=>match fT P t,gz m len with
   |some _,some b=>match gz u b with
    |some a=>some (.own i off a b)
    |none=>none
   |_,_=>none
  |_,_,_=>none
 |_=>none
@[simp] theorem z5g (P:Program)(t:TypeId)(es:List PV)(lo hi mx:Option PV):BJ P t (.vec es) lo hi mx=none:=rfl
@[simp] theorem z2h (P:Program)(t:TypeId)(i n:Nat)(nl:Bool)(lo hi mx:Option PV):BJ P t (.grow i n nl) lo hi mx=none:=rfl
@[simp] theorem z4l (P:Program)(t:TypeId)(lo hi mx:Option PV):BJ P t .aG lo hi mx=none:=rfl
@[simp] theorem z7q (P:Program)(t:TypeId)(lo hi mx:Option PV):BJ P t .e0 lo hi mx=none:=rfl
theorem Xe {n:Nat}{t:TypeId}{x v:PV}{x':Value}{lo hi mx:Option PV}{eX dJ iZ:Option Value}(hx:VR g σ n x x')(cC:jg g σ n lo eX)(gG:jg g σ n hi dJ)(iq:jg g σ n mx iZ)(hv:BJ P t x lo hi mx=some v) :
  ∃v',kv P t x' eX dJ iZ=some v'∧VR g σ n v v':=by
 unfold BJ at hv
 split at hv
 ·rename_i i off len
  split at hv
  ·rename_i u m
   split at hv
   ·rename_i ty b ht hb
    split at hv
    ·rename_i a ha
     injection hv with hv;subst hv
     cases eX with
     |some _=>exact cC.elim
     |none=>
     cases dJ with
     |none=>exact gG.elim
     |some u'=>
     cases iZ with
     |none=>exact iq.elim
     |some m'=>
     have h1:=Ib (v:=m) iq hb
     have h2:=Ib (v:=u) gG ha
     have h3:=Ic hb
     have h4:=Ic ha
     cases hx with
     |fr _ _ h=>cases h
     |sub _ _ _ k o a0 kk hi hs hl hk=>
      obtain⟨ty,sz⟩:=ty
      have hlen:b<ay:=by
       rcases Nat.lt_or_ge k ay with h|h
       ·omega
       have:dI=ay+ay:=rfl
       omega
      have hr:VR g σ n (.own i off a b) (.slice (some ⟨o,a0+off,none⟩) a b):=.own i off a b o a0 kk hi hs h4 hlen
      have va:(bif Nat.beq b 0 then a0+off else a0+off+0*sz)=a0+off:=by cases Nat.beq b 0<;>simp
      cases mH:Nat.blt k ay with
      |true=>
       have e:qg len k none (some u') (some m')=some (0,a,some b):=by simp only[qg,bM,Pv h1 hl,Option.map_some,bH,h2,bL]
       exact⟨_,by simp only[kv,ht,mH,aM,e,Option.getD_some,va,Nat.sub_zero],hr⟩
      |false=>
       have dL:Nat.blt k dI=true:=by rw[Nat.blt_eq];omega
       have e:qg len len none (some u') (some m')=some (0,a,some b):=by simp only[qg,bM,h1,Option.map_some,bH,h2,bL]
       have Ex:Nat.blt b ay=true:=by rw[Nat.blt_eq];exact hlen
       exact⟨_,by simp only[kv,ht,mH,dL,aM,bq,e,Ex,va,Nat.sub_zero],hr⟩
    cases hv
   cases hv
  cases hv
 cases hv
def lq (v:Option PV):Bool:=match v with
 |some (.int _ n)=>decide (n=0)
 |_=>false
theorem Xf {n len known:Nat}{lo hi mx:Option PV}{eX dJ iZ:Option Value}(cC:jg g σ n lo eX)(gG:jg g σ n hi dJ)(iq:jg g σ n mx iZ)(h1:lo=none∨lq lo=true)(h2:lq hi=true)(h3:lq mx=true) :
  qg len known eX dJ iZ=some (0,0,some 0):=by
 have val:∀ {v:Option PV} {v':Option Value},jg g σ n v v'→lq v=true→∃k,v'=some (.int k 0):=fun {v v'} hr hz=>by
  unfold lq at hz
  split at hz
  ·rename_i k m
   simp only[decide_eq_true_eq] at hz;subst hz
   cases v' with
   |none=>exact hr.elim
   |some v'=>have:=VR.aH hr rfl;cases this;exact⟨k,rfl⟩
  cases hz
 obtain⟨k1,rfl⟩:=val gG h2
 obtain⟨k2,rfl⟩:=val iq h3
 have e:∀y,Nat.ble 0 y=true:=fun y=>by rw[Nat.ble_eq];exact Nat.zero_le _
 have hb:∀(k:IntKind) y,j9 (.int k 0) y=some 0:=fun k y=>by
  show (bif Nat.ble 0 y then some 0 else none)=some 0
  rw[e];rfl
 have Xg:bL 0 eX=some 0:=by
  rcases h1 with rfl|h1
  ·cases eX with
   |none=>rfl
   |some=>exact cC.elim
  obtain⟨k3,rfl⟩:=val cC h1
  exact hb k3 0
 simp only[qg,bM,hb,Option.map_some,bH,Xg]
theorem Xh {n:Nat}{t:TypeId}{x v:PV}{x':Value}{lo hi mx:Option PV}{eX dJ iZ:Option Value}(hx:VR g σ n x x')(cC:jg g σ n lo eX)(gG:jg g σ n hi dJ)(iq:jg g σ n mx iZ)
  (h1:lo=none∨lq lo=true) (h2:lq hi=true) (h3:lq mx=true) (hv:sn P t x=some v):∃v',kv P t x' eX dJ iZ=some v'∧VR g σ n v v':=by
 have hb:∀len known,qg len known eX dJ iZ=some (0,0,some 0):=fun len known=>Xf cC gG iq h1 h2 h3
 have any:∀o off len k,∀ty,fT P t=some ty→∃o' mD,kv P t (.slice (some ⟨o,off,none⟩) len k) eX dJ iZ=some (.slice (some ⟨o',mD,none⟩) 0 0):=fun o off len k ty ht=>by
  obtain⟨ty,sz⟩:=ty
  simp only[kv,ht,hb]
  cases Nat.blt k ay with
  |true=>exact⟨_,_,rfl⟩
  |false=>
   cases Nat.blt k dI with
   |true=>exact⟨_,_,rfl⟩
   |false=>exact⟨_,_,rfl⟩
 have yJ:∀ty,fT P t=some ty→kv P t (.slice none 0 0) eX dJ iZ=some (.slice none 0 0):=fun ty ht=>by simp only[kv,ht,hb]
 unfold sn at hv
 split at hv
 ·cases hv
 rename_i ty ht
 split at hv
 ·injection hv with hv;subst hv
  have:=hx.aH rfl;cases this
  exact⟨_,yJ _ ht,.fr _ _ .aG⟩
 ·injection hv with hv;subst hv
  have:=hx.aH rfl
  cases this with
  |tO=>exact⟨_,yJ _ ht,.fr _ _ .tO⟩
  |e0 o off=>
   obtain⟨o',mD,h⟩:=any o off 0 0 _ ht
   exact⟨_,h,.fr _ _ (.e0 _ _)⟩
 ·injection hv with hv;subst hv
  have:=hx.aH rfl
  cases this with
  |fu=>exact⟨_,yJ _ ht,.fr _ _ .tO⟩
  |de o off k=>
   obtain⟨o',mD,h⟩:=any o off 0 k _ ht
   exact⟨_,h,.fr _ _ (.e0 _ _)⟩
  |vec es o off k=>
   obtain⟨o',mD,h⟩:=any o off _ k _ ht
   exact⟨_,h,.fr _ _ (.e0 _ _)⟩
 ·injection hv with hv;subst hv
  cases hx with
  |fr _ _ h=>cases h
  |bX=>exact⟨_,yJ _ ht,.fr _ _ .tO⟩
  |bY i o off=>
   obtain⟨o',mD,h⟩:=any o off 0 0 _ ht
   exact⟨_,h,.fr _ _ (.e0 _ _)⟩
  |grow i m o a k=>
   obtain⟨o',mD,h⟩:=any o a _ k _ ht
   exact⟨_,h,.fr _ _ (.e0 _ _)⟩
 cases hv
def kh (P:Program)(vh:ai)(t:TypeId)(x:PV):Option PV:=
 match P.underlying t,x with
 |some .string,.str s=>some (.int .i64 s.size)
 |some (.slice _),.aG=>some (.int .i64 0)
 |some (.slice _),.e0=>some (.int .i64 0)
 |some (.slice _),.vec es=>some (.int .i64 es.length)
 |some (.slice _),.own _ _ n _=>some (.int .i64 n)
 |some (.slice _),.sub _ _ n=>some (.int .i64 n)
 |some (.slice _),.grow _ n _=>some (.int .i64 n)
 |some (.array n _),_=>some (.int .i64 n)
 |some (.map _ _),.dM=>some (.int .i64 0)
 |some (.map _ _),.aC es=>some (.int .i64 es.length)
 |some (.map _ _),.ba i=>match vh.get i with
  |some (.map es)=>some (.int .i64 es.length)
  |_=>none
 |_,_=>none
theorem Xi {t:TypeId}{x v:PV}{x':Value}(s:VS lo g σ vh h)(hx:VR g σ vh.next x x')(hv:kh P vh t x=some v):∃v',mi P h t x'=some v'∧FR g v v':=by
 unfold kh at hv
 split at hv
 ·rename_i hu;injection hv with hv;subst hv
  have:=hx.aH rfl;cases this
  exact⟨_,by simp[mi,hu,lk],.int _ _⟩
 ·rename_i hu;injection hv with hv;subst hv
  have:=hx.aH rfl;cases this
  exact⟨_,by simp[mi,hu,lk],.int _ _⟩
 ·rename_i hu;injection hv with hv;subst hv
  have:=hx.aH rfl;cases this<;>exact⟨_,by simp[mi,hu,lk],.int _ _⟩
 ·rename_i hu;injection hv with hv;subst hv
  have:=hx.aH rfl;cases this<;>exact⟨_,by first|(simp only[mi,hu,lk];done)|(simp only[mi,hu,lk];rfl),.int _ _⟩
 ·rename_i hu;injection hv with hv;subst hv
  cases hx with
  |fr _ _ h=>cases h
  |own=>exact⟨_,by simp[mi,hu,lk],.int _ _⟩
 ·rename_i hu;injection hv with hv;subst hv
  cases hx with
  |fr _ _ h=>cases h
  |sub=>exact⟨_,by simp only[mi,hu,lk],.int _ _⟩
 ·rename_i hu;injection hv with hv;subst hv
  cases hx with
  |fr _ _ h=>cases h
  |bX=>exact⟨_,by simp only[mi,hu,lk],.int _ _⟩
  |bY=>exact⟨_,by simp only[mi,hu,lk],.int _ _⟩
  |grow=>exact⟨_,by simp only[mi,hu,lk],.int _ _⟩
 ·rename_i hu;injection hv with hv;subst hv
  refine⟨_,by unfold mi;simp only[hu,lk],.int _ _⟩
 ·rename_i hu;injection hv with hv;subst hv
  have:=hx.aH rfl;cases this
  exact⟨_,by simp[mi,hu,lk],.int _ _⟩
 ·rename_i es hu;injection hv with hv;subst hv
  have:=hx.aH rfl
  cases this with
  |aC _ o bh hg hlen rk rv=>exact⟨.int .i64 bh.length,by simp only[mi,hu,s.fz _ _ hg,lk],by rw[hlen];exact .int _ _⟩
 ·rename_i i hu
  split at hv
  ·rename_i es hg
   injection hv with hv;subst hv
   cases hx with
   |fr _ _ h=>cases h
   |ba _ o a k hi hs=>
    obtain⟨bh,h1,h2,h3,h4⟩:=(s.obj i _ hg).2
    rw[hs] at h1
    have hl:=h3.1
    simp only[List.length_map] at hl
    exact⟨.int .i64 bh.length,by simp only[mi,hu,h1,lk],by rw[hl];exact .int _ _⟩
  cases hv
 cases hv
end
def Sg.put (σ:Sg)(i:Nat)(x:Nat×Nat×Nat):Sg:=fun j=>if j=i then x else σ j
theorem Sg.cz (σ:Sg)(i:Nat)(x:Nat×Nat×Nat):σ.put i x i=x:=by simp[Sg.put]
theorem Sg.xo (σ:Sg){i j:Nat}(x:Nat×Nat×Nat)(h:j≠i):σ.put i x j=σ j:=by simp[Sg.put,h]
section
variable {P:Program} {lo:Nat} {g:Fz} {σ:Sg} {vh:ai} {h:ah}
theorem be.BK {g g':Fz}{σ aO:Sg}{n n':Nat}(hle:g.le g')(hn:n≤n')(cu:∀i,i<n→aO i=σ i){l:List PV}{l':List Value}(hp:be (VR g σ n) l l'):be (VR g' aO n') l l':=hp.mono fun _ _ hv=>hv.mono hle hn cu
theorem rj.mono {g':Fz}{aO:Sg}{n n':Nat}{h':ah}{i:Nat}{x:aL}(hle:g.le g')(hn:n≤n')(cu:∀i,i<n→aO i=σ i)(hi:i<n)(hg:x.live=true→h'.get (σ i).1=h.get (σ i).1)(hx:rj g σ n h i x):rj g' aO n' h' i x:=by
 have hs:=cu i hi
 cases x with
 |box cs=>
  obtain⟨s,ar,h1,h2,h3⟩:=hx
  exact⟨s,ar,by rw[hs,hg rfl];exact h1,by rw[hs];exact h2,h3.BK hle hn cu⟩
 |arr ag sz cs=>
  obtain⟨h0,s,ar,h1,h2,h3⟩:=hx
  exact⟨h0,s,ar,by rw[hs,hg rfl];exact h1,by rw[hs];exact h2,h3.mono fun _ _ h=>h.mono hle⟩
 |grow sz es=>
  obtain⟨h0,h1,h2,h3⟩:=hx
  cases es with
  |nil=>exact⟨h0,h1,h2,.inl rfl⟩
  |cons e r=>exact⟨h0,h1,h2,h3.imp_right fun⟨s,ar,k1,k2,k3,k4⟩=>⟨s,ar,by rw[hs,hg rfl];exact k1,by rw[hs];exact k2,k3.mono fun _ _ h=>h.mono hle,by rw[hs];exact k4⟩⟩
 |map es=>
  obtain⟨bh,h1,h2,h3,h4⟩:=hx
  exact⟨bh,by rw[hs,hg rfl];exact h1,by rw[hs];exact h2,h3.mono fun _ _ h=>h.mono hle,h4.mono fun _ _ h=>h.mono hle⟩
 |dD es=>
  obtain⟨bh,h1,h2,h3,h4⟩:=hx
  exact⟨bh,by rw[hs,hg rfl];exact h1,by rw[hs];exact h2,h3.mono fun _ _ h=>h.mono hle,h4.BK hle hn cu⟩
 |bR es=>
  obtain⟨h0,h1,h2,s,ar,k1,k2,k3,k4⟩:=hx
  exact⟨h0,h1,h2,s,ar,by rw[hs,hg rfl];exact k1,by rw[hs];exact k2,k3.BK hle hn cu,by rw[hs];exact k4⟩
 |emap es k born=>
  obtain⟨bh,h1,h2,h3,h4⟩:=hx
  exact⟨bh,by rw[hs,hg rfl];exact h1,by rw[hs];exact h2,h3.mono fun _ _ h=>h.mono hle,h4.mono fun _ _ h=>h.mono hle⟩
 |loop N ps a bd ae jump=>
  obtain⟨L,h1,h2,h3,h4,h5,h6⟩:=hx
  exact⟨L,by rw[hs,hg rfl];exact h1,h2,h3,h4,h5,h6.mono hle hn cu⟩
theorem rj.lt {n:Nat}{i:Nat}{x:aL}(hl:x.live=true)(hx:rj g σ n h i x):(σ i).1<h.next:=by
 cases x with
 |box cs=>obtain⟨s,ar,h1,_⟩:=hx;exact ah.fJ h1
 |arr ag sz cs=>obtain⟨_,s,ar,h1,_⟩:=hx;exact ah.fJ h1
 |grow sz es=>
  obtain⟨_,_,_,h3⟩:=hx
  rcases h3 with rfl|⟨s,ar,h1,_⟩
  ·cases hl
  exact ah.fJ h1
 |map es=>obtain⟨bh,h1,_⟩:=hx;exact ah.fJ h1
 |dD es=>obtain⟨bh,h1,_⟩:=hx;exact ah.fJ h1
 |bR es=>obtain⟨_,_,_,s,ar,h1,_⟩:=hx;exact ah.fJ h1
 |emap es=>obtain⟨bh,h1,_⟩:=hx;exact ah.fJ h1
 |loop=>obtain⟨L,h1,_⟩:=hx;exact ah.fJ h1
theorem VS.Xj (s:VS lo g σ vh h){o:Nat}(ho:h.next≤o):g o=none:=by
 cases hg:g o with
 |none=>rfl
 |some x=>have:=ah.fJ (s.fz o x hg);omega
theorem VS.alloc (s:VS lo g σ vh h){x:aL}(y:a7)(k:Nat)(hx:rj g (σ.put vh.next (h.next,0,k)) (vh.next+1) (h.alloc y) vh.next x) :
  VS lo g (σ.put vh.next (h.next,0,k)) (vh.alloc x) (h.alloc y)∧VF σ vh h (σ.put vh.next (h.next,0,k)) (vh.alloc x) (h.alloc y):=by
 have cu:∀i,i<vh.next→(σ.put vh.next (h.next,0,k)) i=σ i:=fun i hi=>Sg.xo _ _ (by omega)
 have hold:∀o,o<h.next→(h.alloc y).get o=h.get o:=fun o ho=>by rw[ah.ij,if_neg (by omega)]
 have split:∀i z,(vh.alloc x).get i=some z→(i=vh.next∧z=x)∨(i<vh.next∧vh.get i=some z):=fun i z hz=>by
  rw[ai.ij] at hz
  by_cases hi:i=vh.next
  ·subst hi;simp at hz;exact .inl ⟨rfl,hz.symm⟩
  simp[hi] at hz;exact .inr ⟨(s.obj i z hz).1,hz⟩
 refine⟨⟨fun i z hz=>?_,fun i j z z' hz jT hl oh he=>?_,fun i z hz hl=>?_,fun o z hz=>?_,fun i z hz hl=>?_,?_⟩,⟨?_,fun o ho hn=>hold o ho,fun i z hz hl aY=>?_⟩⟩
 ·rcases split i z hz with⟨rfl,rfl⟩|⟨hi,hz⟩
  ·exact⟨by simp[ai.alloc],hx⟩
  refine⟨by simp[ai.alloc];omega,(s.obj i z hz).2.mono (Fz.le_refl g) (Nat.le_succ _) cu hi fun hl=>hold _ ((s.obj i z hz).2.lt hl)⟩
 ·rcases split i z hz with⟨rfl,rfl⟩|⟨hi,rZ⟩<;>rcases split j z' jT with⟨rfl,rfl⟩|⟨hj,pe⟩
  ·rfl
  ·rw[Sg.cz,cu j hj] at he
   have:=(s.obj j z' pe).2.lt oh;simp only at he;omega
  ·rw[Sg.cz,cu i hi] at he
   have:=(s.obj i z rZ).2.lt hl;simp only at he;omega
  rw[cu i hi,cu j hj] at he
  exact s.inj i j z z' rZ pe hl oh he
 ·rcases split i z hz with⟨rfl,rfl⟩|⟨hi,hz⟩
  ·rw[Sg.cz];exact s.bI
  rw[cu i hi];exact s.low i z hz hl
 ·have:=s.fz o z hz
  rw[hold o (ah.fJ this)];exact this
 ·rcases split i z hz with⟨rfl,rfl⟩|⟨hi,hz⟩
  ·rw[Sg.cz];exact s.Xj (Nat.le_refl _)
  rw[cu i hi];exact s.jf i z hz hl
 ·have:=s.bI;simp;omega
 ·simp
 rcases split i z hz with⟨rfl,rfl⟩|⟨hi,hz⟩
 ·rw[Sg.cz] at aY;simp only at aY;omega
 rw[cu i hi];exact⟨i,z,hz,hl,rfl⟩
theorem VS.Pw (s:VS lo g σ vh h){x:aL}(p:Nat×Nat×Nat)(hx:rj g (σ.put vh.next p) (vh.next+1) h vh.next x)(hp:x.live=true→lo≤p.1∧g p.1=none∧∀i y,vh.get i=some y→y.live=true→(σ i).1≠p.1)
  : VS lo g (σ.put vh.next p) (vh.alloc x) h:=by
 have cu:∀i,i<vh.next→(σ.put vh.next p) i=σ i:=fun i hi=>Sg.xo _ _ (by omega)
 have split:∀i z,(vh.alloc x).get i=some z→(i=vh.next∧z=x)∨(i<vh.next∧vh.get i=some z):=fun i z hz=>by
  rw[ai.ij] at hz
  by_cases hi:i=vh.next
  ·subst hi;simp at hz;exact .inl ⟨rfl,hz.symm⟩
  simp[hi] at hz;exact .inr ⟨(s.obj i z hz).1,hz⟩
 refine⟨fun i z hz=>?_,fun i j z z' hz jT hl oh he=>?_,fun i z hz hl=>?_,s.fz,fun i z hz hl=>?_,s.bI⟩
 ·rcases split i z hz with⟨rfl,rfl⟩|⟨hi,hz⟩
  ·exact⟨by simp[ai.alloc],hx⟩
  exact⟨by simp[ai.alloc];omega,(s.obj i z hz).2.mono (Fz.le_refl g) (Nat.le_succ _) cu hi fun hl=>rfl⟩
 ·rcases split i z hz with⟨rfl,rfl⟩|⟨hi,rZ⟩<;>rcases split j z' jT with⟨rfl,rfl⟩|⟨hj,pe⟩
  ·rfl
  ·rw[Sg.cz,cu j hj] at he
   exact absurd he.symm ((hp hl).2.2 j z' pe oh)
  ·rw[Sg.cz,cu i hi] at he
   exact absurd he ((hp oh).2.2 i z rZ hl)
  rw[cu i hi,cu j hj] at he
  exact s.inj i j z z' rZ pe hl oh he
 ·rcases split i z hz with⟨rfl,rfl⟩|⟨hi,hz⟩
  ·rw[Sg.cz];exact(hp hl).1
  rw[cu i hi];exact s.low i z hz hl
 rcases split i z hz with⟨rfl,rfl⟩|⟨hi,hz⟩
 ·rw[Sg.cz];exact(hp hl).2.1
 rw[cu i hi];exact s.jf i z hz hl
theorem VS.sub (s:VS lo g σ vh h){aP:ai}(hn:aP.next=vh.next)(hs:∀i x,aP.get i=some x→vh.get i=some x):VS lo g σ aP h∧VF σ vh h σ aP h:=
 ⟨⟨fun i x hx=>by rw[hn];exact s.obj i x (hs i x hx),fun i j x y hx hy=>s.inj i j x y (hs i x hx) (hs j y hy),fun i x hx=>s.low i x (hs i x hx),s.fz,fun i x hx=>s.jf i x (hs i x hx),s.bI⟩,
  ⟨Nat.le_refl _,fun _ _ _=>rfl,fun i x hx hl _=>⟨i,x,hs i x hx,hl,rfl⟩⟩⟩
theorem jX {i j:Nat}{x:aL}(hx:(vh.drop i).get j=some x):j≠i∧vh.get j=some x:=by
 rw[ai.KH] at hx
 by_cases h:j=i
 ·simp[h] at hx
 simp[h] at hx;exact⟨h,hx⟩
theorem VS.kill (s:VS lo g σ vh h){i:Nat}{x:aL}(hx:vh.get i=some x)(hl:x.live=true):VS lo g σ (vh.drop i) (h.put (σ i).1 none)∧VF σ vh h σ (vh.drop i) (h.put (σ i).1 none):=by
 have aY:=(s.obj i x hx).2.lt hl
 have cT:∀o,o≠(σ i).1→(h.put (σ i).1 none).get o=h.get o:=fun o ho=>by rw[ah.dH _ _ _ _ aY,if_neg ho]
 have dp:∀j y,(vh.drop i).get j=some y→y.live=true→(σ j).1≠(σ i).1:=fun j y hy hU he=>by
  obtain⟨h1,h2⟩:=jX hy
  exact h1 (s.inj j i y x h2 hx hU hl he)
 refine⟨⟨fun j y hy=>?_,fun j k y z hy hz=>s.inj j k y z (jX hy).2 (jX hz).2,fun j y hy=>s.low j y (jX hy).2,fun o z hz=>?_,fun j y hy=>s.jf j y (jX hy).2,s.bI⟩,⟨Nat.le_refl _,fun o ho hn=>cT o fun he=>hn i x hx hl he.symm,fun j y hy hU _=>⟨j,y,(jX hy).2,hU,rfl⟩⟩⟩
 ·obtain⟨k1,k2⟩:=s.obj j y (jX hy).2
  exact⟨k1,k2.mono (Fz.le_refl g) (Nat.le_refl _) (fun _ _=>rfl) k1 fun hU=>cT _ (dp j y hy hU)⟩
 have hd:=s.jf i x hx hl
 rw[cT o (by rintro rfl;rw[hd] at hz;cases hz)]
 exact s.fz o z hz
theorem BL {i j:Nat}{x x' y:aL}(hx:vh.get i=some x)(hy:(vh.put i x').get j=some y):(j=i∧y=x')∨(j≠i∧vh.get j=some y):=by
 rw[ai.dH vh i j x' x hx] at hy
 by_cases h:j=i
 ·simp[h] at hy;exact .inl ⟨h,hy.symm⟩
 simp[h] at hy;exact .inr ⟨h,hy⟩
theorem VS.write (s:VS lo g σ vh h){i:Nat}{x x':aL}(hx:vh.get i=some x)(hl:x.live=true)(y:a7)(tt:rj g σ vh.next (h.put (σ i).1 (some y)) i x'):VS lo g σ (vh.put i x') (h.put (σ i).1 (some y))∧VF σ vh h σ (vh.put i x') (h.put (σ i).1 (some y)):=by
 have aY:=(s.obj i x hx).2.lt hl
 have cT:∀o,o≠(σ i).1→(h.put (σ i).1 (some y)).get o=h.get o:=fun o ho=>by rw[ah.dH _ _ _ _ aY,if_neg ho]
 have dp:∀j z,j≠i→vh.get j=some z→z.live=true→(σ j).1≠(σ i).1:=fun j z hj hz bW he=>hj (s.inj j i z x hz hx bW hl he)
 refine⟨⟨fun j z hz=>?_,fun j k z z' hz jT bW sq he=>?_,fun j z hz bW=>?_,fun o z hz=>?_,fun j z hz bW=>?_,s.bI⟩,⟨Nat.le_refl _,fun o ho hn=>cT o fun he=>hn i x hx hl he.symm,fun j z hz bW _=>?_⟩⟩
 ·rcases BL hx hz with⟨rfl,rfl⟩|⟨hj,hz⟩
  ·exact⟨(s.obj j x hx).1,tt⟩
  obtain⟨k1,k2⟩:=s.obj j z hz
  exact⟨k1,k2.mono (Fz.le_refl g) (Nat.le_refl _) (fun _ _=>rfl) k1 fun bW=>cT _ (dp j z hj hz bW)⟩
 ·rcases BL hx hz with⟨rfl,rfl⟩|⟨hj,rZ⟩<;>rcases BL hx jT with⟨rfl,rfl⟩|⟨hk,pe⟩
  ·rfl
  ·exact absurd he.symm (dp k z' hk pe sq)
  ·exact absurd he (dp j z hj rZ bW)
  exact s.inj j k z z' rZ pe bW sq he
 ·rcases BL hx hz with⟨rfl,rfl⟩|⟨hj,hz⟩
  ·exact s.low j x hx hl
  exact s.low j z hz bW
 ·have hd:=s.jf i x hx hl
  rw[cT o (by rintro rfl;rw[hd] at hz;cases hz)]
  exact s.fz o z hz
 ·rcases BL hx hz with⟨rfl,rfl⟩|⟨hj,hz⟩
  ·exact s.jf j x hx hl
  exact s.jf j z hz bW
 rcases BL hx hz with⟨rfl,rfl⟩|⟨hj,hz⟩
 ·exact⟨j,x,hx,hl,rfl⟩
 exact⟨j,z,hz,bW,rfl⟩
def ki (vh:ai)(v:PV):PV×ai:=(.ptr vh.next 0,vh.alloc (.box v.cells))
theorem Px (s:VS lo g σ vh h){cs:List PV}{ar:List Value}(hc:be (VR g σ vh.next) cs ar):iN lo g σ vh h (.ptr vh.next 0) (vh.alloc (.box cs)) (.pointer (some ⟨h.next,0,none⟩)) (h.alloc (.cells 0 ar)):=by
 have cu:∀i,i<vh.next→(σ.put vh.next (h.next,0,0)) i=σ i:=fun i hi=>Sg.xo _ _ (by omega)
 obtain⟨h1,h2⟩:=s.alloc (x:=.box cs) (.cells 0 ar) 0 ⟨0,ar,by rw[Sg.cz,ah.ij,if_pos rfl],by rw[Sg.cz],hc.BK (Fz.le_refl g) (Nat.le_succ _) cu⟩
 refine⟨_,?_,h1,h2,Nat.le_succ _,cu⟩
 have:=VR.ptr (g:=g) (σ:=σ.put vh.next (h.next,0,0)) (n:=(vh.alloc (.box cs)).next) vh.next 0 h.next 0 0 (Nat.lt_succ_self _) (Sg.cz _ _ _)
 simpa using this
theorem Xk (s:VS lo g σ vh h){v:PV}{v':Value}(hv:VR g σ vh.next v v'):iN lo g σ vh h (ki vh v).1 (ki vh v).2 (rS h v').1 (rS h v').2:=Px s hv.cells
def eA (P:Program)(t:TypeId):Option (List PV):=(oP P t).bind gN
theorem xp {t:TypeId}{z:List PV}(hz:eA P t=some z):∃z',oP P t=some z'∧be (FR g) z z':=by
 unfold eA at hz
 cases h1:oP P t with
 |none=>rw[h1] at hz;cases hz
 |some z'=>rw[h1] at hz;exact⟨z',rfl,(H6 hz).1⟩
def ss (P:Program)(vh:ai)(t:TypeId):Option (PV×ai):=
 match eA P t with
 |some z=>some (.ptr vh.next 0,vh.alloc (.box z))
 |none=>none
theorem Xl (s:VS lo g σ vh h){t:TypeId}{v:PV}{ak:ai}(hv:ss P vh t=some (v,ak)):∃v' h',C6 P h t=some (v',h')∧iN lo g σ vh h v ak v' h':=by
 unfold ss at hv
 split at hv
 ·rename_i z hz
  simp only[az,bO] at hv
  obtain⟨rfl,rfl⟩:=hv
  obtain⟨z',h1,h2⟩:=xp (g:=g) hz
  exact⟨_,_,by simp only[C6,h1],Px s h2.vr⟩
 cases hv
def su (vh:ai):PV×ai:=(.ba vh.next,vh.alloc (.map []))
theorem Xm (s:VS lo g σ vh h):iN lo g σ vh h (su vh).1 (su vh).2 (.map (some h.next)) (h.alloc (.map [])):=by
 have cu:∀i,i<vh.next→(σ.put vh.next (h.next,0,0)) i=σ i:=fun i hi=>Sg.xo _ _ (by omega)
 obtain⟨h1,h2⟩:=s.alloc (x:=.map []) (.map []) 0 ⟨[],by rw[Sg.cz,ah.ij,if_pos rfl],by rw[Sg.cz],.nil,.nil⟩
 exact⟨_,VR.ba vh.next h.next 0 0 (Nat.lt_succ_self _) (Sg.cz _ _ _),h1,h2,Nat.le_succ _,cu⟩
def gA (place:Nat→Option (Nat×Nat)):List PV→List (Nat×PV)→Option (List PV)
 |cells,[]=>some cells
 |cells,(i,v)::rest=>
  match place i with
  |none=>none
  |some (off,size)=>
   bif Nat.beq v.cells.length size&&Nat.ble (off+v.cells.length) cells.length then gA place (kx cells off v.cells) rest else none
theorem Fa {n:Nat}{place:Nat→Option (Nat×Nat)}:∀ {parts:List (Nat×PV)} {cj:List (Nat×Value)} {cells out:List PV} {lP:List Value},H7 (VR g σ n) parts cj→be (VR g σ n) cells lP→gA place cells parts=some out→
  ∃eY,tA place lP cj=some eY∧be (VR g σ n) out eY
 |[],cj,cells,out,lP,hp,hc,ho=>by
  simp only[gA,az] at ho;subst ho
  have:=hp.1;simp at this;subst this
  exact⟨lP,rfl,hc⟩
 |(i,v)::rest,cj,cells,out,lP,hp,hc,ho=>by
  cases cj with
  |nil=>have:=hp.1;simp at this
  |cons q r=>
   obtain⟨i',v'⟩:=q
   have h1:=hp.1
   simp only[List.map_cons,List.cons.injEq] at h1
   obtain⟨rfl,h1⟩:=h1
   obtain⟨u,l,h2,h3,h4⟩:=hp.2.dw
   simp only[List.map_cons,List.cons.injEq] at h2
   obtain⟨rfl,rfl⟩:=h2
   simp only[gA] at ho
   simp only[tA]
   have Py:=h3.cells
   split at ho
   ·cases ho
   rename_i off size il
   simp only[il]
   rw[← Py.1,← hc.1]
   cases hb:(Nat.beq v.cells.length size&&Nat.ble (off+v.cells.length) cells.length) with
   |false=>rw[hb] at ho;cases ho
   |true=>
    rw[hb] at ho
    simp only[aM] at ho ⊢
    exact Fa ⟨h1,h4⟩ (hc.fq off Py) ho
def lQ (P:Program)(t:TypeId)(parts:List (Nat×PV)):Option PV:=
 match eA P t,P.underlying t with
 |some z,some (.struct fields)=>
  match C9 P fields.toList with
  |some l=>(gA (l[·]?) z parts).map .agg
  |none=>none
 |some z,some (.array _ e)=>
  match cW P e with
  |some n=>(gA (fun i=>some (i*n,n)) z parts).map .agg
  |none=>none
 |_,_=>none
theorem Xn {n:Nat}{t:TypeId}{parts:List (Nat×PV)}{cj:List (Nat×Value)}{v:PV}(hp:H7 (VR g σ n) parts cj)(hv:lQ P t parts=some v):∃v',Da P t cj=some v'∧VR g σ n v v':=by
 unfold lQ at hv
 split at hv
 ·rename_i z fields hz hu
  obtain⟨z',h1,h2⟩:=xp (g:=g) hz
  split at hv
  ·rename_i l hl
   obtain⟨cs,h3,rfl⟩:=dd hv
   obtain⟨ar,h4,h5⟩:=Fa hp h2.vr h3
   exact⟨.agg ar.toArray,by simp only[Da,h1,hu,hl,h4,Option.map_some],Du h5⟩
  cases hv
 ·rename_i z m e hz hu
  obtain⟨z',h1,h2⟩:=xp (g:=g) hz
  split at hv
  ·rename_i sz hl
   obtain⟨cs,h3,rfl⟩:=dd hv
   obtain⟨ar,h4,h5⟩:=Fa hp h2.vr h3
   exact⟨.agg ar.toArray,by simp only[Da,h1,hu,hl,h4,Option.map_some],Du h5⟩
  cases hv
 cases hv
def cG (z:List PV)(n:Nat):List PV:=(List.replicate n z).flatten
theorem Dw {R:PV→Value→Prop}{z:List PV}{z':List Value}(hz:be R z z'):∀n,be R (cG z n) (cR z' n)
 |0=>.nil
 |n+1=>by
  simp only[cG,List.replicate_succ,List.flatten_cons,cR]
  exact hz.append (Dw hz n)
theorem Pz (s:VS lo g σ vh h){ag:Bool}{cs:List PV}{ar:List Value}{sz len k:Nat}(h0:0<sz)(KI:len≤k)(hk:k<ay)(hc:be (FR g) cs ar) :
  iN lo g σ vh h (.own vh.next 0 len k) (vh.alloc (.arr ag sz cs)) (.slice (some ⟨h.next,0,none⟩) len k) (h.alloc (.cells 0 ar)):=by
 have cu:∀i,i<vh.next→(σ.put vh.next (h.next,0,0)) i=σ i:=fun i hi=>Sg.xo _ _ (by omega)
 obtain⟨h1,h2⟩:=s.alloc (x:=.arr ag sz cs) (.cells 0 ar) 0 ⟨h0,0,ar,by rw[Sg.cz,ah.ij,if_pos rfl],by rw[Sg.cz],hc⟩
 refine⟨_,?_,h1,h2,Nat.le_succ _,cu⟩
 have:=VR.own (g:=g) (σ:=σ.put vh.next (h.next,0,0)) (n:=(vh.alloc (.arr ag sz cs)).next) vh.next 0 len k h.next 0 0 (Nat.lt_succ_self _) (Sg.cz _ _ _) KI hk
 simpa using this
def qo (P:Program)(vh:ai)(t:TypeId)(len:Nat)(parts:List (Nat×PV)):Option (PV×ai):=
 match fT P t with
 |some (e,n)=>
  match eA P e,bB P e with
  |some z,some ag=>
   bif Nat.beq z.length n&&Nat.ble (len*n) 16777216&&Nat.blt 0 n then
    match gA (fun i=>some (i*n,n)) (cG z len) parts with
    |some cs=>bif PV.aJ cs then some (.own vh.next 0 len len,vh.alloc (.arr ag n cs)) else none
    |none=>none
   else none
  |_,_=>none
 |none=>none
theorem Xo (s:VS lo g σ vh h){t:TypeId}{len:Nat}{parts:List (Nat×PV)}{cj:List (Nat×Value)}{v:PV}{ak:ai}(hp:H7 (VR g σ vh.next) parts cj)(hv:qo P vh t len parts=some (v,ak)) :
  ∃v' h',Dc P h t len cj=some (v',h')∧iN lo g σ vh h v ak v' h':=by
 unfold qo at hv
 split at hv
 ·rename_i e n ht
  split at hv
  ·rename_i z ag hz dZ
   obtain⟨z',h1,h2⟩:=xp (g:=g) hz
   cases hb:(Nat.beq z.length n&&Nat.ble (len*n) 16777216&&Nat.blt 0 n) with
   |false=>rw[hb] at hv;cases hv
   |true=>
    rw[hb] at hv
    simp only[aM] at hv
    split at hv
    ·rename_i cs hf
     cases ha:PV.aJ cs with
     |false=>rw[ha] at hv;cases hv
     |true=>
      rw[ha] at hv
      simp only[aM,az,bO] at hv
      obtain⟨rfl,rfl⟩:=hv
      obtain⟨ar,h4,h5⟩:=Fa hp (Dw h2.vr len) hf
      have oO:(Nat.beq z'.length n&&Nat.ble (len*n) 16777216&&Nat.blt 0 n)=true:=by rw[← h2.1];exact hb
      simp only[bV,Nat.blt_eq,Nat.ble_eq] at hb
      have hlen:len≤len*n:=Nat.le_mul_of_pos_right _ hb.2
      have:(16777216:Nat)<ay:=by decide
      exact⟨_,_,by simp only[Dc,ht,h1,oO,aM,h4],Pz s hb.2 (Nat.le_refl _) (by omega) (h5.aH ha)⟩
    cases hv
  cases hv
 cases hv
def qq (P:Program)(vh:ai)(t:TypeId)(l c:PV):Option (PV×ai):=
 match l,c,fT P t with
 |.int .i64 l,.int .i64 c,some (e,n)=>
  match eA P e,(P.info? e).map (·.bytes),bB P e with
  |some z,some bytes,some ag=>
   bif decide (0≤l∧l≤c∧c≤4294967296)&&Nat.beq z.length n&&Nat.ble bytes 4096&&Nat.blt 0 n then
    some (.own vh.next 0 l.toNat c.toNat,vh.alloc (.arr ag n (cG z c.toNat)))
   else none
  |_,_,_=>none
 |_,_,_=>none
theorem Xp (s:VS lo g σ vh h){t:TypeId}{l c v:PV}{l' c':Value}{ak:ai}(hl:VR g σ vh.next l l')(hc:VR g σ vh.next c c')(hv:qq P vh t l c=some (v,ak)) :
  ∃v' h',Dd P h t l' c'=some (v',h')∧iN lo g σ vh h v ak v' h':=by
 unfold qq at hv
 split at hv
 ·rename_i l c e n ht
  have:=hl.aH rfl;cases this
  have:=hc.aH rfl;cases this
  split at hv
  ·rename_i z bytes ag hz nQ dZ
   obtain⟨z',h1,h2⟩:=xp (g:=g) hz
   cases hb:(decide (0≤l∧l≤c∧c≤4294967296)&&Nat.beq z.length n&&Nat.ble bytes 4096&&Nat.blt 0 n) with
   |false=>rw[hb] at hv;cases hv
   |true=>
    rw[hb] at hv
    simp only[aM,az,bO] at hv
    obtain⟨rfl,rfl⟩:=hv
    simp only[bV,decide_eq_true_eq,Nat.blt_eq,Nat.ble_eq] at hb
    obtain⟨⟨⟨⟨kf,cS,oy⟩,BM⟩,KO⟩,Fb⟩:=hb
    have Dg:z'.length=n:=by rw[← h2.1];simpa using BM
    cases l with
    |negSucc l=>omega
    |ofNat l=>
     cases c with
     |negSucc c=>omega
     |ofNat c=>
      have e1:l≤c:=by have:(l:Int)≤(c:Int):=cS;omega
      have e2:c≤4294967296:=by have:(c:Int)≤4294967296:=oy;omega
      have e3:bytes*c≤4096*4294967296:=Nat.mul_le_mul KO e2
      have cU:(Nat.beq z'.length n&&Nat.ble l c&&Nat.ble (bytes*c) 281474976710656&&Nat.blt 0 n&&Nat.ble c 281474976710656)=true:=by
       simp only[bV,Nat.ble_eq,Nat.blt_eq]
       exact⟨⟨⟨⟨by rw[Dg];exact Nat.beq_refl n,e1⟩,by omega⟩,Fb⟩,by omega⟩
      have:(4294967296:Nat)<ay:=by decide
      exact⟨.slice (some ⟨h.next,0,none⟩) l c,h.alloc (.cells 0 (cR z' c)),by simp only[Dd,ht,h1,nQ,cU,aM],Pz s Fb e1 (by omega) (Dw h2 c)⟩
  cases hv
 cases hv
def sv (P:Program)(vh:ai)(t:TypeId)(p v:PV):Option ai:=
 match p with
 |.ptr i off=>
  match vh.get i,cW P t with
  |some (.box cs),some n=>bif Nat.beq v.cells.length n&&v.cells.all PV.one&&Nat.ble (off+n) cs.length then some (vh.put i (.box (kx cs off v.cells))) else none
  |some (.arr ag sz cs),some n=>bif Nat.beq v.cells.length n&&v.cells.all PV.one&&Nat.ble (off+n) cs.length&&PV.aJ v.cells then some (vh.put i (.arr ag sz (kx cs off v.cells))) else none
  |_,_=>none
 |_=>none
theorem Xq (s:VS lo g σ vh h){t:TypeId}{p v:PV}{p' v':Value}{ak:ai}(hp:VR g σ vh.next p p')(pP:VR g σ vh.next v v')(hv:sv P vh t p v=some ak) :
  ∃h',C7 P lo h t p' v'=some h'∧iN lo g σ vh h (.bn []) ak Go.undef h':=by
 unfold sv at hv
 split at hv
 ·rename_i i off
  cases hp with
  |fr _ _ h=>cases h
  |ptr _ _ o a k hi hs=>
   have gq:=pP.cells
   split at hv
   ·rename_i cs n hg hn
    cases hb:(Nat.beq v.cells.length n&&v.cells.all PV.one&&Nat.ble (off+n) cs.length) with
    |false=>rw[hb] at hv;cases hv
    |true=>
     rw[hb] at hv;simp only[aM,az] at hv;subst hv
     obtain⟨s0,ar,h1,h2,h3⟩:=(s.obj i _ hg).2
     have bD:=s.low i _ hg rfl
     simp only[bV,Nat.ble_eq,Nat.beq_eq_true_eq] at hb
     obtain⟨⟨kf,cS⟩,oy⟩:=hb
     have h4:=s.write hg rfl (x':=.box (kx cs off v.cells)) (.cells s0 (fq ar off v'.cells.toList)) ⟨s0,_,by rw[ah.dH _ _ _ _ (ah.fJ h1),if_pos rfl],h2,h3.fq off gq⟩
     rw[hs] at h1 h2 bD h4
     simp only at h1 h2 bD h4;subst h2
     have cU:(Nat.ble lo o&&Nat.beq v'.cells.toList.length n&&v'.cells.toList.all (·.oneCell')&&Nat.ble (0+off+n) ar.length)=true:=by
      simp only[bV,Nat.ble_eq,Nat.beq_eq_true_eq]
      exact⟨⟨⟨bD,by rw[← gq.1];exact kf⟩,gq.u7 cS⟩,by rw[← h3.1];omega⟩
     rw[Nat.zero_add] at cU ⊢
     refine⟨_,by simp only[C7,h1,hn,cU,aM],σ,.fr _ _ ?_,h4.1,h4.2,Nat.le_refl _,fun _ _=>rfl⟩
     exact .bn [] #[] rfl (fun i v v' h=>by simp at h)
   ·rename_i ag sz cs n hg hn
    cases hb:(Nat.beq v.cells.length n&&v.cells.all PV.one&&Nat.ble (off+n) cs.length&&PV.aJ v.cells) with
    |false=>rw[hb] at hv;cases hv
    |true=>
     rw[hb] at hv;simp only[aM,az] at hv;subst hv
     obtain⟨h0,s0,ar,h1,h2,h3⟩:=(s.obj i _ hg).2
     have bD:=s.low i _ hg rfl
     simp only[bV,Nat.ble_eq,Nat.beq_eq_true_eq] at hb
     obtain⟨⟨⟨kf,cS⟩,oy⟩,BM⟩:=hb
     have h4:=s.write hg rfl (x':=.arr ag sz (kx cs off v.cells)) (.cells s0 (fq ar off v'.cells.toList)) ⟨h0,s0,_,by rw[ah.dH _ _ _ _ (ah.fJ h1),if_pos rfl],h2,h3.fq off (gq.aH BM)⟩
     rw[hs] at h1 h2 bD h4
     simp only at h1 h2 bD h4;subst h2
     have cU:(Nat.ble lo o&&Nat.beq v'.cells.toList.length n&&v'.cells.toList.all (·.oneCell')&&Nat.ble (0+off+n) ar.length)=true:=by
      simp only[bV,Nat.ble_eq,Nat.beq_eq_true_eq]
      exact⟨⟨⟨bD,by rw[← gq.1];exact kf⟩,gq.u7 cS⟩,by rw[← h3.1];omega⟩
     rw[Nat.zero_add] at cU ⊢
     refine⟨_,by simp only[C7,h1,hn,cU,aM],σ,.fr _ _ ?_,h4.1,h4.2,Nat.le_refl _,fun _ _=>rfl⟩
     exact .bn [] #[] rfl (fun i v v' h=>by simp at h)
   cases hv
 cases hv
end
section
variable {P:Program} {lo:Nat} {g:Fz} {σ:Sg} {vh:ai} {h:ah}
theorem Ao {n:Nat}:∀ {es:List PV},(∀e∈es,e.cells.length=n)→(es.flatMap PV.cells).length=es.length*n
 |[],_=>by simp
 |e::r,hl=>by
  simp only[List.flatMap_cons,List.length_append,List.length_cons]
  rw[Ao fun x hx=>hl x (List.mem_cons_of_mem _ hx),hl e (by simp),Nat.succ_mul]
  omega
theorem PA {R:PV→Value→Prop}{n:Nat}{ar:List Value}:∀ {es:List PV} {off:Nat},(∀e∈es,e.cells.length=n)→(∀(i:Nat) e (j:Nat) v v',es[i]?=some e→e.cells[j]?=some v→ar[off+i*n+j]?=some v'→R v v')→
  off+es.length*n≤ar.length→be R (es.flatMap PV.cells) ((ar.drop off).take (es.length*n))
 |[],off,_,_,_=>by simp only[List.flatMap_nil,List.length_nil,Nat.zero_mul,List.take_zero];exact .nil
 |e::r,off,hl,hr,hlen=>by
  simp only[List.length_cons,Nat.succ_mul] at hlen
  have he:=hl e (by simp)
  have ih:=PA (R:=R) (n:=n) (ar:=ar) (es:=r) (off:=off+n) (fun x hx=>hl x (List.mem_cons_of_mem _ hx)) (fun i x j v v' hx hv aW=>hr (i+1) x j v v' (by simpa using hx) hv (by rw[Nat.succ_mul,show off+(i*n+n)+j=off+n+i*n+j by omega];exact aW)) (by omega)
  have h1:be R e.cells ((ar.drop off).take n):=⟨by simp;omega,fun j v v' hv aW=>by
   rw[List.getElem?_take] at aW
   split at aW
   ·rw[List.getElem?_drop] at aW
    exact hr 0 e j v v' (by simp) hv (by simpa using aW)
   cases aW⟩
  have h2:=h1.append ih
  simp only[List.flatMap_cons,List.length_cons,Nat.succ_mul]
  have h3:(ar.drop off).take (r.length*n+n)=(ar.drop off).take n++(ar.drop (off+n)).take (r.length*n):=by
   rw[Nat.add_comm,List.take_add,List.drop_drop]
  rw[h3];exact h2
theorem Fc {R:PV→Value→Prop}{n:Nat}:∀ {es:List PV} {ar:List Value},(∀e∈es,e.cells.length=n)→be R (es.flatMap PV.cells) ar→∀(i:Nat) e (j:Nat) v v',es[i]?=some e→e.cells[j]?=some v→ar[i*n+j]?=some v'→R v v'
 |[],_,_,_,i,e,j,v,v',he,_,_=>by simp at he
 |x::r,ar,hl,hr,i,e,j,v,v',he,hv,aW=>by
  have hx:=hl x (by simp)
  simp only[List.flatMap_cons] at hr
  cases i with
  |zero=>
   simp at he;subst he
   have hj:j<x.cells.length:=by
    rcases Nat.lt_or_ge j x.cells.length with h|h
    ·exact h
    rw[List.getElem?_eq_none h] at hv;cases hv
   exact hr.2 j v v' (by rw[List.getElem?_append_left hj];exact hv) (by simpa using aW)
  |succ i=>
   have h2:be R (r.flatMap PV.cells) (ar.drop n):=by
    have:=hr.drop n
    rwa [show (x.cells++r.flatMap PV.cells).drop n=r.flatMap PV.cells by rw[← hx];simp] at this
   exact Fc (fun y hy=>hl y (List.mem_cons_of_mem _ hy)) h2 i e j v v' (by simpa using he) hv (by rw[List.getElem?_drop,show n+(i*n+j)=(i+1)*n+j by rw[Nat.succ_mul];omega];exact aW)
theorem Xr {n:Nat}{es:List PV}(h:ky n es=true):∀e∈es,e.cells.length=n:=fun e he=>by
 unfold ky at h
 rw[List.all_eq_true] at h
 simpa using h e he
def chunk (ag:Bool)(sz n:Nat)(cs:List PV):List PV:=bif ag then (List.range n).map fun i=>.agg ((cs.drop (i*sz)).take sz) else cs.take n
theorem KP {sz:Nat}:∀ {n:Nat} {cs:List PV},n*sz≤cs.length→(chunk true sz n cs).flatMap PV.cells=cs.take (n*sz)
 |0,cs,_=>by simp[chunk]
 |n+1,cs,h=>by
  have ih:=KP (sz:=sz) (n:=n) (cs:=cs.drop sz) (by rw[Nat.succ_mul] at h;simp;omega)
  simp only[chunk,aM] at ih ⊢
  rw[List.range_succ_eq_map,List.map_cons,List.flatMap_cons,List.map_map]
  have he:((fun i=>PV.agg ((cs.drop (i*sz)).take sz))∘Nat.succ)=fun i=>PV.agg (((cs.drop sz).drop (i*sz)).take sz):=by
   funext i
   simp only[Function.comp,List.drop_drop]
   rw[Nat.succ_mul,Nat.add_comm sz]
  rw[he,ih]
  simp only[Nat.zero_mul,List.drop_zero,PV.cells]
  rw[Nat.succ_mul,Nat.add_comm (n*sz),List.take_add]
theorem PB:∀ {n:Nat} {cs:List PV},ky 1 (cs.take n)=true→cs.all PV.one=true→(chunk false 1 n cs).flatMap PV.cells=cs.take n
 |n,cs,_,ho=>by
  simp only[chunk,bq]
  have h1:∀l:List PV,l.all PV.one=true→l.flatMap PV.cells=l:=fun l=>by
   induction l with
   |nil=>intro _;rfl
   |cons e r ih=>
    intro h
    simp only[List.all_cons,bV] at h
    rw[List.flatMap_cons,ih h.2]
    cases e<;>first|rfl|(simp[PV.one] at h)
  exact h1 _ (by rw[List.all_eq_true] at ho ⊢;exact fun x hx=>ho x (List.mem_of_mem_take hx))
def jY (vh:ai)(n:Nat)(x:PV):Option (List PV):=
 match x with
 |.aG=>some []
 |.e0=>some []
 |.vec es=>bif ky n es then some es else none
 |.own i off len _=>match vh.get i with
  |some (.arr ag sz cs)=>bif Nat.beq sz n&&(ag||(Nat.beq sz 1&&cs.all PV.one))&&Nat.ble (off+len*n) cs.length then some (chunk ag sz len (cs.drop off)) else none
  |_=>none
 |.sub i off len=>match vh.get i with
  |some (.arr ag sz cs)=>bif Nat.beq sz n&&(ag||(Nat.beq sz 1&&cs.all PV.one))&&Nat.ble (off+len*n) cs.length then some (chunk ag sz len (cs.drop off)) else none
  |_=>none
 |.grow i m _=>bif Nat.beq m 0 then some [] else match vh.get i with
  |some (.grow sz es)=>bif Nat.beq sz n&&Nat.beq es.length m then some es else none
  |_=>none
 |_=>none
theorem Dx (s:VS lo g σ vh h){n:Nat}(hn:0<n){x:PV}{x':Value}{es:List PV}(hx:VR g σ vh.next x x')(he:jY vh n x=some es) :
  jG x'=some es.length∧(∀e∈es,e.cells.length=n)∧∀m,m≤es.length→∃bl,oq h n x' m=some bl∧be (FR g) ((es.take m).flatMap PV.cells) bl:=by
 have nil:∀ {x':Value},∀m,m≤([]:List PV).length→∃bl,oq h n x' m=some bl∧be (FR g) ((([]:List PV).take m).flatMap PV.cells) bl:=fun m hm=>by
  have:m=0:=by simpa using hm
  subst this
  exact⟨[],by simp[oq],.nil⟩
 have src:∀ {o off k s0:Nat} {ar:List Value} {es:List PV},h.get o=some (.cells s0 ar)→off+es.length*n≤ar.length→(∀e∈es,e.cells.length=n)→be (FR g) (es.flatMap PV.cells) ((ar.drop off).take (es.length*n))→
   ∀m,m≤es.length→∃bl,oq h n (.slice (some ⟨o,off,none⟩) es.length k) m=some bl∧be (FR g) ((es.take m).flatMap PV.cells) bl:=fun {o off k s0 ar es} hg hlen hl hr m hm=>by
  rcases jU m 0 with⟨hq,b8⟩|⟨hq,b8⟩
  ·subst b8;exact⟨[],by simp[oq],by simp;exact .nil⟩
  have h1:m*n≤es.length*n:=Nat.mul_le_mul_right _ hm
  have h2:Nat.ble (off+m*n) ar.length=true:=by rw[Nat.ble_eq];omega
  refine⟨(ar.drop off).take (m*n),by simp only[oq,hq,bq,hg,h2,aM],?_⟩
  have h3:=hr.take (m*n)
  rw[List.take_take,Nat.min_eq_left h1] at h3
  have h4:(es.flatMap PV.cells).take (m*n)=(es.take m).flatMap PV.cells:=by
   have h5:es.flatMap PV.cells=(es.take m).flatMap PV.cells++(es.drop m).flatMap PV.cells:=by rw[← List.flatMap_append,List.take_append_drop]
   have h6:=Ao (es:=es.take m) fun e he=>hl e (List.mem_of_mem_take he)
   rw[h5,List.take_left' (by rw[h6,List.length_take,Nat.min_eq_left hm])]
  rw[h4] at h3;exact h3
 unfold jY at he
 split at he
 ·injection he with he;subst he
  have:=hx.aH rfl;cases this
  exact⟨rfl,by simp,nil⟩
 ·injection he with he;subst he
  have:=hx.aH rfl;cases this<;>exact⟨rfl,by simp,nil⟩
 ·rename_i Ap
  cases bo:ky n Ap with
  |false=>rw[bo] at he;cases he
  |true=>
   rw[bo] at he;simp only[aM,az] at he;subst he
   have hl:=Xr bo
   have:=hx.aH rfl
   cases this with
   |fu=>exact⟨rfl,by simp,nil⟩
   |de=>exact⟨rfl,by simp,nil⟩
   |vec _ o off k s0 sz ar hk dL hg h0 fp hlen r=>
    refine⟨rfl,hl,?_⟩
    by_cases pf:Ap=[]
    ·subst pf;exact nil
    have:sz=n:=by
     have h1:0<Ap.length:=by
      cases Ap with
      |nil=>exact absurd rfl pf
      |cons=>simp
     rw[← fp 0 Ap[0] (by simp[h1])]
     exact hl _ (List.getElem_mem h1)
    subst this
    exact src (s.fz _ _ hg) hlen hl (PA hl r hlen)
 ·rename_i i off len k
  split at he
  ·rename_i ag sz cs tV
   cases hb:(Nat.beq sz n&&(ag||(Nat.beq sz 1&&cs.all PV.one))&&Nat.ble (off+len*n) cs.length) with
   |false=>rw[hb] at he;cases he
   |true=>
    rw[hb] at he;simp only[aM,az] at he;subst he
    simp only[bV,Bool.or_eq_true,Nat.ble_eq,beq_eq,decide_eq_true_eq] at hb
    obtain⟨⟨kf,cS⟩,oy⟩:=hb
    subst kf
    obtain⟨h0,s0,ar,h1,h2,h3⟩:=(s.obj i _ tV).2
    cases hx with
    |fr _ _ h=>cases h
    |own _ _ _ _ o a kk hi hs hl hk=>
     rw[hs] at h1 h2;simp only at h1 h2;subst h2
     have eJ:∀e∈chunk ag sz len (cs.drop off),e.cells.length=sz:=by
      intro e sx
      cases ag with
      |true=>
       simp only[chunk,aM,List.mem_map,List.mem_range] at sx
       obtain⟨i,hi,rfl⟩:=sx
       have:i*sz+sz≤len*sz:=by rw[← Nat.succ_mul];exact Nat.mul_le_mul_right _ hi
       simp[PV.cells];omega
      |false=>
       simp only[Bool.false_eq_true,false_or] at cS
       simp only[chunk,bq] at sx
       have h5:=(List.all_eq_true.1 cS.2) e (List.mem_of_mem_drop (List.mem_of_mem_take sx))
       rw[cS.1]
       cases e<;>first|rfl|(simp[PV.one] at h5)
     have hlen:(chunk ag sz len (cs.drop off)).length=len:=by
      cases ag with
      |true=>simp[chunk]
      |false=>
       simp only[Bool.false_eq_true,false_or] at cS
       have:=cS.1;subst this
       simp[chunk];omega
     have lN:(chunk ag sz len (cs.drop off)).flatMap PV.cells=(cs.drop off).take (len*sz):=by
      cases ag with
      |true=>exact KP (by simp;omega)
      |false=>
       simp only[Bool.false_eq_true,false_or] at cS
       have:=cS.1;subst this
       have bo:(cs.drop off).all PV.one=true:=by rw[List.all_eq_true];exact fun x hx=>(List.all_eq_true.1 cS.2) x (List.mem_of_mem_drop hx)
       have h1:ky 1 ((cs.drop off).take len)=true:=by
        unfold ky
        rw[List.all_eq_true]
        intro e sx
        have h5:=(List.all_eq_true.1 bo) e (List.mem_of_mem_take sx)
        cases e<;>first|rfl|(simp[PV.one] at h5)
       rw[PB h1 bo,Nat.mul_one]
     refine⟨by simp only[jG];rw[hlen],eJ,?_⟩
     have h4:be (FR g) ((chunk ag sz len (cs.drop off)).flatMap PV.cells) ((ar.drop off).take ((chunk ag sz len (cs.drop off)).length*sz)):=by
      rw[lN,hlen];exact(h3.drop off).take _
     have h5:=src (o:=o) (off:=off) (k:=k) h1 (by rw[hlen,← h3.1];exact oy) eJ h4
     rw[hlen] at h5
     rw[Nat.zero_add,hlen];exact h5
  cases he
 ·rename_i i off len
  split at he
  ·rename_i ag sz cs tV
   cases hb:(Nat.beq sz n&&(ag||(Nat.beq sz 1&&cs.all PV.one))&&Nat.ble (off+len*n) cs.length) with
   |false=>rw[hb] at he;cases he
   |true=>
    rw[hb] at he;simp only[aM,az] at he;subst he
    simp only[bV,Bool.or_eq_true,Nat.ble_eq,beq_eq,decide_eq_true_eq] at hb
    obtain⟨⟨kf,cS⟩,oy⟩:=hb
    subst kf
    obtain⟨h0,s0,ar,h1,h2,h3⟩:=(s.obj i _ tV).2
    cases hx with
    |fr _ _ h=>cases h
    |sub _ _ _ k o a kk hi hs hl hk=>
     rw[hs] at h1 h2;simp only at h1 h2;subst h2
     have eJ:∀e∈chunk ag sz len (cs.drop off),e.cells.length=sz:=by
      intro e sx
      cases ag with
      |true=>
       simp only[chunk,aM,List.mem_map,List.mem_range] at sx
       obtain⟨i,hi,rfl⟩:=sx
       have:i*sz+sz≤len*sz:=by rw[← Nat.succ_mul];exact Nat.mul_le_mul_right _ hi
       simp[PV.cells];omega
      |false=>
       simp only[Bool.false_eq_true,false_or] at cS
       simp only[chunk,bq] at sx
       have h5:=(List.all_eq_true.1 cS.2) e (List.mem_of_mem_drop (List.mem_of_mem_take sx))
       rw[cS.1]
       cases e<;>first|rfl|(simp[PV.one] at h5)
     have hlen:(chunk ag sz len (cs.drop off)).length=len:=by
      cases ag with
      |true=>simp[chunk]
      |false=>
       simp only[Bool.false_eq_true,false_or] at cS
       have:=cS.1;subst this
       simp[chunk];omega
     have lN:(chunk ag sz len (cs.drop off)).flatMap PV.cells=(cs.drop off).take (len*sz):=by
      cases ag with
      |true=>exact KP (by simp;omega)
      |false=>
       simp only[Bool.false_eq_true,false_or] at cS
       have:=cS.1;subst this
       have bo:(cs.drop off).all PV.one=true:=by rw[List.all_eq_true];exact fun x hx=>(List.all_eq_true.1 cS.2) x (List.mem_of_mem_drop hx)
       have h1:ky 1 ((cs.drop off).take len)=true:=by
        unfold ky
        rw[List.all_eq_true]
        intro e sx
        have h5:=(List.all_eq_true.1 bo) e (List.mem_of_mem_take sx)
        cases e<;>first|rfl|(simp[PV.one] at h5)
       rw[PB h1 bo,Nat.mul_one]
     refine⟨by simp only[jG];rw[hlen],eJ,?_⟩
     have h4:be (FR g) ((chunk ag sz len (cs.drop off)).flatMap PV.cells) ((ar.drop off).take ((chunk ag sz len (cs.drop off)).length*sz)):=by
      rw[lN,hlen];exact(h3.drop off).take _
     have h5:=src (o:=o) (off:=off) (k:=k) h1 (by rw[hlen,← h3.1];exact oy) eJ h4
     rw[hlen] at h5
     rw[Nat.zero_add,hlen];exact h5
  cases he
 ·rename_i i m nl
  rcases jU m 0 with⟨hq,b8⟩|⟨hq,b8⟩
  ·rw[hq] at he;simp only[aM,az] at he;subst he;subst b8
   cases hx with
   |fr _ _ h=>cases h
   |bX=>exact⟨rfl,by simp,nil⟩
   |bY=>exact⟨rfl,by simp,nil⟩
   |grow _ _ _ _ _ _ _ _ hn=>omega
  rw[hq] at he;simp only[bq] at he
  split at he
  ·rename_i sz Ap tV
   cases hb:(Nat.beq sz n&&Nat.beq Ap.length m) with
   |false=>rw[hb] at he;cases he
   |true=>
    rw[hb] at he;simp only[aM,az] at he;subst he
    simp only[bV,Nat.beq_eq_true_eq] at hb
    obtain⟨kf,cS⟩:=hb
    have kf:sz=n:=by simpa using kf
    have cS:Ap.length=m:=by simpa using cS
    subst kf
    obtain⟨h0,hl,KQ,kP⟩:=(s.obj i _ tV).2
    rcases kP with rfl|⟨s0,ar,h1,h2,h3,h4⟩
    ·exact absurd cS.symm b8
    cases hx with
    |fr _ _ h=>cases h
    |bX=>exact absurd rfl b8
    |bY=>exact absurd rfl b8
    |grow _ _ o a k _ hi hs hm=>
     subst cS
     rw[hs] at h1 h2;simp only at h1 h2;subst h2
     have lN:=Ao hl
     refine⟨rfl,hl,src h1 (by rw[← lN,h3.1];simp) hl ?_⟩
     rw[List.drop_zero,← lN,h3.1,List.take_length];exact h3
  cases he
 cases he
end
end Go.Am
end
