/-
 What is used in the proof of a statement (part Am3); no condition.
-/
import Derived.Laws.IdiomRangeMap
import Derived.Sort.Row
import Derived.Sort.Grow
import Derived.Shelf.SortM.Plain
import Derived.Test.YthnmgbgmlhackaaGreatDoorAm2
set_option linter.all false
set_option maxHeartbeats 40000000
set_option maxRecDepth 100000
section
namespace Go.Am
variable [bE]
section
variable {P:Program}
theorem zop {ts:aL}{t:Nat}{v:Value}(h:t<ts.length):(bN ts (some t) v).getD t Go.undef=v:=by
 simp[bN,h]
theorem U5 {ts:aL}{t u:Nat}{v:Value}(h:t≠u):(bN ts (some t) v).getD u Go.undef=ts.getD u Go.undef:=by
 rw[List.getD_eq_getElem?_getD,List.getD_eq_getElem?_getD,IM (by intro hh;injection hh with hh;exact h hh)]
section
variable {lo:Nat} {i j id1 id2 tI tN tB tE m it nT:Nat} {o1 o2 o3:Oper} {Py:Array Oper} {body:Code} {es:List (Value×Value)} {Inv:List (Value×Value)→aL→ai→Prop} {Q:ow}
end
end
section
variable {P:Program} {lo:Nat} {h:ai}
theorem qv.MG {f:FuncId}{args:List Value}{R:Value→ai→Prop}
  (hc:∀U w bj,bB U args bj.toList→Rel U lo h w→Calls P f bj w fun e w'=>∃r v h' aV,e=.returned v∧ao aV r v∧Rel aV lo h' w'∧Frame lo U h w aV h' w'∧R r h'):qv P lo f args h R:=by
 intro F hF sg n U w bj ha r
 rw[hF.eq sg]
 exact callsIn_wide.2 (hc U w bj ha r)
theorem z7z {U:Mu}{w:World}(os:Array Obj)(n:Nat)(r:Rel U lo h w):Rel U lo h (Sort.grow (Sort.ahead w n) os)∧Frame lo U h w U h (Sort.grow (Sort.ahead w n) os):=by
 have hk:∀b,b<w.heap.size→(Sort.grow (Sort.ahead w n) os).heap[b]?=w.heap[b]?:=fun b hb=>by
  simp only[Sort.grow,Sort.heap_ahead,Array.getElem?_append,hb,if_true]
 refine⟨⟨fun o x hx=>?_,r.inj,r.rm,fun o x b a C hl hx hm off=>?_,r.bX,r.mM.step (by simp[Sort.grow]) (fun b hb _=>hk b hb) fun o x b a C h1 h2 h3 _=>⟨o,x,a,C,h1,h2,h3⟩⟩,⟨Mu.le_refl _,by simp[Sort.grow],Nat.le_refl _,fun b hb _=>hk b hb,fun _ _ h=>h,fun _ _=>rfl,fun _ _=>rfl,fun _ _ h=>h,⟨rfl,rfl,rfl,fun _=>by first|exact Nat.le_refl _|exact Nat.le_add_right _ _|exact Nat.le_succ _⟩⟩⟩
 ·obtain⟨b,a,C,h1,h2⟩:=r.br o x hx
  exact⟨b,a,C,h1,h2.kept (hk b h2.vy)⟩
 rw[Bu (hk b (qT r hx hm).vy)]
 exact r.fZ o x b a C hl hx hm off
end
inductive PV where
  |bool (b:Bool)
  |int (k:IntKind) (n:Int)
  |str (s:ByteArray)
  |nilFunc
  |nilIface
  |gD
  |aJ
  |eE
  |e0
  |func (f:FuncId) (xs ys:List PV)
  |agg (cs:List PV)
  |bz (cs:List PV)
  |iface (t:TypeId) (v:PV)
  |vec (es:List PV)
  |vp (cs:List PV)
  |aG (es:List (PV×PV))
  |ptr (i off:Nat)
  |own (i off len k:Nat)
  |sub (i off len:Nat)
  |grow (i n:Nat) (nl:Bool)
  |a6 (i:Nat)
  |cm (i:Nat)
  deriving Inhabited
def PV.cells:PV→List PV
 |.agg cs=>cs
 |v=>[v]
mutual
def PV.aD:PV→Bool
 |.func _ xs ys=>PV.az xs&&PV.az ys
 |.agg cs=>PV.az cs
 |.bz cs=>PV.az cs
 |.iface _ v=>v.aD
 |.ptr .. | .own .. | .sub .. | .grow .. | .a6 .. | .cm ..=>false
 |_=>true
def PV.az:List PV→Bool
 |[]=>true
 |v::r=>v.aD&&PV.az r
end
mutual
def PV.b8:PV→Bool
 |.func _ xs ys=>PV.dv xs&&PV.dv ys
 |.agg cs=>PV.dv cs
 |.bz cs=>PV.dv cs
 |.iface _ v=>v.b8
 |.bool .. | .int .. | .str .. | .nilFunc|.nilIface|.gD|.aJ|.eE=>true
 |_=>false
def PV.dv:List PV→Bool
 |[]=>true
 |v::r=>v.b8&&PV.dv r
end
theorem PV.Hl:∀ {l:List PV} {i:Nat} {v:PV},PV.az l=true→l[i]?=some v→v.aD=true
 |[],i,v,_,h=>by simp at h
 |u::r,i,v,ha,h=>by
  simp only[PV.az,bW] at ha
  cases i with
  |zero=>simp at h;subst h;exact ha.1
  |succ i=>simp at h;exact PV.Hl ha.2 h
theorem PV.I7:∀ {l:List PV} {i:Nat} {v:PV},PV.dv l=true→l[i]?=some v→v.b8=true
 |[],i,v,_,h=>by simp at h
 |u::r,i,v,ha,h=>by
  simp only[PV.dv,bW] at ha
  cases i with
  |zero=>simp at h;subst h;exact ha.1
  |succ i=>simp at h;exact PV.I7 ha.2 h
theorem PV.U6:∀ {l:List PV},(∀v∈l,v.aD=true)→PV.az l=true
 |[],_=>rfl
 |v::r,h=>by simp only[PV.az,bW];exact⟨h v (by simp),PV.U6 fun u hu=>h u (List.mem_cons_of_mem _ hu)⟩
abbrev Fz:=Nat→Option bn
inductive FR (g:Fz):PV→Value→Prop where
  |bool (b:Bool):FR g (.bool b) (.bool b)
  |int (k:IntKind) (n:Int):FR g (.int k n) (.int k n)
  |str (s:ByteArray):FR g (.str s) (.string s)
  |nilFunc:FR g .nilFunc .nilFunc
  |nilIface:FR g .nilIface .nilIface
  |gD:FR g .gD (.pointer none)
  |aJ:FR g .aJ (.slice none 0 0)
  |eE:FR g .eE (.map none)
  |xI:FR g .e0 (.slice none 0 0)
  |e0 (o off:Nat):FR g .e0 (.slice (some ⟨o,off,none⟩) 0 0)
  |func (f:FuncId) (xs ys:List PV) (bu eI:Array Value) (hx:xs.length=bu.size) (hy:ys.length=eI.size)
      (rx:∀(i:Nat) v v',xs[i]?=some v→bu[i]?=some v'→FR g v v') (ry:∀(i:Nat) v v',ys[i]?=some v→eI[i]?=some v'→FR g v v') :
      FR g (.func f xs ys) (.func (.func f) bu eI)
  |agg (cs:List PV) (au:Array Value) (hs:cs.length=au.size) (r:∀(i:Nat) v v',cs[i]?=some v→au[i]?=some v'→FR g v v'):FR g (.agg cs) (.agg au)
  |bz (cs:List PV) (au:Array Value) (hs:cs.length=au.size) (r:∀(i:Nat) v v',cs[i]?=some v→au[i]?=some v'→FR g v v'):FR g (.bz cs) (.tuple au)
  |iface (t:TypeId) (v:PV) (v':Value) (h:FR g v v'):FR g (.iface t v) (.iface t v')
  |ie:FR g (.vec []) (.slice none 0 0)
  |et (o off k:Nat):FR g (.vec []) (.slice (some ⟨o,off,none⟩) 0 k)
  |vec (es:List PV) (o off k s sz:Nat) (au:List Value) (hk:es.length≤k) (eY:k+es.length<eU) (hg:g o=some (.cells s au)) (h0:0<sz) (dU:∀(i:Nat) e,es[i]?=some e→e.cells.length=sz) (hlen:off+es.length*sz≤au.length)
      (r:∀(i:Nat) e (j:Nat) v v',es[i]?=some e→e.cells[j]?=some v→au[off+i*sz+j]?=some v'→FR g v v'):FR g (.vec es) (.slice (some ⟨o,off,none⟩) es.length k)
  |vp (cs:List PV) (o off s:Nat) (au:List Value) (hg:g o=some (.cells s au)) (hlen:off+cs.length≤au.length)
      (r:∀(j:Nat) v v',cs[j]?=some v→au[off+j]?=some v'→FR g v v'):FR g (.vp cs) (.pointer (some ⟨o,off,none⟩))
  |aG (es:List (PV×PV)) (o:Nat) (bs:List (Value×Value)) (hg:g o=some (.map bs)) (hlen:es.length=bs.length)
      (rk:∀(j:Nat) p p',es[j]?=some p→bs[j]?=some p'→FR g p.1 p'.1) (rv:∀(j:Nat) p p',es[j]?=some p→bs[j]?=some p'→FR g p.2 p'.2):FR g (.aG es) (.map (some o))
def Fz.le (g g':Fz):Prop:=∀o x,g o=some x→g' o=some x
theorem Fz.le_refl (g:Fz):g.le g:=fun _ _ h=>h
theorem Fz.le_trans {a b c:Fz}(h:a.le b)(h':b.le c):a.le c:=fun o x hx=>h' o x (h o x hx)
theorem FR.mono {g g':Fz}(hle:g.le g'){v:PV}{v':Value}(h:FR g v v'):FR g' v v':=by
 induction h with
 |bool b=>exact .bool b
 |int k n=>exact .int k n
 |str s=>exact .str s
 |nilFunc=>exact .nilFunc
 |nilIface=>exact .nilIface
 |gD=>exact .gD
 |aJ=>exact .aJ
 |eE=>exact .eE
 |xI=>exact .xI
 |e0 o off=>exact .e0 o off
 |func f xs ys bu eI hx hy _ _ rx ry=>exact .func f xs ys bu eI hx hy rx ry
 |agg cs au hs _ r=>exact .agg cs au hs r
 |bz cs au hs _ r=>exact .bz cs au hs r
 |iface t v v' _ ih=>exact .iface t v v' ih
 |ie=>exact .ie
 |et o off k=>exact .et o off k
 |vec es o off k s sz au hk eY hg h0 dU hlen _ r=>exact .vec es o off k s sz au hk eY (hle _ _ hg) h0 dU hlen r
 |vp cs o off s au hg hlen _ r=>exact .vp cs o off s au (hle _ _ hg) hlen r
 |aG es o bs hg hlen _ _ rk rv=>exact .aG es o bs (hle _ _ hg) hlen rk rv
abbrev Sg:=Nat→Nat×Nat×Nat
inductive VR (g:Fz) (σ:Sg) (n:Nat):PV→Value→Prop where
  |fr (v:PV) (v':Value) (h:FR g v v'):VR g σ n v v'
  |ptr (i off o a k:Nat) (hi:i<n) (h:σ i=(o,a,k)):VR g σ n (.ptr i off) (.pointer (some ⟨o,a+off,none⟩))
  |own (i off len k o a kk:Nat) (hi:i<n) (h:σ i=(o,a,kk)) (hl:len≤k) (hk:k<aC):VR g σ n (.own i off len k) (.slice (some ⟨o,a+off,none⟩) len k)
  |sub (i off len k o a kk:Nat) (hi:i<n) (h:σ i=(o,a,kk)) (hl:len≤k) (hk:k+len<eU):VR g σ n (.sub i off len) (.slice (some ⟨o,a+off,none⟩) len k)
  |cB (i:Nat) (nl:Bool):VR g σ n (.grow i 0 nl) (.slice none 0 0)
  |cC (i o off:Nat):VR g σ n (.grow i 0 false) (.slice (some ⟨o,off,none⟩) 0 0)
  |grow (i m o a k:Nat) (nl:Bool) (hi:i<n) (h:σ i=(o,a,k)) (hn:0<m):VR g σ n (.grow i m nl) (.slice (some ⟨o,a,none⟩) m k)
  |a6 (i o a k:Nat) (hi:i<n) (h:σ i=(o,a,k)):VR g σ n (.a6 i) (.map (some o))
  |cm (i o a k:Nat) (hi:i<n) (h:σ i=(o,a,k)):VR g σ n (.cm i) (.func (.yield o) #[] #[])
  |agg (cs:List PV) (au:Array Value) (hs:cs.length=au.size) (r:∀(i:Nat) v v',cs[i]?=some v→au[i]?=some v'→VR g σ n v v'):VR g σ n (.agg cs) (.agg au)
  |bz (cs:List PV) (au:Array Value) (hs:cs.length=au.size) (r:∀(i:Nat) v v',cs[i]?=some v→au[i]?=some v'→VR g σ n v v'):VR g σ n (.bz cs) (.tuple au)
  |func (f:FuncId) (xs ys:List PV) (bu eI:Array Value) (hx:xs.length=bu.size) (hy:ys.length=eI.size)
      (rx:∀(i:Nat) v v',xs[i]?=some v→bu[i]?=some v'→VR g σ n v v') (ry:∀(i:Nat) v v',ys[i]?=some v→eI[i]?=some v'→VR g σ n v v') :
      VR g σ n (.func f xs ys) (.func (.func f) bu eI)
theorem VR.mono {g g':Fz}{σ aU:Sg}{n n':Nat}(hle:g.le g')(hn:n≤n')(cW:∀i,i<n→aU i=σ i){v:PV}{v':Value}(h:VR g σ n v v'):VR g' aU n' v v':=by
 induction h with
 |fr v v' h=>exact .fr v v' (h.mono hle)
 |ptr i off o a k hi h=>exact .ptr i off o a k (by omega) ((cW i hi).trans h)
 |own i off len k o a kk hi h hl hk=>exact .own i off len k o a kk (by omega) ((cW i hi).trans h) hl hk
 |sub i off len k o a kk hi h hl hk=>exact .sub i off len k o a kk (by omega) ((cW i hi).trans h) hl hk
 |cB i nl=>exact .cB i nl
 |cC i o off=>exact .cC i o off
 |grow i m o a k nl hi h hn=>exact .grow i m o a k nl (by omega) ((cW i hi).trans h) hn
 |a6 i o a k hi h=>exact .a6 i o a k (by omega) ((cW i hi).trans h)
 |cm i o a k hi h=>exact .cm i o a k (by omega) ((cW i hi).trans h)
 |agg cs au hs _ r=>exact .agg cs au hs r
 |bz cs au hs _ r=>exact .bz cs au hs r
 |func f xs ys bu eI hx hy _ _ rx ry=>exact .func f xs ys bu eI hx hy rx ry
theorem PV.U7 {f:FuncId}{xs ys:List PV}:(PV.func f xs ys).aD=(PV.az xs&&PV.az ys):=by simp only[PV.aD]
theorem PV.Pz {cs:List PV}:(PV.agg cs).aD=PV.az cs:=by simp only[PV.aD]
theorem PV.U8 {cs:List PV}:(PV.bz cs).aD=PV.az cs:=by simp only[PV.aD]
theorem VR.aD {g:Fz}{σ:Sg}{n:Nat}{v:PV}{v':Value}(h:VR g σ n v v'):v.aD=true→FR g v v':=by
 induction h with
 |fr v v' h=>exact fun _=>h
 |ptr=>intro h;simp[PV.aD] at h
 |own=>intro h;simp[PV.aD] at h
 |sub=>intro h;simp[PV.aD] at h
 |cB=>intro h;simp[PV.aD] at h
 |cC=>intro h;simp[PV.aD] at h
 |grow=>intro h;simp[PV.aD] at h
 |a6=>intro h;simp[PV.aD] at h
 |cm=>intro h;simp[PV.aD] at h
 |agg cs au hs _ r=>intro h;rw[PV.Pz] at h;exact .agg cs au hs fun i v v' hv bg=>r i v v' hv bg (PV.Hl h hv)
 |bz cs au hs _ r=>intro h;rw[PV.U8] at h;exact .bz cs au hs fun i v v' hv bg=>r i v v' hv bg (PV.Hl h hv)
 |func f xs ys bu eI hx hy _ _ rx ry=>intro h;rw[PV.U7,bW] at h;exact .func f xs ys bu eI hx hy (fun i v v' hv bg=>rx i v v' hv bg (PV.Hl h.1 hv)) (fun i v v' hv bg=>ry i v v' hv bg (PV.Hl h.2 hv))
def bp (R:PV→Value→Prop)(l:List PV)(l':List Value):Prop:=l.length=l'.length∧∀(i:Nat) v v',l[i]?=some v→l'[i]?=some v'→R v v'
section
variable {R R':PV→Value→Prop}
theorem bp.mono (hm:∀v v',R v v'→R' v v'){l:List PV}{l':List Value}(h:bp R l l'):bp R' l l':=⟨h.1,fun i v v' a b=>hm _ _ (h.2 i v v' a b)⟩
theorem bp.nil:bp R [] []:=⟨rfl,fun i v v' h=>by simp at h⟩
theorem bp.cons {v:PV}{v':Value}{l:List PV}{l':List Value}(hv:R v v')(h:bp R l l'):bp R (v::l) (v'::l'):=by
 refine⟨by simp[h.1],fun i u u' hu uI=>?_⟩
 cases i with
 |zero=>simp at hu uI;subst hu;subst uI;exact hv
 |succ i=>simp at hu uI;exact h.2 i u u' hu uI
theorem bp.lV {l:List Value}(h:bp R [] l):l=[]:=by
 have:=h.1;simp at this;exact List.eq_nil_of_length_eq_zero this.symm
theorem bp.eJ {v:PV}{l:List PV}{r:List Value}(h:bp R (v::l) r):∃v' l',r=v'::l'∧R v v'∧bp R l l':=by
 cases r with
 |nil=>have:=h.1;simp at this
 |cons v' l'=>exact⟨v',l',rfl,h.2 0 v v' (by simp) (by simp),by have:=h.1;simpa using this,fun i x x' hx xx=>h.2 (i+1) x x' (by simpa using hx) (by simpa using xx)⟩
theorem bp.get {l:List PV}{l':List Value}(h:bp R l l'){i:Nat}{v:PV}(hv:l[i]?=some v):∃v',l'[i]?=some v'∧R v v':=by
 have a8:i<l.length:=by
  rcases Nat.lt_or_ge i l.length with h|h
  ·exact h
  rw[List.getElem?_eq_none h] at hv;cases hv
 have:i<l'.length:=h.1▸a8
 exact⟨l'[i],by simp[this],h.2 i v _ hv (by simp[this])⟩
theorem bp.append {l r:List PV}{l' r':List Value}(h:bp R l l')(h2:bp R r r'):bp R (l++r) (l'++r'):=by
 refine⟨by simp[h.1,h2.1],fun i v v' hv bg=>?_⟩
 by_cases hi:i<l.length
 ·rw[List.getElem?_append_left hi] at hv
  rw[List.getElem?_append_left (by have:=h.1;omega)] at bg
  exact h.2 i v v' hv bg
 rw[List.getElem?_append_right (by omega)] at hv
 rw[List.getElem?_append_right (by have:=h.1;omega),← h.1] at bg
 exact h2.2 _ v v' hv bg
theorem bp.take {l:List PV}{l':List Value}(n:Nat)(h:bp R l l'):bp R (l.take n) (l'.take n):=by
 refine⟨by simp[h.1],fun i v v' hv bg=>?_⟩
 rw[List.getElem?_take] at hv bg
 split at hv
 ·rename_i a8;simp only[a8,if_true] at bg;exact h.2 i v v' hv bg
 simp at hv
theorem bp.drop {l:List PV}{l':List Value}(n:Nat)(h:bp R l l'):bp R (l.drop n) (l'.drop n):=by
 refine⟨by simp[h.1],fun i v v' hv bg=>?_⟩
 rw[List.getElem?_drop] at hv bg
 exact h.2 _ v v' hv bg
def gR (cs:List PV)(off:Nat)(vs:List PV):List PV:=cs.take off++vs++cs.drop (off+vs.length)
theorem bp.ia {l r:List PV}{l' r':List Value}(off:Nat)(h:bp R l l')(h2:bp R r r'):bp R (gR l off r) (ia l' off r'):=by
 unfold gR Go.Am.ia
 rw[h2.1]
 exact((h.take off).append h2).append (h.drop _)
theorem bp.aD {g:Fz}{σ:Sg}{n:Nat}{l:List PV}{l':List Value}(h:bp (VR g σ n) l l')(hf:PV.az l=true):bp (FR g) l l':=⟨h.1,fun i v v' hv bg=>(h.2 i v v' hv bg).aD (PV.Hl hf hv)⟩
theorem bp.vr {g:Fz}{σ:Sg}{n:Nat}{l:List PV}{l':List Value}(h:bp (FR g) l l'):bp (VR g σ n) l l':=h.mono fun _ _ h=>.fr _ _ h
end
theorem FR.cells {g:Fz}{v:PV}{v':Value}(h:FR g v v'):bp (FR g) v.cells v'.cells.toList:=by
 cases h with
 |agg cs au hs r=>exact⟨by simpa[PV.cells,Value.cells] using hs,fun i v v' hv bg=>r i v v' hv (by simpa[Value.cells] using bg)⟩
 |bool=>exact .cons (.bool _) .nil
 |int=>exact .cons (.int _ _) .nil
 |str=>exact .cons (.str _) .nil
 |nilFunc=>exact .cons .nilFunc .nil
 |nilIface=>exact .cons .nilIface .nil
 |gD=>exact .cons .gD .nil
 |aJ=>exact .cons .aJ .nil
 |eE=>exact .cons .eE .nil
 |xI=>exact .cons .xI .nil
 |e0 o off=>exact .cons (.e0 o off) .nil
 |func f xs ys bu eI hx hy rx ry=>exact .cons (.func f xs ys bu eI hx hy rx ry) .nil
 |bz cs au hs r=>exact .cons (.bz cs au hs r) .nil
 |iface t v v' h=>exact .cons (.iface t v v' h) .nil
 |ie=>exact .cons .ie .nil
 |et o off k=>exact .cons (.et o off k) .nil
 |vec es o off k s sz au hk eY hg h0 dU hlen r=>exact .cons (.vec es o off k s sz au hk eY hg h0 dU hlen r) .nil
 |vp cs o off s au hg hlen r=>exact .cons (.vp cs o off s au hg hlen r) .nil
 |aG es o bs hg hlen rk rv=>exact .cons (.aG es o bs hg hlen rk rv) .nil
theorem VR.cells {g:Fz}{σ:Sg}{n:Nat}{v:PV}{v':Value}(h:VR g σ n v v'):bp (VR g σ n) v.cells v'.cells.toList:=by
 cases h with
 |fr _ _ h=>exact h.cells.vr
 |agg cs au hs r=>exact⟨by simpa[PV.cells,Value.cells] using hs,fun i v v' hv bg=>r i v v' hv (by simpa[Value.cells] using bg)⟩
 |ptr i off o a k hi h=>exact .cons (.ptr i off o a k hi h) .nil
 |own i off len k o a kk hi h hl hk=>exact .cons (.own i off len k o a kk hi h hl hk) .nil
 |sub i off len k o a kk hi h hl hk=>exact .cons (.sub i off len k o a kk hi h hl hk) .nil
 |cB i nl=>exact .cons (.cB i nl) .nil
 |cC i o off=>exact .cons (.cC i o off) .nil
 |grow i m o a k nl hi h hn=>exact .cons (.grow i m o a k nl hi h hn) .nil
 |a6 i o a k hi h=>exact .cons (.a6 i o a k hi h) .nil
 |cm i o a k hi h=>exact .cons (.cm i o a k hi h) .nil
 |bz cs au hs r=>exact .cons (.bz cs au hs r) .nil
 |func f xs ys bu eI hx hy rx ry=>exact .cons (.func f xs ys bu eI hx hy rx ry) .nil
def PV.one:PV→Bool
 |.agg _=>false
 |.bz _=>false
 |_=>true
theorem FR.one {g:Fz}{v:PV}{v':Value}(h:FR g v v'):v'.oneCell'=v.one:=by cases h<;>rfl
theorem VR.one {g:Fz}{σ:Sg}{n:Nat}{v:PV}{v':Value}(h:VR g σ n v v'):v'.oneCell'=v.one:=by
 cases h with
 |fr _ _ h=>exact h.one
 |_=>rfl
theorem bp.yR {g:Fz}{σ:Sg}{n:Nat}{l:List PV}{l':List Value}(h:bp (VR g σ n) l l')(ho:l.all PV.one=true):l'.all (·.oneCell')=true:=by
 rw[List.all_eq_true] at ho ⊢
 intro v' bg
 obtain⟨i,hi⟩:=List.getElem?_of_mem bg
 have a8:i<l'.length:=by
  rcases Nat.lt_or_ge i l'.length with h|h
  ·exact h
  rw[List.getElem?_eq_none h] at hi;cases hi
 have hl:i<l.length:=h.1▸a8
 rw[(h.2 i l[i] v' (by simp[hl]) hi).one]
 exact ho _ (List.getElem_mem hl)
inductive aO where
  |box (cs:List PV)
  |arr (ag:Bool) (sz:Nat) (cs:List PV)
  |grow (sz:Nat) (es:List PV)
  |map (es:List (PV×PV))
  |eP (es:List (PV×PV))
  |b9 (es:List PV)
  |emap (es:List (PV×PV)) (k:Value) (born:Nat)
  |loop (N:Nat) (ps:Array Tmp) (assign body:Code) (ah:List (Nat×PV)) (jump:Option Code)
  deriving Inhabited
structure af where
  next:Nat
  br:List (Nat×aO)
def bq (i:Nat):List (Nat×aO)→Option aO
 |[]=>none
 |(j,x)::r=>bif Nat.beq i j then some x else bq i r
def af.get (vh:af)(i:Nat):Option aO:=bq i vh.br
def af.alloc (vh:af)(x:aO):af:=⟨vh.next+1,(vh.next,x)::vh.br⟩
def cg (i:Nat)(x:aO):List (Nat×aO)→List (Nat×aO)
 |[]=>[]
 |(j,y)::r=>bif Nat.beq i j then (j,x)::cg i x r else (j,y)::cg i x r
def af.put (vh:af)(i:Nat)(x:aO):af:=⟨vh.next,cg i x vh.br⟩
def gd (i:Nat):List (Nat×aO)→List (Nat×aO)
 |[]=>[]
 |(j,y)::r=>bif Nat.beq i j then gd i r else (j,y)::gd i r
def af.drop (vh:af)(i:Nat):af:=⟨vh.next,gd i vh.br⟩
def af.empty:af:=⟨0,[]⟩
theorem beq_eq (i j:Nat):Nat.beq i j=decide (i=j):=by rw[Bool.eq_iff_iff];simp
theorem U9 (i j:Nat)(x:aO):∀l,bq j (cg i x l)=if j=i then (bq i l).map (fun _=>x) else bq j l
 |[]=>by simp[cg,bq]
 |(k,y)::r=>by
  have ih:=U9 i j x r
  simp only[cg,beq_eq]
  by_cases BU:i=k
  ·subst BU
   simp only[decide_true,aQ,bq,beq_eq,ih]
   by_cases kx:j=i<;>simp[kx]
  simp only[BU,decide_false,bx,bq,beq_eq,ih]
  by_cases xJ:j=k
  ·subst xJ
   have:¬j=i:=fun h=>BU h.symm
   simp[this]
  by_cases kx:j=i
  ·subst kx;simp[xJ]
  simp[xJ,kx]
theorem PA (i j:Nat):∀l,bq j (gd i l)=if j=i then none else bq j l
 |[]=>by simp[gd,bq]
 |(k,y)::r=>by
  have ih:=PA i j r
  simp only[gd,beq_eq]
  by_cases BU:i=k
  ·subst BU
   simp only[decide_true,aQ,bq,beq_eq,ih]
   by_cases kx:j=i<;>simp[kx]
  simp only[BU,decide_false,bx,bq,beq_eq,ih]
  by_cases xJ:j=k
  ·subst xJ
   have:¬j=i:=fun h=>BU h.symm
   simp[this]
  simp[xJ]
theorem af.lf (vh:af)(x:aO)(j:Nat):(vh.alloc x).get j=if j=vh.next then some x else vh.get j:=by
 simp only[af.get,af.alloc,bq,beq_eq]
 by_cases h:j=vh.next<;>simp[h]
theorem af.eT (vh:af)(i j:Nat)(x y:aO)(hy:vh.get i=some y):(vh.put i x).get j=if j=i then some x else vh.get j:=by
 have hy:bq i vh.br=some y:=hy
 simp only[af.get,af.put,U9,hy,Option.map_some]
theorem af.PB (vh:af)(i j:Nat):(vh.drop i).get j=if j=i then none else vh.get j:=by
 simp only[af.get,af.drop,PA]
def aO.live:aO→Bool
 |.grow _ []=>false
 |_=>true
abbrev bf:=List (Nat×PV)
def bC (t:Nat):bf→Option PV
 |[]=>none
 |(u,v)::r=>bif Nat.beq t u then some v else bC t r
def VT (g:Fz)(σ:Sg)(n:Nat)(ah:bf)(ts:aL):Prop:=∀t v,bC t ah=some v→VR g σ n v (ts.getD t Go.undef)
def vH (g:Fz)(σ:Sg)(n:Nat)(h:ai)(i:Nat):aO→Prop
 |.box cs=>∃s au,h.get (σ i).1=some (.cells s au)∧(σ i).2.1=0∧bp (VR g σ n) cs au
 |.arr _ sz cs=>0<sz∧∃s au,h.get (σ i).1=some (.cells s au)∧(σ i).2.1=0∧bp (FR g) cs au
 | .grow sz es => 0 < sz ∧ (∀ e ∈ es, e.cells.length = sz) ∧ es.length < aC ∧ (es = [] ∨ ∃ s au, h.get (σ i).1 = some (.cells s au) ∧ (σ i).2.1 = 0 ∧ bp (FR g) (es.flatMap PV.cells) au ∧
  ((σ i).2.2=aC∧s=sz∨(σ i).2.2=es.length))
 |.map es=>∃bs,h.get (σ i).1=some (.map bs)∧(σ i).2.1=0∧bp (FR g) (es.map (·.1)) (bs.map (·.1))∧bp (FR g) (es.map (·.2)) (bs.map (·.2))
 |.eP es=>∃bs,h.get (σ i).1=some (.map bs)∧(σ i).2.1=0∧bp (FR g) (es.map (·.1)) (bs.map (·.1))∧bp (VR g σ n) (es.map (·.2)) (bs.map (·.2))
 |.b9 es=>es≠[]∧(∀e∈es,e.cells=[e])∧es.length<aC∧∃s au,h.get (σ i).1=some (.cells s au)∧(σ i).2.1=0∧bp (VR g σ n) es au∧((σ i).2.2=aC∧s=1∨(σ i).2.2=es.length)
 |.emap es k born=>∃bs,h.get (σ i).1=some (.emap bs k born)∧(σ i).2.1=0∧bp (FR g) (es.map (·.1)) (bs.map (·.1))∧bp (FR g) (es.map (·.2)) (bs.map (·.2))
 |.loop N ps a bd ah jump=>∃L,h.get (σ i).1=some (.loop L jump)∧L.params=ps∧L.assign=a∧L.body=bd∧L.ts.length=N∧VT g σ n ah L.ts
structure VS (lo:Nat) (g:Fz) (σ:Sg) (vh:af) (h:ai):Prop where
  obj:∀i x,vh.get i=some x→i<vh.next∧vH g σ vh.next h i x
  inj:∀i j x y,vh.get i=some x→vh.get j=some y→x.live=true→y.live=true→(σ i).1=(σ j).1→i=j
  low:∀i x,vh.get i=some x→x.live=true→lo≤(σ i).1
  fz:∀o x,g o=some x→h.get o=some x
  l6:∀i x,vh.get i=some x→x.live=true→g (σ i).1=none
  bX:lo≤h.next
theorem VT.mono {g g':Fz}{σ aU:Sg}{n n':Nat}(hle:g.le g')(hn:n≤n')(cW:∀i,i<n→aU i=σ i){ah:bf}{ts:aL}(h:VT g σ n ah ts):VT g' aU n' ah ts:=fun t v hv=>(h t v hv).mono hle hn cW
structure VF (σ:Sg) (vh:af) (h:ai) (aU:Sg) (aq:af) (h':ai):Prop where
  next:h.next≤h'.next
  iN:∀o,o<h.next→(∀i x,vh.get i=some x→x.live=true→(σ i).1≠o)→h'.get o=h.get o
  own:∀i x,aq.get i=some x→x.live=true→(aU i).1<h.next→∃j y,vh.get j=some y∧y.live=true∧(σ j).1=(aU i).1
theorem VF.refl (σ:Sg)(vh:af)(h:ai):VF σ vh h σ vh h:=⟨Nat.le_refl _,fun _ _ _=>rfl,fun i x hx hl _=>⟨i,x,hx,hl,rfl⟩⟩
theorem VF.trans {σ s6 eG:Sg}{vh cI aZ:af}{h h1 h2:ai}(a:VF σ vh h s6 cI h1)(b:VF s6 cI h1 eG aZ h2):VF σ vh h eG aZ h2 where
  next:=Nat.le_trans a.next b.next
  iN o ho hn:=by
    rw[b.iN o (Nat.lt_of_lt_of_le ho a.next) (fun i x hx hl he=>?_),a.iN o ho hn]
    obtain⟨j,y,hj,EY,vB⟩:=a.own i x hx hl (he▸ho)
    exact hn j y hj EY (vB.trans he)
  own i x hx hl a8:=by
    obtain⟨j,y,hj,EY,vB⟩:=b.own i x hx hl (Nat.lt_of_lt_of_le a8 a.next)
    obtain⟨k,z,hk,PD,qx⟩:=a.own j y hj EY (vB▸a8)
    exact⟨k,z,hk,PD,qx.trans vB⟩
def j7:Value→Option PV
 |.bool b=>some (.bool b)
 |.int k n=>some (.int k n)
 |.string s=>some (.str s)
 |.nilFunc=>some .nilFunc
 |.nilIface=>some .nilIface
 |.pointer none=>some .gD
 |.slice none 0 0=>some .aJ
 |.map none=>some .eE
 |_=>none
def dw:List Value→Option (List PV)
 |[]=>some []
 |v::r=>match j7 v,dw r with
  |some p,some l=>some (p::l)
  |_,_=>none
def a7:Value→Option PV
 |.agg cs=>(dw cs.toList).map .agg
 |.tuple cs=>(dw cs.toList).map .bz
 |v=>j7 v
theorem Va {g:Fz}{v:Value}{p:PV}(h:j7 v=some p):FR g p v∧xy v=true:=by
 unfold j7 at h
 split at h<;>first|cases h;done|(injection h with h;subst h;first|exact⟨.bool _,rfl⟩|exact⟨.int _ _,rfl⟩|exact⟨.str _,rfl⟩|exact⟨.nilFunc,rfl⟩|exact⟨.nilIface,rfl⟩|exact⟨.gD,rfl⟩|exact⟨.aJ,rfl⟩|exact⟨.eE,rfl⟩)
theorem MH {g:Fz}:∀ {l:List Value} {ps:List PV},dw l=some ps→bp (FR g) ps l∧l.all xy=true
 |[],ps,h=>by simp only[dw,aB] at h;subst h;exact⟨.nil,rfl⟩
 |v::r,ps,h=>by
  simp only[dw] at h
  split at h
  ·rename_i p l h1 h2
   injection h with h;subst h
   have ih:=MH (g:=g) h2
   have h3:=Va (g:=g) h1
   exact⟨.cons h3.1 ih.1,by simp[h3.2,ih.2]⟩
  cases h
theorem BX {g:Fz}{v:Value}{p:PV}(h:a7 v=some p):FR g p v∧ot v=true:=by
 unfold a7 at h
 split at h
 ·obtain⟨l,h1,rfl⟩:=er h
  have:=MH (g:=g) h1
  exact⟨.agg _ _ (by simpa using this.1.1) (fun i v v' hv bg=>this.1.2 i v v' hv (by simpa using bg)),this.2⟩
 ·obtain⟨l,h1,rfl⟩:=er h
  have:=MH (g:=g) h1
  exact⟨.bz _ _ (by simpa using this.1.1) (fun i v v' hv bg=>this.1.2 i v v' hv (by simpa using bg)),this.2⟩
 rename_i hx hy
 have:=Va (g:=g) h
 refine⟨this.1,?_⟩
 unfold ot
 split
 ·exact absurd rfl (hx _)
 ·exact absurd rfl (hy _)
 exact this.2
def ct (ah:bf):Operand→Option PV
 |.tmp t=>bC t ah
 |.const v=>a7 v
 |.func f=>some (.func f [] [])
 |.global _=>none
section
variable {P:Program} {lo:Nat} {g:Fz} {σ:Sg} {vh:af} {h:ai} {ah:bf} {ts:aL}
theorem fX {n:Nat}(ht:VT g σ n ah ts){x:Operand}{v:PV}(hv:ct ah x=some v):∃v',dF ts x=some v'∧VR g σ n v v':=by
 cases x with
 |tmp t=>exact⟨_,rfl,ht t v hv⟩
 |const u=>
  have:=BX (g:=g) hv
  exact⟨u,by simp[dF,this.2],.fr _ _ this.1⟩
 |func f=>
  simp only[ct,aB] at hv;subst hv
  exact⟨_,rfl,.fr _ _ (.func f [] [] #[] #[] rfl rfl (fun i v v' h=>by simp at h) (fun i v v' h=>by simp at h))⟩
 |global=>simp[ct] at hv
def gf (ah:bf):List Operand→Option (List PV)
 |[]=>some []
 |x::r=>match ct ah x,gf ah r with
  |some v,some l=>some (v::l)
  |_,_=>none
theorem BY {n:Nat}(ht:VT g σ n ah ts):∀ {xs:List Operand} {l:List PV},gf ah xs=some l→∃l',rC ts xs=some l'∧bp (VR g σ n) l l'
 |[],l,h=>by simp only[gf,aB] at h;subst h;exact⟨[],rfl,.nil⟩
 |x::r,l,h=>by
  simp only[gf] at h
  split at h
  ·rename_i v l1 h1 h2
   injection h with h;subst h
   obtain⟨v',k1,k2⟩:=fX ht h1
   obtain⟨l',k3,k4⟩:=BY ht h2
   exact⟨v'::l',by simp[rC,k1,k3],.cons k2 k4⟩
  cases h
def jB (ah:bf):List (Nat×Operand)→Option (List (Nat×PV))
 |[]=>some []
 |(i,x)::r=>match ct ah x,jB ah r with
  |some v,some l=>some ((i,v)::l)
  |_,_=>none
def MJ (R:PV→Value→Prop)(l:List (Nat×PV))(l':List (Nat×Value)):Prop:=l.map (·.1)=l'.map (·.1)∧bp R (l.map (·.2)) (l'.map (·.2))
theorem MK {n:Nat}(ht:VT g σ n ah ts):∀ {xs:List (Nat×Operand)} {l:List (Nat×PV)},jB ah xs=some l→∃l',xE ts xs=some l'∧MJ (VR g σ n) l l'
 |[],l,h=>by simp only[jB,aB] at h;subst h;exact⟨[],rfl,rfl,.nil⟩
 |(i,x)::r,l,h=>by
  simp only[jB] at h
  split at h
  ·rename_i v l1 h1 h2
   injection h with h;subst h
   obtain⟨v',k1,k2⟩:=fX ht h1
   obtain⟨l',k3,k4,k5⟩:=MK ht h2
   exact⟨(i,v')::l',by simp[xE,k1,k3],by simp[k4],.cons k2 k5⟩
  cases h
def dy:PV→Option Value
 |.bool b=>some (.bool b)
 |.int k n=>some (.int k n)
 |.str s=>some (.string s)
 |.nilFunc=>some .nilFunc
 |.nilIface=>some .nilIface
 |.gD=>some (.pointer none)
 |.aJ=>some (.slice none 0 0)
 |.eE=>some (.map none)
 |_=>none
def dx:List PV→Option (List Value)
 |[]=>some []
 |v::r=>match dy v,dx r with
  |some p,some l=>some (p::l)
  |_,_=>none
def jC:PV→Option Value
 |.agg cs=>(dx cs).map fun l=>.agg l.toArray
 |v=>dy v
theorem Vb {v:PV}{v' x:Value}(hv:FR g v v')(h:dy v=some x):v'=x:=by
 unfold dy at h
 split at h<;>first|cases h;done|(injection h with h;subst h;cases hv;rfl)
theorem Vc:∀ {l:List PV} {l' xs:List Value},bp (FR g) l l'→dx l=some xs→l'=xs
 |[],l',xs,hl,h=>by simp only[dx,aB] at h;subst h;exact hl.lV
 |v::r,l',xs,hl,h=>by
  simp only[dx] at h
  split at h
  ·rename_i p l h1 h2
   injection h with h;subst h
   obtain⟨v',r',rfl,k1,k2⟩:=hl.eJ
   rw[Vb k1 h1,Vc k2 h2]
  cases h
theorem Vd {v:PV}{x:Value}(h:dy v=some x):v.aD=true:=by
 unfold dy at h
 split at h<;>first|cases h;done|simp[PV.aD]
theorem Ve:∀ {l:List PV} {xs:List Value},dx l=some xs→PV.az l=true
 |[],_,_=>rfl
 |v::r,xs,h=>by
  simp only[dx] at h
  split at h
  ·rename_i h1 h2
   simp[PV.az,Vd h1,Ve h2]
  cases h
theorem I8 {n:Nat}{v:PV}{v' x:Value}(hv:VR g σ n v v')(h:jC v=some x):v'=x:=by
 unfold jC at h
 split at h
 ·obtain⟨l,h1,rfl⟩:=er h
  have hf:=hv.aD (by rw[PV.Pz];exact Ve h1)
  cases hf with
  |agg cs au hs r=>
   have:=Vc (g:=g) (l':=au.toList) ⟨by simpa using hs,fun i v v' hv bg=>r i v v' hv (by simpa using bg)⟩ h1
   rw[← this]
 exact Vb (hv.aD (Vd h)) h
def lP (lo:Nat)(g:Fz)(σ:Sg)(vh:af)(h:ai)(v:PV)(aq:af)(v':Value)(h':ai):Prop:=
 ∃aU,VR g aU aq.next v v'∧VS lo g aU aq h'∧VF σ vh h aU aq h'∧vh.next≤aq.next∧∀i,i<vh.next→aU i=σ i
theorem lP.same {v:PV}{v':Value}(s:VS lo g σ vh h)(hv:VR g σ vh.next v v'):lP lo g σ vh h v vh v' h:=
 ⟨σ,hv,s,VF.refl _ _ _,Nat.le_refl _,fun _ _=>rfl⟩
def ls:PV→Option Bool
 |.vp _=>some false
 |.ptr _ _=>some false
 |_=>none
def lu:PV→Option Bool
 |.vec (_::_)=>some false
 |.own _ _ _ _=>some false
 |.sub _ _ _=>some false
 |.grow _ n true=>some (Nat.beq n 0)
 |.grow _ (_+1) false=>some false
 |_=>none
def jL (P:Program)(t:TypeId)(a b:PV):Option Bool:=
 match b,P.underlying t with
 |.gD,some (.pointer _)=>ls a
 |.aJ,some (.slice _)=>lu a
 |_,_=>none
def dW (P:Program)(op:BinOp)(t:TypeId)(a b:PV):Option PV:=
 match jC a,jC b with
 |some x,some y=>(iL P op t x y).bind a7
 |_,_=>match op with
  |.eql=>(jL P t a b).map .bool
  |.neq=>(jL P t a b).map fun r=>.bool !r
  |_=>none
theorem Vf {n:Nat}{t:TypeId}{a b:PV}{a' b':Value}{r:Bool}(ha:VR g σ n a a')(hb:VR g σ n b b')(hq:jL P t a b=some r):eB P t a' b'=some r:=by
 unfold jL at hq
 split at hq
 ·rename_i hu
  have:=hb.aD rfl;cases this
  unfold ls at hq
  split at hq
  ·injection hq with hq;subst hq
   have:=ha.aD rfl;cases this;simp[eB,hu]
  ·injection hq with hq;subst hq
   cases ha with
   |fr _ _ h=>cases h
   |ptr=>simp[eB,hu]
  cases hq
 ·rename_i hu
  have:=hb.aD rfl;cases this
  unfold lu at hq
  split at hq
  ·injection hq with hq;subst hq
   have:=ha.aD rfl;cases this;simp[eB,hu]
  ·injection hq with hq;subst hq
   cases ha with
   |fr _ _ h=>cases h
   |own=>simp[eB,hu]
  ·injection hq with hq;subst hq
   cases ha with
   |fr _ _ h=>cases h
   |sub=>simp[eB,hu]
  ·injection hq with hq;subst hq
   cases ha with
   |fr _ _ h=>cases h
   |cB=>simp[eB,hu]
   |grow i m o a k nl hi h hn=>
    simp only[eB,hu,beq_eq]
    simp
    omega
  ·injection hq with hq;subst hq
   cases ha with
   |fr _ _ h=>cases h
   |grow i m o a k nl hi h hn=>simp[eB,hu]
  cases hq
 cases hq
theorem PE {t:TypeId}{a b:Value}{r:Bool}(h:eB P t a b=some r)(h1:∀k x k' y,¬(a=.int k x∧b=.int k' y))(h2:∀x y,¬(a=.string x∧b=.string y)) :
  iL P .eql t a b=some (.bool r)∧iL P .neq t a b=some (.bool !r):=by
 constructor
 ·unfold iL
  split<;>first|(simp_all;done)|(simp[eB] at h;done)
 unfold iL
 split<;>first|(simp_all;done)|(simp[eB] at h;done)
theorem ML {n:Nat}{t:TypeId}{a b:PV}{b':Value}{r:Bool}(hb:VR g σ n b b')(hq:jL P t a b=some r):b'=.pointer none∨b'=.slice none 0 0:=by
 unfold jL at hq
 split at hq
 ·have:=hb.aD rfl;cases this;exact .inl rfl
 ·have:=hb.aD rfl;cases this;exact .inr rfl
 cases hq
theorem xcg {n:Nat}{op:BinOp}{t:TypeId}{a b v:PV}{a' b':Value}(ha:VR g σ n a a')(hb:VR g σ n b b')(hv:dW P op t a b=some v):∃v',iL P op t a' b'=some v'∧FR g v v':=by
 unfold dW at hv
 split at hv
 ·rename_i x y h1 h2
  rw[I8 ha h1,I8 hb h2]
  cases h3:iL P op t x y with
  |none=>rw[h3] at hv;cases hv
  |some u=>rw[h3] at hv;exact⟨u,rfl,(BX hv).1⟩
 split at hv
 ·obtain⟨r,h1,rfl⟩:=er hv
  have:=Vf ha hb h1
  refine⟨_,(PE this ?_ ?_).1,.bool _⟩
  ·rintro k x k' y ⟨_,rfl⟩;rcases ML hb h1 with h|h<;>cases h
  rintro x y ⟨_,rfl⟩;rcases ML hb h1 with h|h<;>cases h
 ·obtain⟨r,h1,rfl⟩:=er hv
  have:=Vf ha hb h1
  refine⟨_,(PE this ?_ ?_).2,.bool _⟩
  ·rintro k x k' y ⟨_,rfl⟩;rcases ML hb h1 with h|h<;>cases h
  rintro x y ⟨_,rfl⟩;rcases ML hb h1 with h|h<;>cases h
 cases hv
def j8 (P:Program)(t:TypeId)(cs:List PV)(off n:Nat):Option PV:=
 match bK P t with
 |some true=>bif Nat.ble (off+n) cs.length then some (.agg ((cs.drop off).take n)) else none
 |some false=>cs[off]?
 |none=>none
theorem Hm {n:Nat}{cs:List PV}{au:List Value}(h:bp (VR g σ n) cs au):VR g σ n (.agg cs) (.agg au.toArray):=
 .agg _ _ (by simpa using h.1) fun i v v' hv bg=>h.2 i v v' hv (by simpa using bg)
theorem Vg {n m:Nat}{t:TypeId}{cs:List PV}{au:List Value}{off:Nat}{v:PV}(h:bp (VR g σ n) cs au)(hv:j8 P t cs off m=some v):∃v',apart P t au off m=some v'∧VR g σ n v v':=by
 unfold j8 at hv
 unfold apart
 split at hv
 ·rename_i hg
  cases hb:Nat.ble (off+m) cs.length with
  |false=>rw[hb] at hv;cases hv
  |true=>
   rw[hb] at hv;simp only[aQ,aB] at hv;subst hv
   rw[h.1] at hb
   exact⟨_,by simp[hg,hb],Hm ((h.drop off).take m)⟩
 ·rename_i hg
  obtain⟨v',h1,h2⟩:=h.get hv
  exact⟨v',by simp[hg,h1],h2⟩
 cases hv
theorem PF {n:Nat}{cs:List PV}{v':Value}(h:VR g σ n (.agg cs) v'):∃au:Array Value,v'=.agg au∧bp (VR g σ n) cs au.toList:=by
 cases h with
 |fr _ _ h=>cases h with
  |agg _ au hs r=>exact⟨au,rfl,by simpa using hs,fun i v v' hv bg=>.fr _ _ (r i v v' hv (by simpa using bg))⟩
 |agg _ au hs r=>exact⟨au,rfl,by simpa using hs,fun i v v' hv bg=>r i v v' hv (by simpa using bg)⟩
theorem PG {n:Nat}{cs:List PV}{v':Value}(h:VR g σ n (.bz cs) v'):∃au:Array Value,v'=.tuple au∧bp (VR g σ n) cs au.toList:=by
 cases h with
 |fr _ _ h=>cases h with
  |bz _ au hs r=>exact⟨au,rfl,by simpa using hs,fun i v v' hv bg=>.fr _ _ (r i v v' hv (by simpa using bg))⟩
 |bz _ au hs r=>exact⟨au,rfl,by simpa using hs,fun i v v' hv bg=>r i v v' hv (by simpa using bg)⟩
def kC (P:Program)(t:TypeId)(x:PV)(f:Nat):Option PV:=
 match x,eo P t f with
 |.agg cs,some (ty,off,n)=>j8 P ty cs off n
 |_,_=>none
theorem z3m {n:Nat}{t:TypeId}{x v:PV}{x':Value}{f:Nat}(hx:VR g σ n x x')(hv:kC P t x f=some v):∃v',Iu P t x' f=some v'∧VR g σ n v v':=by
 unfold kC at hv
 split at hv
 ·rename_i hf
  obtain⟨au,rfl,hc⟩:=PF hx
  obtain⟨v',h1,h2⟩:=Vg hc hv
  exact⟨v',by simp[Iu,hf,h1],h2⟩
 cases hv
def dd (n:Int)(len:Nat):Option Nat:=if 0≤n∧n<len then some n.toNat else none
theorem Hn (n:Int)(len:Nat):within n len=dd n len:=by
 unfold within dd
 cases n with
 |ofNat k=>
  simp only[Int.ofNat_eq_natCast]
  by_cases h:k<len
  ·have:Nat.blt k len=true:=by rw[Nat.blt_eq];exact h
   simp[this,h]
  have:Nat.blt k len=false:=by rw[← Bool.not_eq_true,Nat.blt_eq];exact h
  simp[this,h]
 |negSucc k=>simp
def kD (P:Program)(t:TypeId)(x i:PV):Option PV:=
 match x,i with
 |.agg cs,.int _ n=>
  match lg P t with
  |some (len,e,sz)=>match dd n len with
   |some k=>j8 P e cs (k*sz) sz
   |none=>none
  |none=>none
 |.str s,.int k n=>(EE P t (.string s) (.int k n)).bind a7
 |_,_=>none
theorem z3d {n:Nat}{t:TypeId}{x i v:PV}{x' i':Value}(hx:VR g σ n x x')(hi:VR g σ n i i')(hv:kD P t x i=some v):∃v',EE P t x' i'=some v'∧VR g σ n v v':=by
 unfold kD at hv
 split at hv
 ·rename_i k m
  have:=hi.aD rfl;cases this
  obtain⟨au,rfl,hc⟩:=PF hx
  split at hv
  ·rename_i ha
   split at hv
   ·rename_i hw
    obtain⟨v',h1,h2⟩:=Vg hc hv
    exact⟨v',by simp[EE,ha,Hn,hw,h1],h2⟩
   cases hv
  cases hv
 ·have:=hi.aD rfl;cases this
  have:=hx.aD rfl;cases this
  rename_i s k m
  cases h3:EE P t (.string s) (.int k m) with
  |none=>rw[h3] at hv;cases hv
  |some u=>rw[h3] at hv;exact⟨u,rfl,.fr _ _ (BX hv).1⟩
 cases hv
def kE (x:PV)(i:Nat):Option PV:=
 match x with
 |.bz vs=>vs[i]?
 |_=>none
theorem zvm {n:Nat}{x v:PV}{x':Value}{i:Nat}(hx:VR g σ n x x')(hv:kE x i=some v):∃v',Iv x' i=some v'∧VR g σ n v v':=by
 unfold kE at hv
 split at hv
 ·obtain⟨au,rfl,hc⟩:=PG hx
  obtain⟨v',h1,h2⟩:=hc.get hv
  exact⟨v',by simpa[Iv] using h1,h2⟩
 cases hv
def kF (P:Program)(s:TypeId)(p:PV)(f:Nat):Option PV:=
 match p,eo P s f with
 |.ptr i off,some (_,fo,n)=>bif Nat.beq n 0 then none else some (.ptr i (off+fo))
 |.vp cs,some (_,fo,n)=>bif Nat.beq n 0||!Nat.ble fo cs.length then none else some (.vp (cs.drop fo))
 |_,_=>none
theorem PH {cs:List PV}{o off s:Nat}{au:List Value}(hg:g o=some (.cells s au))(hlen:off+cs.length≤au.length)(r:∀(j:Nat) v v',cs[j]?=some v→au[off+j]?=some v'→FR g v v'){k:Nat}(hk:k≤cs.length) :
  FR g (.vp (cs.drop k)) (.pointer (some ⟨o,off+k,none⟩)):=
 .vp _ o (off+k) s au hg (by simp;omega) fun j v v' hv bg=>r (k+j) v v' (by rw[List.getElem?_drop] at hv;exact hv) (by rw[show off+(k+j)=off+k+j by omega];exact bg)
theorem zrd {n:Nat}{t:TypeId}{p v:PV}{p':Value}{f:Nat}(hp:VR g σ n p p')(hv:kF P t p f=some v):∃v',G2 P t p' f=some v'∧VR g σ n v v':=by
 unfold kF at hv
 split at hv
 ·rename_i i off ty fo m hf
  cases hb:Nat.beq m 0 with
  |true=>rw[hb] at hv;cases hv
  |false=>
   rw[hb] at hv;simp only[bx,aB] at hv;subst hv
   cases hp with
   |fr _ _ h=>cases h
   |ptr _ _ o a k hi hs=>
    exact⟨_,by simp only[G2,hf,hb,bx];rfl,by have:=VR.ptr (g:=g) i (off+fo) o a k hi hs;rwa [show a+(off+fo)=a+off+fo by omega] at this⟩
 ·rename_i cs ty fo m hf
  cases hb:Nat.beq m 0 with
  |true=>rw[hb] at hv;cases hv
  |false=>
   cases hc:Nat.ble fo cs.length with
   |false=>rw[hb,hc] at hv;cases hv
   |true=>
    rw[hb,hc] at hv;simp only[Bool.not_true,Bool.or_false,bx,aB] at hv;subst hv
    have:=hp.aD rfl
    cases this with
    |vp _ o off s au hg hlen r=>
     exact⟨_,by simp only[G2,hf,hb,bx],.fr _ _ (PH hg hlen r (by simpa using hc))⟩
 cases hv
def kG (P:Program)(t:TypeId)(x i:PV):Option PV:=
 match x,i with
 |.vec es,.int _ n=>
  match jh P t,dd n es.length with
  |some (_,sz),some k=>match es[k]? with
   |some e=>bif Nat.beq e.cells.length sz then some (.vp e.cells) else none
   |none=>none
  |_,_=>none
 |.own i off len _,.int _ n=>
  match jh P t,dd n len with
  |some (_,sz),some k=>some (.ptr i (off+k*sz))
  |_,_=>none
 |.sub i off len,.int _ n=>
  match jh P t,dd n len with
  |some (_,sz),some k=>some (.ptr i (off+k*sz))
  |_,_=>none
 |.ptr i off,.int _ n=>
  match lg P t with
  |some (len,_,sz)=>match dd n len with
   |some k=>some (.ptr i (off+k*sz))
   |none=>none
  |none=>none
 |.grow i m _,.int _ n=>
  match jh P t,dd n m with
  |some (_,sz),some k=>some (.ptr i (k*sz))
  |_,_=>none
 |_,_=>none
theorem zvv {es:List PV}{o off k s sz:Nat}{au:List Value}(hg:g o=some (.cells s au))(dU:∀(i:Nat) e,es[i]?=some e→e.cells.length=sz)(hlen:off+es.length*sz≤au.length)
  (r:∀(i:Nat) e (j:Nat) v v',es[i]?=some e→e.cells[j]?=some v→au[off+i*sz+j]?=some v'→FR g v v') {e:PV} (he:es[k]?=some e):FR g (.vp e.cells) (.pointer (some ⟨o,off+k*sz,none⟩)):=by
 have hk:k<es.length:=by
  rcases Nat.lt_or_ge k es.length with h|h
  ·exact h
  rw[List.getElem?_eq_none h] at he;cases he
 refine .vp _ o _ s au hg ?_ (fun j v v' hv bg=>r k e j v v' he hv bg)
 rw[dU k e he]
 have h1:k*sz+sz≤es.length*sz:=by rw[← Nat.succ_mul];exact Nat.mul_le_mul_right _ hk
 omega
theorem zri {n:Nat}{t:TypeId}{x i v:PV}{x' i':Value}(hx:VR g σ n x x')(hi:VR g σ n i i')(hv:kG P t x i=some v):∃v',Bx P t x' i'=some v'∧VR g σ n v v':=by
 unfold kG at hv
 split at hv
 ·rename_i es k m
  have:=hi.aD rfl;cases this
  split at hv
  ·rename_i ty sz q ht hw
   split at hv
   ·rename_i e he
    cases hb:Nat.beq e.cells.length sz with
    |false=>rw[hb] at hv;cases hv
    |true=>
     rw[hb] at hv;simp only[aQ,aB] at hv;subst hv
     have hb:e.cells.length=sz:=by simpa using hb
     have:=hx.aD rfl
     cases this with
     |ie=>simp at he
     |et=>simp at he
     |vec _ o off k0 s MM au hk eY hg h0 dU hlen r=>
      have:MM=sz:=by rw[← dU q e he,hb]
      subst this
      exact⟨_,by simp only[Bx,ht,Hn,hw],.fr _ _ (zvv hg dU hlen r he)⟩
   cases hv
  cases hv
 ·rename_i i0 off len k0 k m
  have:=hi.aD rfl;cases this
  split at hv
  ·rename_i ty sz q ht hw
   injection hv with hv;subst hv
   cases hx with
   |fr _ _ h=>cases h
   |own _ _ _ _ o a kk hi hs hl hk=>
    exact⟨.pointer (some ⟨o,a+off+q*sz,none⟩),by simp only[Bx,ht,Hn,hw],by have:=VR.ptr (g:=g) i0 (off+q*sz) o a kk hi hs;rwa [show a+(off+q*sz)=a+off+q*sz by omega] at this⟩
  cases hv
 ·rename_i i0 off len k m
  have:=hi.aD rfl;cases this
  split at hv
  ·rename_i ty sz q ht hw
   injection hv with hv;subst hv
   cases hx with
   |fr _ _ h=>cases h
   |sub _ _ _ _ o a kk hi hs hl hk=>
    exact⟨.pointer (some ⟨o,a+off+q*sz,none⟩),by simp only[Bx,ht,Hn,hw],by have:=VR.ptr (g:=g) i0 (off+q*sz) o a kk hi hs;rwa [show a+(off+q*sz)=a+off+q*sz by omega] at this⟩
  cases hv
 ·rename_i i0 off k m
  have:=hi.aD rfl;cases this
  split at hv
  ·rename_i len ty sz ht
   split at hv
   ·rename_i q hw
    injection hv with hv;subst hv
    cases hx with
    |fr _ _ h=>cases h
    |ptr _ _ o a kk hi hs=>
     exact⟨.pointer (some ⟨o,a+off+q*sz,none⟩),by simp only[Bx,ht,Hn,hw],by have:=VR.ptr (g:=g) i0 (off+q*sz) o a kk hi hs;rwa [show a+(off+q*sz)=a+off+q*sz by omega] at this⟩
   cases hv
  cases hv
 ·rename_i i0 m nl k q0
  have:=hi.aD rfl;cases this
  split at hv
  ·rename_i ty sz q ht hw
   injection hv with hv;subst hv
   have hq:q<m:=by
    unfold dd at hw
    split at hw
    ·rename_i h1;injection hw with hw;omega
    cases hw
   cases hx with
   |fr _ _ h=>cases h
   |cB=>omega
   |cC=>omega
   |grow _ _ o a kk _ hi hs hn=>
    exact⟨.pointer (some ⟨o,a+q*sz,none⟩),by simp only[Bx,ht,Hn,hw],.ptr i0 (q*sz) o a kk hi hs⟩
  cases hv
 cases hv
def jq (P:Program)(t:TypeId)(cs:List PV)(off:Nat):Option PV:=
 match bK P t with
 |some true=>match dH P t with
  |some n=>bif Nat.ble (off+n) cs.length then some (.agg ((cs.drop off).take n)) else none
  |none=>none
 |some false=>cs[off]?
 |none=>none
def ly (P:Program)(t:TypeId)(cs:List PV)(off:Nat):Option PV:=
 match dH P t with
 |some (_+1)=>jq P t cs off
 |_=>none
def j9 (P:Program)(vh:af)(t:TypeId)(p:PV):Option PV:=
 match p with
 |.vp cs=>jq P t cs 0
 |.ptr i off=>match vh.get i with
  |some (.box cs)=>jq P t cs off
  |some (.arr _ _ cs)=>jq P t cs off
  |some (.grow _ es)=>ly P t (es.flatMap PV.cells) off
  |_=>none
 |_=>none
theorem PI {n:Nat}{t:TypeId}{cs:List PV}{au:List Value}{off o s:Nat}{v:PV}(hg:h.get o=some (.cells s au))(hc:bp (VR g σ n) cs au)(hv:jq P t cs off=some v):∃v',wa P h t (.pointer (some ⟨o,off,none⟩))=some v'∧VR g σ n v v':=by
 unfold jq at hv
 simp only[wa,hg]
 split at hv
 ·rename_i ha
  split at hv
  ·rename_i m hm
   cases hb:Nat.ble (off+m) cs.length with
   |false=>rw[hb] at hv;cases hv
   |true=>
    rw[hb] at hv;simp only[aQ,aB] at hv;subst hv
    rw[hc.1] at hb
    exact⟨_,by simp only[ha,hm,hb,aQ],Hm ((hc.drop off).take m)⟩
  cases hv
 ·rename_i ha
  obtain⟨v',h1,h2⟩:=hc.get hv
  exact⟨v',by simp[ha,h1],h2⟩
 cases hv
theorem Vh {t:TypeId}{p v:PV}{p':Value}(s:VS lo g σ vh h)(hp:VR g σ vh.next p p')(hv:j9 P vh t p=some v):∃v',wa P h t p'=some v'∧VR g σ vh.next v v':=by
 unfold j9 at hv
 split at hv
 ·rename_i cs
  have:=hp.aD rfl
  cases this with
  |vp _ o off s0 au hg hlen r=>
   have hgh:=s.fz _ _ hg
   have hc:bp (VR g σ vh.next) cs ((au.drop off).take cs.length):=⟨by simp;omega,fun i v v' hv bg=>.fr _ _ (r i v v' hv (by
    rw[List.getElem?_take] at bg
    split at bg
    ·rwa [List.getElem?_drop] at bg
    cases bg))⟩
   unfold jq at hv
   simp only[wa,hgh]
   split at hv
   ·rename_i ha
    split at hv
    ·rename_i m hm
     cases hb:Nat.ble (0+m) cs.length with
     |false=>rw[hb] at hv;cases hv
     |true=>
      rw[hb] at hv;simp only[aQ,aB] at hv;subst hv
      have hb:m≤cs.length:=by simpa using hb
      have cr:Nat.ble (off+m) au.length=true:=by rw[Nat.ble_eq];omega
      refine⟨.agg ((au.drop off).take m).toArray,by simp only[ha,hm,cr,aQ],Hm ?_⟩
      have h2:=hc.take m
      rw[List.take_take,show min m cs.length=m by omega] at h2
      simpa using h2
    cases hv
   ·rename_i ha
    obtain⟨v',h1,h2⟩:=hc.get hv
    refine⟨v',?_,h2⟩
    rw[List.getElem?_take] at h1
    split at h1
    ·simpa[ha,List.getElem?_drop] using h1
    cases h1
   cases hv
 ·rename_i i off
  cases hp with
  |fr _ _ h=>cases h
  |ptr _ _ o a k hi hs=>
   split at hv
   ·rename_i cs hg
    obtain⟨s0,au,h1,h2,h3⟩:=(s.obj i _ hg).2
    rw[hs] at h1 h2
    simp only at h1 h2;subst h2
    rw[Nat.zero_add]
    exact PI h1 h3 hv
   ·rename_i ag sz cs hg
    obtain⟨_,s0,au,h1,h2,h3⟩:=(s.obj i _ hg).2
    rw[hs] at h1 h2
    simp only at h1 h2;subst h2
    rw[Nat.zero_add]
    exact PI h1 h3.vr hv
   ·rename_i sz es hg
    obtain⟨_,_,_,h0⟩:=(s.obj i _ hg).2
    unfold ly at hv
    split at hv
    ·rename_i n hn
     rcases h0 with rfl|⟨s0,au,h1,h2,h3,_⟩
     ·unfold jq at hv
      rw[hn] at hv
      split at hv
      ·simp only[List.flatMap_nil,List.length_nil] at hv
       rw[show Nat.ble (off+(n+1)) 0=false by rfl,bx] at hv
       cases hv
      ·simp at hv
      cases hv
     rw[hs] at h1 h2
     simp only at h1 h2;subst h2
     rw[Nat.zero_add]
     exact PI h1 h3.vr hv
    cases hv
   cases hv
 cases hv
def di (v:PV)(y:Nat):Option Nat:=
 match v with
 |.int _ i=>if 0≤i∧i≤y then some i.toNat else none
 |_=>none
theorem MN {n:Nat}{v:PV}{v':Value}{y k:Nat}(h:VR g σ n v v')(hb:di v y=some k):nE v' y=some k:=by
 unfold di at hb
 split at hb
 ·have:=h.aD rfl;cases this
  rename_i kd i
  unfold nE
  cases i with
  |ofNat j=>
   by_cases hj:j≤y
   ·have:Nat.ble j y=true:=by simpa using hj
    simp[hj] at hb;subst hb;simp[this]
   simp[hj] at hb
  |negSucc j=>
   have:¬(0≤Int.negSucc j∧Int.negSucc j≤y):=by omega
   simp[this] at hb
 cases hb
theorem MO {v:PV}{y k:Nat}(hb:di v y=some k):k≤y:=by
 unfold di at hb
 split at hb
 ·rename_i kd i
  by_cases h:0≤i∧i≤y
  ·simp only[h,and_self,if_true,aB] at hb;omega
  rw[if_neg h] at hb;cases hb
 cases hb
theorem Vi {v:Value}{y y' k:Nat}(hb:nE v y=some k)(hy:y≤y'):nE v y'=some k:=by
 unfold nE at hb ⊢
 split at hb
 ·rename_i i
  cases h:Nat.ble i y with
  |false=>rw[h] at hb;cases hb
  |true=>
   rw[h] at hb
   have h1:i≤y:=by simpa using h
   have:Nat.ble i y'=true:=by rw[Nat.ble_eq];omega
   simp only[this,aQ] at hb ⊢;exact hb
 cases hb
def vO (ah:bf):Option Operand→Option (Option PV)
 |none=>some none
 |some x=>(ct ah x).map some
def l8 (g:Fz)(σ:Sg)(n:Nat):Option PV→Option Value→Prop
 |none,none=>True
 |some v,some v'=>VR g σ n v v'
 |_,_=>False
theorem DH {n:Nat}(ht:VT g σ n ah ts){x:Option Operand}{v:Option PV}(hv:vO ah x=some v):∃v',xF ts x=some v'∧l8 g σ n v v':=by
 cases x with
 |none=>simp only[vO,aB] at hv;subst hv;exact⟨none,rfl,trivial⟩
 |some x=>
  obtain⟨u,h1,rfl⟩:=er hv
  obtain⟨v',h2,h3⟩:=fX ht h1
  exact⟨some v',by simp[xF,h2],h3⟩
def jM (len known:Nat)(lo hi:Option PV):Option (Nat×Nat):=
 match (match hi with|some v=>di v known|none=>some len) with
 |none=>none
 |some u=>match (match lo with|some v=>di v u|none=>some 0) with
  |none=>none
  |some l=>some (l,u)
theorem yS {n:Nat}{len known gg l u:Nat}{lo hi:Option PV}{gK dB:Option Value}(hk:known≤gg)(cY:l8 g σ n lo gK)(jZ:l8 g σ n hi dB)(hb:jM len known lo hi=some (l,u)) :
  uC len gg gK dB none=some (l,u,none)∧l≤u∧(len≤known→u≤known):=by
 unfold jM at hb
 split at hb
 ·cases hb
 rename_i u0 hu
 split at hb
 ·cases hb
 rename_i l0 hl
 simp only[aB,bO] at hb
 obtain⟨rfl,rfl⟩:=hb
 have e1:bH len gg dB none=some u0∧(len≤known→u0≤known):=by
  cases hi with
  |none=>cases dB with
   |none=>simp only[aB] at hu;subst hu;exact⟨rfl,fun h=>h⟩
   |some=>exact jZ.elim
  |some v=>cases dB with
   |none=>exact jZ.elim
   |some v'=>exact⟨Vi (MN jZ hu) hk,fun _=>MO hu⟩
 have e2:bL u0 gK=some l0∧l0≤u0:=by
  cases lo with
  |none=>cases gK with
   |none=>simp only[aB] at hl;subst hl;exact⟨rfl,Nat.zero_le _⟩
   |some=>exact cY.elim
  |some v=>cases gK with
   |none=>exact cY.elim
   |some v'=>exact⟨MN cY hl,MO hl⟩
 simp only[uC,bM]
 rw[e1.1]
 simp only
 rw[e2.1]
 exact⟨rfl,e2.2,e1.2⟩
def nU (n:Nat)(es:List PV):Bool:=es.all fun e=>Nat.beq e.cells.length n
def kH (P:Program)(t:TypeId)(x:PV)(lo hi:Option PV):Option PV:=
 match jh P t with
 |none=>none
 |some (_,sz)=>match x with
  |.aJ=>(jM 0 0 lo hi).map fun _=>.aJ
  |.vec es=>bif nU sz es then (jM es.length es.length lo hi).map fun p=>.vec ((es.drop p.1).take (p.2 - p.1)) else none
  |.own i off len k=>(jM len k lo hi).map fun p=>.own i (bif Nat.beq k p.1 then off else off+p.1*sz) (p.2 - p.1) (k - p.1)
  |.sub i off len=>(jM len len lo hi).map fun p=>bif Nat.beq p.2 p.1 then .vec [] else .sub i (off+p.1*sz) (p.2 - p.1)
  |_=>none
theorem zsc {es:List PV}{o off k s sz:Nat}{au:List Value}(hk:es.length≤k)(eY:k+es.length<eU)(hg:g o=some (.cells s au))(h0:0<sz)(dU:∀(i:Nat) e,es[i]?=some e→e.cells.length=sz)(hlen:off+es.length*sz≤au.length)
  (r:∀(i:Nat) e (j:Nat) v v',es[i]?=some e→e.cells[j]?=some v→au[off+i*sz+j]?=some v'→FR g v v') {l u k':Nat} (hl:l≤u) (hu:u≤es.length) (my:u - l≤k') (yau:k'+(u - l)<eU) :
  FR g (.vec ((es.drop l).take (u - l))) (.slice (some ⟨o,off+l*sz,none⟩) (u - l) k'):=by
 have hle:((es.drop l).take (u - l)).length=u - l:=by simp;omega
 have:=FR.vec (g:=g) ((es.drop l).take (u - l)) o (off+l*sz) k' s sz au (by omega) (by omega) hg h0 (fun i e he=>?_) ?_ (fun i e j v v' he hv bg=>?_)
 ·rwa [hle] at this
 ·rw[List.getElem?_take] at he
  split at he
  ·rw[List.getElem?_drop] at he;exact dU _ e he
  cases he
 ·rw[hle]
  have:l*sz+(u - l)*sz≤es.length*sz:=by rw[← Nat.add_mul];exact Nat.mul_le_mul_right _ (by omega)
  omega
 rw[List.getElem?_take] at he
 split at he
 ·rw[List.getElem?_drop] at he
  refine r (l+i) e j v v' he hv ?_
  rw[Nat.add_mul,show off+(l*sz+i*sz)+j=off+l*sz+i*sz+j by omega];exact bg
 cases he
theorem z3s {n:Nat}{t:TypeId}{x v:PV}{x':Value}{lo hi:Option PV}{gK dB:Option Value}(hx:VR g σ n x x')(cY:l8 g σ n lo gK)(jZ:l8 g σ n hi dB)(hv:kH P t x lo hi=some v) :
  ∃v',nS P t x' gK dB none=some v'∧VR g σ n v v':=by
 unfold kH at hv
 split at hv
 ·cases hv
 rename_i ty sz ht
 split at hv
 ·obtain⟨⟨l,u⟩,h1,rfl⟩:=er hv
  have:=hx.aD rfl;cases this
  obtain⟨h2,_⟩:=yS (Nat.le_refl _) cY jZ h1
  exact⟨_,by simp only[nS,ht,h2],.fr _ _ .aJ⟩
 ·rename_i es
  cases bk:nU sz es with
  |false=>rw[bk] at hv;cases hv
  |true=>
  rw[bk,aQ] at hv
  obtain⟨⟨l,u⟩,h1,rfl⟩:=er hv
  simp only
  have:=hx.aD rfl
  cases this with
  |ie=>
   obtain⟨h2,h3,h4⟩:=yS (Nat.le_refl _) cY jZ h1
   exact⟨.slice none 0 0,by simp only[nS,ht];simp only[List.length_nil] at h2;simp only[h2],by simp only[List.drop_nil,List.take_nil];exact .fr _ _ .ie⟩
  |et o off k=>
   have h4:=(yS (gg:=0) (Nat.le_refl _) cY jZ h1).2.2 (Nat.le_refl _)
   have h3:=(yS (gg:=0) (Nat.le_refl _) cY jZ h1).2.1
   have hu:u=0:=by simpa using h4
   have hl:l=0:=by omega
   subst hu;subst hl
   simp only[List.drop_nil,List.take_nil]
   by_cases qc:k<aC
   ·have e1:Nat.blt k aC=true:=by rw[Nat.blt_eq];exact qc
    have h2:=(yS (gg:=k) (by simp) cY jZ h1).1
    simp only[List.length_nil] at h2
    refine⟨_,by simp only[nS,ht,e1,aQ,h2];rfl,?_⟩
    cases hbk:Nat.beq k 0<;>exact .fr _ _ (.et _ _ _)
   have e1:Nat.blt k aC=false:=by rw[← Bool.not_eq_true,Nat.blt_eq];exact qc
   have h2:=(yS (gg:=0) (Nat.le_refl _) cY jZ h1).1
   simp only[List.length_nil] at h2
   by_cases eY:k<eU
   ·have e2:Nat.blt k eU=true:=by rw[Nat.blt_eq];exact eY
    exact⟨.slice (some ⟨o,off,none⟩) 0 k,by simp only[nS,ht,e1,e2,aQ,bx,h2,Nat.beq_refl],.fr _ _ (.et _ _ _)⟩
   have e2:Nat.blt k eU=false:=by rw[← Bool.not_eq_true,Nat.blt_eq];exact eY
   exact⟨.slice (some ⟨o,off,none⟩) 0 eU,by simp only[nS,ht,e1,e2,bx,h2],.fr _ _ (.et _ _ _)⟩
  |vec _ o off k s MM au hk eY hg h0 dU hlen r=>
   obtain⟨h2,h3,h4⟩:=yS (gg:=es.length) (Nat.le_refl _) cY jZ h1
   have h4:=h4 (Nat.le_refl _)
   have Fj:u - l=0→((es.drop l).take (u - l))=[]:=fun h=>by rw[h,List.take_zero]
   have fO:0<u - l→MM=sz:=fun a8=>by
    have hl:0<es.length:=by omega
    have h5:=dU 0 es[0] (by simp[hl])
    unfold nU at bk
    rw[List.all_eq_true] at bk
    have h6:=bk es[0] (List.getElem_mem hl)
    rw[beq_eq,decide_eq_true_eq] at h6
    omega
   have fin:∀k',0<u - l→u - l≤k'→k'+(u - l)<eU→VR g σ n (.vec ((es.drop l).take (u - l))) (.slice (some ⟨o,off+l*sz,none⟩) (u - l) k'):=fun k' a8 h5 h6=>by
    have Fk:=fO a8;subst Fk
    exact .fr _ _ (zsc hk eY hg h0 dU hlen r h3 h4 h5 h6)
   by_cases qc:k<aC
   ·have e1:Nat.blt k aC=true:=by rw[Nat.blt_eq];exact qc
    have h2:=(yS (gg:=k) hk cY jZ h1).1
    refine⟨_,by simp only[nS,ht,e1,aQ,h2];rfl,?_⟩
    simp only[Option.getD_none]
    rcases ng k l with⟨hq,cG⟩|⟨hq,cG⟩
    ·have hz:u - l=0:=by omega
     rw[hq,Fj hz,hz];exact .fr _ _ (.et _ _ _)
    rw[hq,bx]
    by_cases hz:u - l=0
    ·rw[Fj hz,hz];exact .fr _ _ (.et _ _ _)
    exact fin _ (by omega) (by omega) (by omega)
   have e1:Nat.blt k aC=false:=by rw[← Bool.not_eq_true,Nat.blt_eq];exact qc
   have e2:Nat.blt k eU=true:=by rw[Nat.blt_eq];omega
   have e3:Nat.blt (k+l) eU=true:=by rw[Nat.blt_eq];omega
   rcases ng l 0 with⟨hq,cG⟩|⟨hq,cG⟩
   ·subst cG
    refine⟨.slice (some ⟨o,off,none⟩) u k,by simp only[nS,ht,e1,e2,aQ,bx,h2,Nat.beq_refl],?_⟩
    by_cases hz:u=0
    ·subst hz;simp only[Nat.sub_self,List.take_zero];exact .fr _ _ (.et _ _ _)
    have:=fin k (by omega) (by omega) (by omega)
    simpa using this
   rcases ng u l with⟨hr,ru⟩|⟨hr,ru⟩
   ·refine⟨.slice (some ⟨o,off,none⟩) 0 eU,by simp only[nS,ht,e1,e2,aQ,bx,h2,hq,hr],?_⟩
    have hz:u - l=0:=by omega
    rw[Fj hz];exact .fr _ _ (.et _ _ _)
   exact⟨.slice (some ⟨o,off+l*sz,none⟩) (u - l) (k+l),by simp only[nS,ht,e1,e2,e3,aQ,bx,h2,hq,hr],fin _ (by omega) (by omega) (by omega)⟩
 ·rename_i i off len k
  obtain⟨⟨l,u⟩,h1,rfl⟩:=er hv
  simp only
  cases hx with
  |fr _ _ h=>cases h
  |own _ _ _ _ o a kk hi hs hl hk=>
   obtain⟨h2,h3,h4⟩:=yS (gg:=k) (Nat.le_refl _) cY jZ h1
   have h4:=h4 hl
   have e1:Nat.blt k aC=true:=by rw[Nat.blt_eq];exact hk
   refine⟨_,by simp only[nS,ht,e1,aQ,h2];rfl,?_⟩
   simp only[Option.getD_none]
   rcases ng k l with⟨hq,cG⟩|⟨hq,cG⟩
   ·rw[hq];exact .own i off (u - l) (k - l) o a kk hi hs (by omega) (by omega)
   rw[hq]
   have:=VR.own (g:=g) i (off+l*sz) (u - l) (k - l) o a kk hi hs (by omega) (by omega)
   simpa[show a+(off+l*sz)=a+off+l*sz by omega] using this
 ·rename_i i off len
  obtain⟨⟨l,u⟩,h1,rfl⟩:=er hv
  simp only
  cases hx with
  |fr _ _ h=>cases h
  |sub _ _ _ k o a kk hi hs hl hk=>
   rcases Nat.lt_or_ge k aC with qc|qc
   ·obtain⟨h2,h3,h4⟩:=yS (gg:=k) hl cY jZ h1
    have h4:=h4 (Nat.le_refl _)
    have e1:Nat.blt k aC=true:=by rw[Nat.blt_eq];exact qc
    refine⟨_,by simp only[nS,ht,e1,aQ,h2];rfl,?_⟩
    simp only[Option.getD_none]
    rcases ng u l with⟨hq,cG⟩|⟨hq,cG⟩
    ·rw[hq]
     have hz:u - l=0:=by omega
     rw[hz];exact .fr _ _ (.et _ _ _)
    rw[hq]
    rcases ng k l with⟨hr,ru⟩|⟨hr,ru⟩
    ·omega
    rw[hr]
    have:=VR.sub (g:=g) i (off+l*sz) (u - l) (k - l) o a kk hi hs (by omega) (by omega)
    simpa[show a+(off+l*sz)=a+off+l*sz by omega] using this
   obtain⟨h2,h3,h4⟩:=yS (gg:=len) (Nat.le_refl _) cY jZ h1
   have h4:=h4 (Nat.le_refl _)
   have e1:Nat.blt k aC=false:=by rw[Bool.eq_false_iff];intro h;rw[Nat.blt_eq] at h;omega
   have e2:Nat.blt k eU=true:=by rw[Nat.blt_eq];omega
   rcases ng l 0 with⟨hq,cG⟩|⟨hq,cG⟩
   ·refine⟨.slice (some ⟨o,a+off,none⟩) u k,by simp only[nS,ht,e1,e2,aQ,bx,h2,hq],?_⟩
    subst cG
    rcases ng u 0 with⟨hr,ru⟩|⟨hr,ru⟩
    ·rw[hr];subst ru;exact .fr _ _ (.et _ _ _)
    rw[hr]
    have:=VR.sub (g:=g) i (off+0*sz) (u - 0) k o a kk hi hs (by omega) (by omega)
    simpa using this
   rcases ng u l with⟨hr,ru⟩|⟨hr,ru⟩
   ·exact⟨.slice (some ⟨o,a+off,none⟩) 0 eU,by simp only[nS,ht,e1,e2,aQ,bx,h2,hq,hr],by rw[hr];exact .fr _ _ (.et _ _ _)⟩
   have e3:Nat.blt (k+l) eU=true:=by rw[Nat.blt_eq];omega
   refine⟨.slice (some ⟨o,a+off+l*sz,none⟩) (u - l) (k+l),by simp only[nS,ht,e1,e2,e3,aQ,bx,h2,hq,hr],?_⟩
   rw[hr]
   have:=VR.sub (g:=g) i (off+l*sz) (u - l) (k+l) o a kk hi hs (by omega) (by omega)
   simpa[show a+(off+l*sz)=a+off+l*sz by omega] using this
 cases hv
def kI (P:Program)(t:TypeId)(x:PV):Option PV:=
 match jh P t with
 |none=>none
 |some _=>match x with
  |.aJ=>some .aJ
  |.e0=>some .e0
  |.vec _=>some .e0
  |.grow _ _ _=>some .e0
  |_=>none
def Fl (P:Program)(t:TypeId)(x:PV)(lo hi mx:Option PV):Option PV:=
 match x with
 |.sub i off len=>match lo,hi,mx with
  |none,some u,some m=>match jh P t,di m len with
   |some _,some b=>match di u b with
    |some a=>some (.own i off a b)
    |none=>none
   |_,_=>none
  |_,_,_=>none
 |_=>none
@[simp] theorem xbb (P:Program)(t:TypeId)(es:List PV)(lo hi mx:Option PV):Fl P t (.vec es) lo hi mx=none:=rfl
@[simp] theorem z9n (P:Program)(t:TypeId)(i n:Nat)(nl:Bool)(lo hi mx:Option PV):Fl P t (.grow i n nl) lo hi mx=none:=rfl
@[simp] theorem xcw (P:Program)(t:TypeId)(lo hi mx:Option PV):Fl P t .aJ lo hi mx=none:=rfl
@[simp] theorem xdx (P:Program)(t:TypeId)(lo hi mx:Option PV):Fl P t .e0 lo hi mx=none:=rfl
theorem zyv {n:Nat}{t:TypeId}{x v:PV}{x':Value}{lo hi mx:Option PV}{gK dB l3:Option Value}(hx:VR g σ n x x')(cY:l8 g σ n lo gK)(jZ:l8 g σ n hi dB)(lj:l8 g σ n mx l3)(hv:Fl P t x lo hi mx=some v) :
  ∃v',nS P t x' gK dB l3=some v'∧VR g σ n v v':=by
 unfold Fl at hv
 split at hv
 ·rename_i i off len
  split at hv
  ·rename_i u m
   split at hv
   ·rename_i ty b ht hb
    split at hv
    ·rename_i a ha
     injection hv with hv;subst hv
     cases gK with
     |some _=>exact cY.elim
     |none=>
     cases dB with
     |none=>exact jZ.elim
     |some u'=>
     cases l3 with
     |none=>exact lj.elim
     |some m'=>
     have h1:=MN (v:=m) lj hb
     have h2:=MN (v:=u) jZ ha
     have h3:=MO hb
     have h4:=MO ha
     cases hx with
     |fr _ _ h=>cases h
     |sub _ _ _ k o a0 kk hi hs hl hk=>
      obtain⟨ty,sz⟩:=ty
      have hlen:b<aC:=by
       rcases Nat.lt_or_ge k aC with h|h
       ·omega
       have:eU=aC+aC:=rfl
       omega
      have hr:VR g σ n (.own i off a b) (.slice (some ⟨o,a0+off,none⟩) a b):=.own i off a b o a0 kk hi hs h4 hlen
      have yT:(bif Nat.beq b 0 then a0+off else a0+off+0*sz)=a0+off:=by cases Nat.beq b 0<;>simp
      cases qc:Nat.blt k aC with
      |true=>
       have e:uC len k none (some u') (some m')=some (0,a,some b):=by simp only[uC,bM,Vi h1 hl,Option.map_some,bH,h2,bL]
       exact⟨_,by simp only[nS,ht,qc,aQ,e,Option.getD_some,yT,Nat.sub_zero],hr⟩
      |false=>
       have eY:Nat.blt k eU=true:=by rw[Nat.blt_eq];omega
       have e:uC len len none (some u') (some m')=some (0,a,some b):=by simp only[uC,bM,h1,Option.map_some,bH,h2,bL]
       have Ix:Nat.blt b aC=true:=by rw[Nat.blt_eq];exact hlen
       exact⟨_,by simp only[nS,ht,qc,eY,aQ,bx,e,Ix,yT,Nat.sub_zero],hr⟩
    cases hv
   cases hv
  cases hv
 cases hv
def ig (v:Option PV):Bool:=match v with
 |some (.int _ n)=>decide (n=0)
 |_=>false
theorem zsw {n len known:Nat}{lo hi mx:Option PV}{gK dB l3:Option Value}(cY:l8 g σ n lo gK)(jZ:l8 g σ n hi dB)(lj:l8 g σ n mx l3)(h1:lo=none∨ig lo=true)(h2:ig hi=true)(h3:ig mx=true) :
  uC len known gK dB l3=some (0,0,some 0):=by
 have val:∀ {v:Option PV} {v':Option Value},l8 g σ n v v'→ig v=true→∃k,v'=some (.int k 0):=fun {v v'} hr hz=>by
  unfold ig at hz
  split at hz
  ·rename_i k m
   simp only[decide_eq_true_eq] at hz;subst hz
   cases v' with
   |none=>exact hr.elim
   |some v'=>have:=VR.aD hr rfl;cases this;exact⟨k,rfl⟩
  cases hz
 obtain⟨k1,rfl⟩:=val jZ h2
 obtain⟨k2,rfl⟩:=val lj h3
 have e:∀y,Nat.ble 0 y=true:=fun y=>by rw[Nat.ble_eq];exact Nat.zero_le _
 have hb:∀(k:IntKind) y,nE (.int k 0) y=some 0:=fun k y=>by
  show (bif Nat.ble 0 y then some 0 else none)=some 0
  rw[e];rfl
 have I9:bL 0 gK=some 0:=by
  rcases h1 with rfl|h1
  ·cases gK with
   |none=>rfl
   |some=>exact cY.elim
  obtain⟨k3,rfl⟩:=val cY h1
  exact hb k3 0
 simp only[uC,bM,hb,Option.map_some,bH,I9]
theorem zyo {n:Nat}{t:TypeId}{x v:PV}{x':Value}{lo hi mx:Option PV}{gK dB l3:Option Value}(hx:VR g σ n x x')(cY:l8 g σ n lo gK)(jZ:l8 g σ n hi dB)(lj:l8 g σ n mx l3)
  (h1:lo=none∨ig lo=true) (h2:ig hi=true) (h3:ig mx=true) (hv:kI P t x=some v):∃v',nS P t x' gK dB l3=some v'∧VR g σ n v v':=by
 have hb:∀len known,uC len known gK dB l3=some (0,0,some 0):=fun len known=>zsw cY jZ lj h1 h2 h3
 have any:∀o off len k,∀ty,jh P t=some ty→∃o' qq,nS P t (.slice (some ⟨o,off,none⟩) len k) gK dB l3=some (.slice (some ⟨o',qq,none⟩) 0 0):=fun o off len k ty ht=>by
  obtain⟨ty,sz⟩:=ty
  simp only[nS,ht,hb]
  cases Nat.blt k aC with
  |true=>exact⟨_,_,rfl⟩
  |false=>
   cases Nat.blt k eU with
   |true=>exact⟨_,_,rfl⟩
   |false=>exact⟨_,_,rfl⟩
 have BZ:∀ty,jh P t=some ty→nS P t (.slice none 0 0) gK dB l3=some (.slice none 0 0):=fun ty ht=>by simp only[nS,ht,hb]
 unfold kI at hv
 split at hv
 ·cases hv
 rename_i ty ht
 split at hv
 ·injection hv with hv;subst hv
  have:=hx.aD rfl;cases this
  exact⟨_,BZ _ ht,.fr _ _ .aJ⟩
 ·injection hv with hv;subst hv
  have:=hx.aD rfl
  cases this with
  |xI=>exact⟨_,BZ _ ht,.fr _ _ .xI⟩
  |e0 o off=>
   obtain⟨o',qq,h⟩:=any o off 0 0 _ ht
   exact⟨_,h,.fr _ _ (.e0 _ _)⟩
 ·injection hv with hv;subst hv
  have:=hx.aD rfl
  cases this with
  |ie=>exact⟨_,BZ _ ht,.fr _ _ .xI⟩
  |et o off k=>
   obtain⟨o',qq,h⟩:=any o off 0 k _ ht
   exact⟨_,h,.fr _ _ (.e0 _ _)⟩
  |vec es o off k=>
   obtain⟨o',qq,h⟩:=any o off _ k _ ht
   exact⟨_,h,.fr _ _ (.e0 _ _)⟩
 ·injection hv with hv;subst hv
  cases hx with
  |fr _ _ h=>cases h
  |cB=>exact⟨_,BZ _ ht,.fr _ _ .xI⟩
  |cC i o off=>
   obtain⟨o',qq,h⟩:=any o off 0 0 _ ht
   exact⟨_,h,.fr _ _ (.e0 _ _)⟩
  |grow i m o a k=>
   obtain⟨o',qq,h⟩:=any o a _ k _ ht
   exact⟨_,h,.fr _ _ (.e0 _ _)⟩
 cases hv
def dX (P:Program)(vh:af)(t:TypeId)(x:PV):Option PV:=
 match P.underlying t,x with
 |some .string,.str s=>some (.int .i64 s.size)
 |some (.slice _),.aJ=>some (.int .i64 0)
 |some (.slice _),.e0=>some (.int .i64 0)
 |some (.slice _),.vec es=>some (.int .i64 es.length)
 |some (.slice _),.own _ _ n _=>some (.int .i64 n)
 |some (.slice _),.sub _ _ n=>some (.int .i64 n)
 |some (.slice _),.grow _ n _=>some (.int .i64 n)
 |some (.array n _),_=>some (.int .i64 n)
 |some (.map _ _),.eE=>some (.int .i64 0)
 |some (.map _ _),.aG es=>some (.int .i64 es.length)
 |some (.map _ _),.a6 i=>match vh.get i with
  |some (.map es)=>some (.int .i64 es.length)
  |_=>none
 |_,_=>none
theorem xc8 {t:TypeId}{x v:PV}{x':Value}(s:VS lo g σ vh h)(hx:VR g σ vh.next x x')(hv:dX P vh t x=some v):∃v',p7 P h t x'=some v'∧FR g v v':=by
 unfold dX at hv
 split at hv
 ·rename_i hu;injection hv with hv;subst hv
  have:=hx.aD rfl;cases this
  exact⟨_,by simp[p7,hu,oR],.int _ _⟩
 ·rename_i hu;injection hv with hv;subst hv
  have:=hx.aD rfl;cases this
  exact⟨_,by simp[p7,hu,oR],.int _ _⟩
 ·rename_i hu;injection hv with hv;subst hv
  have:=hx.aD rfl;cases this<;>exact⟨_,by simp[p7,hu,oR],.int _ _⟩
 ·rename_i hu;injection hv with hv;subst hv
  have:=hx.aD rfl;cases this<;>exact⟨_,by first|(simp only[p7,hu,oR];done)|(simp only[p7,hu,oR];rfl),.int _ _⟩
 ·rename_i hu;injection hv with hv;subst hv
  cases hx with
  |fr _ _ h=>cases h
  |own=>exact⟨_,by simp[p7,hu,oR],.int _ _⟩
 ·rename_i hu;injection hv with hv;subst hv
  cases hx with
  |fr _ _ h=>cases h
  |sub=>exact⟨_,by simp only[p7,hu,oR],.int _ _⟩
 ·rename_i hu;injection hv with hv;subst hv
  cases hx with
  |fr _ _ h=>cases h
  |cB=>exact⟨_,by simp only[p7,hu,oR],.int _ _⟩
  |cC=>exact⟨_,by simp only[p7,hu,oR],.int _ _⟩
  |grow=>exact⟨_,by simp only[p7,hu,oR],.int _ _⟩
 ·rename_i hu;injection hv with hv;subst hv
  refine⟨_,by unfold p7;simp only[hu,oR],.int _ _⟩
 ·rename_i hu;injection hv with hv;subst hv
  have:=hx.aD rfl;cases this
  exact⟨_,by simp[p7,hu,oR],.int _ _⟩
 ·rename_i es hu;injection hv with hv;subst hv
  have:=hx.aD rfl
  cases this with
  |aG _ o bs hg hlen rk rv=>exact⟨.int .i64 bs.length,by simp only[p7,hu,s.fz _ _ hg,oR],by rw[hlen];exact .int _ _⟩
 ·rename_i i hu
  split at hv
  ·rename_i es hg
   injection hv with hv;subst hv
   cases hx with
   |fr _ _ h=>cases h
   |a6 _ o a k hi hs=>
    obtain⟨bs,h1,h2,h3,h4⟩:=(s.obj i _ hg).2
    rw[hs] at h1
    have hl:=h3.1
    simp only[List.length_map] at hl
    exact⟨.int .i64 bs.length,by simp only[p7,hu,h1,oR],by rw[hl];exact .int _ _⟩
  cases hv
 cases hv
end
def Sg.put (σ:Sg)(i:Nat)(x:Nat×Nat×Nat):Sg:=fun j=>if j=i then x else σ j
theorem Sg.cX (σ:Sg)(i:Nat)(x:Nat×Nat×Nat):σ.put i x i=x:=by simp[Sg.put]
theorem Sg.AO (σ:Sg){i j:Nat}(x:Nat×Nat×Nat)(h:j≠i):σ.put i x j=σ j:=by simp[Sg.put,h]
section
variable {P:Program} {lo:Nat} {g:Fz} {σ:Sg} {vh:af} {h:ai}
theorem bp.Fm {g g':Fz}{σ aU:Sg}{n n':Nat}(hle:g.le g')(hn:n≤n')(cW:∀i,i<n→aU i=σ i){l:List PV}{l':List Value}(hp:bp (VR g σ n) l l'):bp (VR g' aU n') l l':=hp.mono fun _ _ hv=>hv.mono hle hn cW
theorem vH.mono {g':Fz}{aU:Sg}{n n':Nat}{h':ai}{i:Nat}{x:aO}(hle:g.le g')(hn:n≤n')(cW:∀i,i<n→aU i=σ i)(hi:i<n)(hg:x.live=true→h'.get (σ i).1=h.get (σ i).1)(hx:vH g σ n h i x):vH g' aU n' h' i x:=by
 have hs:=cW i hi
 cases x with
 |box cs=>
  obtain⟨s,au,h1,h2,h3⟩:=hx
  exact⟨s,au,by rw[hs,hg rfl];exact h1,by rw[hs];exact h2,h3.Fm hle hn cW⟩
 |arr ag sz cs=>
  obtain⟨h0,s,au,h1,h2,h3⟩:=hx
  exact⟨h0,s,au,by rw[hs,hg rfl];exact h1,by rw[hs];exact h2,h3.mono fun _ _ h=>h.mono hle⟩
 |grow sz es=>
  obtain⟨h0,h1,h2,h3⟩:=hx
  cases es with
  |nil=>exact⟨h0,h1,h2,.inl rfl⟩
  |cons e r=>exact⟨h0,h1,h2,h3.imp_right fun⟨s,au,k1,k2,k3,k4⟩=>⟨s,au,by rw[hs,hg rfl];exact k1,by rw[hs];exact k2,k3.mono fun _ _ h=>h.mono hle,by rw[hs];exact k4⟩⟩
 |map es=>
  obtain⟨bs,h1,h2,h3,h4⟩:=hx
  exact⟨bs,by rw[hs,hg rfl];exact h1,by rw[hs];exact h2,h3.mono fun _ _ h=>h.mono hle,h4.mono fun _ _ h=>h.mono hle⟩
 |eP es=>
  obtain⟨bs,h1,h2,h3,h4⟩:=hx
  exact⟨bs,by rw[hs,hg rfl];exact h1,by rw[hs];exact h2,h3.mono fun _ _ h=>h.mono hle,h4.Fm hle hn cW⟩
 |b9 es=>
  obtain⟨h0,h1,h2,s,au,k1,k2,k3,k4⟩:=hx
  exact⟨h0,h1,h2,s,au,by rw[hs,hg rfl];exact k1,by rw[hs];exact k2,k3.Fm hle hn cW,by rw[hs];exact k4⟩
 |emap es k born=>
  obtain⟨bs,h1,h2,h3,h4⟩:=hx
  exact⟨bs,by rw[hs,hg rfl];exact h1,by rw[hs];exact h2,h3.mono fun _ _ h=>h.mono hle,h4.mono fun _ _ h=>h.mono hle⟩
 |loop N ps a bd ah jump=>
  obtain⟨L,h1,h2,h3,h4,h5,h6⟩:=hx
  exact⟨L,by rw[hs,hg rfl];exact h1,h2,h3,h4,h5,h6.mono hle hn cW⟩
theorem vH.lt {n:Nat}{i:Nat}{x:aO}(hl:x.live=true)(hx:vH g σ n h i x):(σ i).1<h.next:=by
 cases x with
 |box cs=>obtain⟨s,au,h1,_⟩:=hx;exact ai.iE h1
 |arr ag sz cs=>obtain⟨_,s,au,h1,_⟩:=hx;exact ai.iE h1
 |grow sz es=>
  obtain⟨_,_,_,h3⟩:=hx
  rcases h3 with rfl|⟨s,au,h1,_⟩
  ·cases hl
  exact ai.iE h1
 |map es=>obtain⟨bs,h1,_⟩:=hx;exact ai.iE h1
 |eP es=>obtain⟨bs,h1,_⟩:=hx;exact ai.iE h1
 |b9 es=>obtain⟨_,_,_,s,au,h1,_⟩:=hx;exact ai.iE h1
 |emap es=>obtain⟨bs,h1,_⟩:=hx;exact ai.iE h1
 |loop=>obtain⟨L,h1,_⟩:=hx;exact ai.iE h1
theorem VS.xb1 (s:VS lo g σ vh h){o:Nat}(ho:h.next≤o):g o=none:=by
 cases hg:g o with
 |none=>rfl
 |some x=>have:=ai.iE (s.fz o x hg);omega
theorem VS.alloc (s:VS lo g σ vh h){x:aO}(y:bn)(k:Nat)(hx:vH g (σ.put vh.next (h.next,0,k)) (vh.next+1) (h.alloc y) vh.next x) :
  VS lo g (σ.put vh.next (h.next,0,k)) (vh.alloc x) (h.alloc y)∧VF σ vh h (σ.put vh.next (h.next,0,k)) (vh.alloc x) (h.alloc y):=by
 have cW:∀i,i<vh.next→(σ.put vh.next (h.next,0,k)) i=σ i:=fun i hi=>Sg.AO _ _ (by omega)
 have hold:∀o,o<h.next→(h.alloc y).get o=h.get o:=fun o ho=>by rw[ai.lf,if_neg (by omega)]
 have split:∀i z,(vh.alloc x).get i=some z→(i=vh.next∧z=x)∨(i<vh.next∧vh.get i=some z):=fun i z hz=>by
  rw[af.lf] at hz
  by_cases hi:i=vh.next
  ·subst hi;simp at hz;exact .inl ⟨rfl,hz.symm⟩
  simp[hi] at hz;exact .inr ⟨(s.obj i z hz).1,hz⟩
 refine⟨⟨fun i z hz=>?_,fun i j z z' hz lY hl sc he=>?_,fun i z hz hl=>?_,fun o z hz=>?_,fun i z hz hl=>?_,?_⟩,⟨?_,fun o ho hn=>hold o ho,fun i z hz hl a8=>?_⟩⟩
 ·rcases split i z hz with⟨rfl,rfl⟩|⟨hi,hz⟩
  ·exact⟨by simp[af.alloc],hx⟩
  refine⟨by simp[af.alloc];omega,(s.obj i z hz).2.mono (Fz.le_refl g) (Nat.le_succ _) cW hi fun hl=>hold _ ((s.obj i z hz).2.lt hl)⟩
 ·rcases split i z hz with⟨rfl,rfl⟩|⟨hi,uG⟩<;>rcases split j z' lY with⟨rfl,rfl⟩|⟨hj,s7⟩
  ·rfl
  ·rw[Sg.cX,cW j hj] at he
   have:=(s.obj j z' s7).2.lt sc;simp only at he;omega
  ·rw[Sg.cX,cW i hi] at he
   have:=(s.obj i z uG).2.lt hl;simp only at he;omega
  rw[cW i hi,cW j hj] at he
  exact s.inj i j z z' uG s7 hl sc he
 ·rcases split i z hz with⟨rfl,rfl⟩|⟨hi,hz⟩
  ·rw[Sg.cX];exact s.bX
  rw[cW i hi];exact s.low i z hz hl
 ·have:=s.fz o z hz
  rw[hold o (ai.iE this)];exact this
 ·rcases split i z hz with⟨rfl,rfl⟩|⟨hi,hz⟩
  ·rw[Sg.cX];exact s.xb1 (Nat.le_refl _)
  rw[cW i hi];exact s.l6 i z hz hl
 ·have:=s.bX;simp;omega
 ·simp
 rcases split i z hz with⟨rfl,rfl⟩|⟨hi,hz⟩
 ·rw[Sg.cX] at a8;simp only at a8;omega
 rw[cW i hi];exact⟨i,z,hz,hl,rfl⟩
theorem VS.Vj (s:VS lo g σ vh h){x:aO}(p:Nat×Nat×Nat)(hx:vH g (σ.put vh.next p) (vh.next+1) h vh.next x)(hp:x.live=true→lo≤p.1∧g p.1=none∧∀i y,vh.get i=some y→y.live=true→(σ i).1≠p.1)
  : VS lo g (σ.put vh.next p) (vh.alloc x) h:=by
 have cW:∀i,i<vh.next→(σ.put vh.next p) i=σ i:=fun i hi=>Sg.AO _ _ (by omega)
 have split:∀i z,(vh.alloc x).get i=some z→(i=vh.next∧z=x)∨(i<vh.next∧vh.get i=some z):=fun i z hz=>by
  rw[af.lf] at hz
  by_cases hi:i=vh.next
  ·subst hi;simp at hz;exact .inl ⟨rfl,hz.symm⟩
  simp[hi] at hz;exact .inr ⟨(s.obj i z hz).1,hz⟩
 refine⟨fun i z hz=>?_,fun i j z z' hz lY hl sc he=>?_,fun i z hz hl=>?_,s.fz,fun i z hz hl=>?_,s.bX⟩
 ·rcases split i z hz with⟨rfl,rfl⟩|⟨hi,hz⟩
  ·exact⟨by simp[af.alloc],hx⟩
  exact⟨by simp[af.alloc];omega,(s.obj i z hz).2.mono (Fz.le_refl g) (Nat.le_succ _) cW hi fun hl=>rfl⟩
 ·rcases split i z hz with⟨rfl,rfl⟩|⟨hi,uG⟩<;>rcases split j z' lY with⟨rfl,rfl⟩|⟨hj,s7⟩
  ·rfl
  ·rw[Sg.cX,cW j hj] at he
   exact absurd he.symm ((hp hl).2.2 j z' s7 sc)
  ·rw[Sg.cX,cW i hi] at he
   exact absurd he ((hp sc).2.2 i z uG hl)
  rw[cW i hi,cW j hj] at he
  exact s.inj i j z z' uG s7 hl sc he
 ·rcases split i z hz with⟨rfl,rfl⟩|⟨hi,hz⟩
  ·rw[Sg.cX];exact(hp hl).1
  rw[cW i hi];exact s.low i z hz hl
 rcases split i z hz with⟨rfl,rfl⟩|⟨hi,hz⟩
 ·rw[Sg.cX];exact(hp hl).2.1
 rw[cW i hi];exact s.l6 i z hz hl
theorem VS.sub (s:VS lo g σ vh h){aZ:af}(hn:aZ.next=vh.next)(hs:∀i x,aZ.get i=some x→vh.get i=some x):VS lo g σ aZ h∧VF σ vh h σ aZ h:=
 ⟨⟨fun i x hx=>by rw[hn];exact s.obj i x (hs i x hx),fun i j x y hx hy=>s.inj i j x y (hs i x hx) (hs j y hy),fun i x hx=>s.low i x (hs i x hx),s.fz,fun i x hx=>s.l6 i x (hs i x hx),s.bX⟩,
  ⟨Nat.le_refl _,fun _ _ _=>rfl,fun i x hx hl _=>⟨i,x,hs i x hx,hl,rfl⟩⟩⟩
theorem nr {i j:Nat}{x:aO}(hx:(vh.drop i).get j=some x):j≠i∧vh.get j=some x:=by
 rw[af.PB] at hx
 by_cases h:j=i
 ·simp[h] at hx
 simp[h] at hx;exact⟨h,hx⟩
theorem VS.kill (s:VS lo g σ vh h){i:Nat}{x:aO}(hx:vh.get i=some x)(hl:x.live=true):VS lo g σ (vh.drop i) (h.put (σ i).1 none)∧VF σ vh h σ (vh.drop i) (h.put (σ i).1 none):=by
 have a8:=(s.obj i x hx).2.lt hl
 have dL:∀o,o≠(σ i).1→(h.put (σ i).1 none).get o=h.get o:=fun o ho=>by rw[ai.eT _ _ _ _ a8,if_neg ho]
 have db:∀j y,(vh.drop i).get j=some y→y.live=true→(σ j).1≠(σ i).1:=fun j y hy kJ he=>by
  obtain⟨h1,h2⟩:=nr hy
  exact h1 (s.inj j i y x h2 hx kJ hl he)
 refine⟨⟨fun j y hy=>?_,fun j k y z hy hz=>s.inj j k y z (nr hy).2 (nr hz).2,fun j y hy=>s.low j y (nr hy).2,fun o z hz=>?_,fun j y hy=>s.l6 j y (nr hy).2,s.bX⟩,⟨Nat.le_refl _,fun o ho hn=>dL o fun he=>hn i x hx hl he.symm,fun j y hy kJ _=>⟨j,y,(nr hy).2,kJ,rfl⟩⟩⟩
 ·obtain⟨k1,k2⟩:=s.obj j y (nr hy).2
  exact⟨k1,k2.mono (Fz.le_refl g) (Nat.le_refl _) (fun _ _=>rfl) k1 fun kJ=>dL _ (db j y hy kJ)⟩
 have hd:=s.l6 i x hx hl
 rw[dL o (by rintro rfl;rw[hd] at hz;cases hz)]
 exact s.fz o z hz
theorem Fo {i j:Nat}{x x' y:aO}(hx:vh.get i=some x)(hy:(vh.put i x').get j=some y):(j=i∧y=x')∨(j≠i∧vh.get j=some y):=by
 rw[af.eT vh i j x' x hx] at hy
 by_cases h:j=i
 ·simp[h] at hy;exact .inl ⟨h,hy.symm⟩
 simp[h] at hy;exact .inr ⟨h,hy⟩
theorem VS.write (s:VS lo g σ vh h){i:Nat}{x x':aO}(hx:vh.get i=some x)(hl:x.live=true)(y:bn)(xx:vH g σ vh.next (h.put (σ i).1 (some y)) i x'):VS lo g σ (vh.put i x') (h.put (σ i).1 (some y))∧VF σ vh h σ (vh.put i x') (h.put (σ i).1 (some y)):=by
 have a8:=(s.obj i x hx).2.lt hl
 have dL:∀o,o≠(σ i).1→(h.put (σ i).1 (some y)).get o=h.get o:=fun o ho=>by rw[ai.eT _ _ _ _ a8,if_neg ho]
 have db:∀j z,j≠i→vh.get j=some z→z.live=true→(σ j).1≠(σ i).1:=fun j z hj hz cz he=>hj (s.inj j i z x hz hx cz hl he)
 refine⟨⟨fun j z hz=>?_,fun j k z z' hz lY cz wC he=>?_,fun j z hz cz=>?_,fun o z hz=>?_,fun j z hz cz=>?_,s.bX⟩,⟨Nat.le_refl _,fun o ho hn=>dL o fun he=>hn i x hx hl he.symm,fun j z hz cz _=>?_⟩⟩
 ·rcases Fo hx hz with⟨rfl,rfl⟩|⟨hj,hz⟩
  ·exact⟨(s.obj j x hx).1,xx⟩
  obtain⟨k1,k2⟩:=s.obj j z hz
  exact⟨k1,k2.mono (Fz.le_refl g) (Nat.le_refl _) (fun _ _=>rfl) k1 fun cz=>dL _ (db j z hj hz cz)⟩
 ·rcases Fo hx hz with⟨rfl,rfl⟩|⟨hj,uG⟩<;>rcases Fo hx lY with⟨rfl,rfl⟩|⟨hk,s7⟩
  ·rfl
  ·exact absurd he.symm (db k z' hk s7 wC)
  ·exact absurd he (db j z hj uG cz)
  exact s.inj j k z z' uG s7 cz wC he
 ·rcases Fo hx hz with⟨rfl,rfl⟩|⟨hj,hz⟩
  ·exact s.low j x hx hl
  exact s.low j z hz cz
 ·have hd:=s.l6 i x hx hl
  rw[dL o (by rintro rfl;rw[hd] at hz;cases hz)]
  exact s.fz o z hz
 ·rcases Fo hx hz with⟨rfl,rfl⟩|⟨hj,hz⟩
  ·exact s.l6 j x hx hl
  exact s.l6 j z hz cz
 rcases Fo hx hz with⟨rfl,rfl⟩|⟨hj,hz⟩
 ·exact⟨j,x,hx,hl,rfl⟩
 exact⟨j,z,hz,cz,rfl⟩
def dY (vh:af)(v:PV):PV×af:=(.ptr vh.next 0,vh.alloc (.box v.cells))
theorem Vk (s:VS lo g σ vh h){cs:List PV}{au:List Value}(hc:bp (VR g σ vh.next) cs au):lP lo g σ vh h (.ptr vh.next 0) (vh.alloc (.box cs)) (.pointer (some ⟨h.next,0,none⟩)) (h.alloc (.cells 0 au)):=by
 have cW:∀i,i<vh.next→(σ.put vh.next (h.next,0,0)) i=σ i:=fun i hi=>Sg.AO _ _ (by omega)
 obtain⟨h1,h2⟩:=s.alloc (x:=.box cs) (.cells 0 au) 0 ⟨0,au,by rw[Sg.cX,ai.lf,if_pos rfl],by rw[Sg.cX],hc.Fm (Fz.le_refl g) (Nat.le_succ _) cW⟩
 refine⟨_,?_,h1,h2,Nat.le_succ _,cW⟩
 have:=VR.ptr (g:=g) (σ:=σ.put vh.next (h.next,0,0)) (n:=(vh.alloc (.box cs)).next) vh.next 0 h.next 0 0 (Nat.lt_succ_self _) (Sg.cX _ _ _)
 simpa using this
theorem xbe (s:VS lo g σ vh h){v:PV}{v':Value}(hv:VR g σ vh.next v v'):lP lo g σ vh h (dY vh v).1 (dY vh v).2 (v8 h v').1 (v8 h v').2:=Vk s hv.cells
def fI (P:Program)(t:TypeId):Option (List PV):=(sL P t).bind dw
theorem AP {t:TypeId}{z:List PV}(hz:fI P t=some z):∃z',sL P t=some z'∧bp (FR g) z z':=by
 unfold fI at hz
 cases h1:sL P t with
 |none=>rw[h1] at hz;cases hz
 |some z'=>rw[h1] at hz;exact⟨z',rfl,(MH hz).1⟩
def kK (P:Program)(vh:af)(t:TypeId):Option (PV×af):=
 match fI P t with
 |some z=>some (.ptr vh.next 0,vh.alloc (.box z))
 |none=>none
theorem z0a (s:VS lo g σ vh h){t:TypeId}{v:PV}{aq:af}(hv:kK P vh t=some (v,aq)):∃v' h',G0 P h t=some (v',h')∧lP lo g σ vh h v aq v' h':=by
 unfold kK at hv
 split at hv
 ·rename_i z hz
  simp only[aB,bO] at hv
  obtain⟨rfl,rfl⟩:=hv
  obtain⟨z',h1,h2⟩:=AP (g:=g) hz
  exact⟨_,_,by simp only[G0,h1],Vk s h2.vr⟩
 cases hv
def kL (vh:af):PV×af:=(.a6 vh.next,vh.alloc (.map []))
theorem zvt (s:VS lo g σ vh h):lP lo g σ vh h (kL vh).1 (kL vh).2 (.map (some h.next)) (h.alloc (.map [])):=by
 have cW:∀i,i<vh.next→(σ.put vh.next (h.next,0,0)) i=σ i:=fun i hi=>Sg.AO _ _ (by omega)
 obtain⟨h1,h2⟩:=s.alloc (x:=.map []) (.map []) 0 ⟨[],by rw[Sg.cX,ai.lf,if_pos rfl],by rw[Sg.cX],.nil,.nil⟩
 exact⟨_,VR.a6 vh.next h.next 0 0 (Nat.lt_succ_self _) (Sg.cX _ _ _),h1,h2,Nat.le_succ _,cW⟩
def fe (place:Nat→Option (Nat×Nat)):List PV→List (Nat×PV)→Option (List PV)
 |cells,[]=>some cells
 |cells,(i,v)::rest=>
  match place i with
  |none=>none
  |some (off,size)=>
   bif Nat.beq v.cells.length size&&Nat.ble (off+v.cells.length) cells.length then fe place (gR cells off v.cells) rest else none
theorem Ja {n:Nat}{place:Nat→Option (Nat×Nat)}:∀ {parts:List (Nat×PV)} {cN:List (Nat×Value)} {cells out:List PV} {pq:List Value},MJ (VR g σ n) parts cN→bp (VR g σ n) cells pq→fe place cells parts=some out→
  ∃gM,xA place pq cN=some gM∧bp (VR g σ n) out gM
 |[],cN,cells,out,pq,hp,hc,ho=>by
  simp only[fe,aB] at ho;subst ho
  have:=hp.1;simp at this;subst this
  exact⟨pq,rfl,hc⟩
 |(i,v)::rest,cN,cells,out,pq,hp,hc,ho=>by
  cases cN with
  |nil=>have:=hp.1;simp at this
  |cons q r=>
   obtain⟨i',v'⟩:=q
   have h1:=hp.1
   simp only[List.map_cons,List.cons.injEq] at h1
   obtain⟨rfl,h1⟩:=h1
   obtain⟨u,l,h2,h3,h4⟩:=hp.2.eJ
   simp only[List.map_cons,List.cons.injEq] at h2
   obtain⟨rfl,rfl⟩:=h2
   simp only[fe] at ho
   simp only[xA]
   have Vl:=h3.cells
   split at ho
   ·cases ho
   rename_i off size ji
   simp only[ji]
   rw[← Vl.1,← hc.1]
   cases hb:(Nat.beq v.cells.length size&&Nat.ble (off+v.cells.length) cells.length) with
   |false=>rw[hb] at ho;cases ho
   |true=>
    rw[hb] at ho
    simp only[aQ] at ho ⊢
    exact Ja ⟨h1,h4⟩ (hc.ia off Vl) ho
def pt (P:Program)(t:TypeId)(parts:List (Nat×PV)):Option PV:=
 match fI P t,P.underlying t with
 |some z,some (.struct fields)=>
  match G3 P fields.toList with
  |some l=>(fe (l[·]?) z parts).map .agg
  |none=>none
 |some z,some (.array _ e)=>
  match dH P e with
  |some n=>(fe (fun i=>some (i*n,n)) z parts).map .agg
  |none=>none
 |_,_=>none
theorem z3v {n:Nat}{t:TypeId}{parts:List (Nat×PV)}{cN:List (Nat×Value)}{v:PV}(hp:MJ (VR g σ n) parts cN)(hv:pt P t parts=some v):∃v',G4 P t cN=some v'∧VR g σ n v v':=by
 unfold pt at hv
 split at hv
 ·rename_i z fields hz hu
  obtain⟨z',h1,h2⟩:=AP (g:=g) hz
  split at hv
  ·rename_i l hl
   obtain⟨cs,h3,rfl⟩:=er hv
   obtain⟨au,h4,h5⟩:=Ja hp h2.vr h3
   exact⟨.agg au.toArray,by simp only[G4,h1,hu,hl,h4,Option.map_some],Hm h5⟩
  cases hv
 ·rename_i z m e hz hu
  obtain⟨z',h1,h2⟩:=AP (g:=g) hz
  split at hv
  ·rename_i sz hl
   obtain⟨cs,h3,rfl⟩:=er hv
   obtain⟨au,h4,h5⟩:=Ja hp h2.vr h3
   exact⟨.agg au.toArray,by simp only[G4,h1,hu,hl,h4,Option.map_some],Hm h5⟩
  cases hv
 cases hv
def cp (z:List PV)(n:Nat):List PV:=(List.replicate n z).flatten
theorem Ho {R:PV→Value→Prop}{z:List PV}{z':List Value}(hz:bp R z z'):∀n,bp R (cp z n) (dJ z' n)
 |0=>.nil
 |n+1=>by
  simp only[cp,List.replicate_succ,List.flatten_cons,dJ]
  exact hz.append (Ho hz n)
theorem Vm (s:VS lo g σ vh h){ag:Bool}{cs:List PV}{au:List Value}{sz len k:Nat}(h0:0<sz)(PD:len≤k)(hk:k<aC)(hc:bp (FR g) cs au) :
  lP lo g σ vh h (.own vh.next 0 len k) (vh.alloc (.arr ag sz cs)) (.slice (some ⟨h.next,0,none⟩) len k) (h.alloc (.cells 0 au)):=by
 have cW:∀i,i<vh.next→(σ.put vh.next (h.next,0,0)) i=σ i:=fun i hi=>Sg.AO _ _ (by omega)
 obtain⟨h1,h2⟩:=s.alloc (x:=.arr ag sz cs) (.cells 0 au) 0 ⟨h0,0,au,by rw[Sg.cX,ai.lf,if_pos rfl],by rw[Sg.cX],hc⟩
 refine⟨_,?_,h1,h2,Nat.le_succ _,cW⟩
 have:=VR.own (g:=g) (σ:=σ.put vh.next (h.next,0,0)) (n:=(vh.alloc (.arr ag sz cs)).next) vh.next 0 len k h.next 0 0 (Nat.lt_succ_self _) (Sg.cX _ _ _) PD hk
 simpa using this
def jQ (P:Program)(vh:af)(t:TypeId)(len:Nat)(parts:List (Nat×PV)):Option (PV×af):=
 match jh P t with
 |some (e,n)=>
  match fI P e,bK P e with
  |some z,some ag=>
   bif Nat.beq z.length n&&Nat.ble (len*n) 16777216&&Nat.blt 0 n then
    match fe (fun i=>some (i*n,n)) (cp z len) parts with
    |some cs=>bif PV.az cs then some (.own vh.next 0 len len,vh.alloc (.arr ag n cs)) else none
    |none=>none
   else none
  |_,_=>none
 |none=>none
theorem zow (s:VS lo g σ vh h){t:TypeId}{len:Nat}{parts:List (Nat×PV)}{cN:List (Nat×Value)}{v:PV}{aq:af}(hp:MJ (VR g σ vh.next) parts cN)(hv:jQ P vh t len parts=some (v,aq)) :
  ∃v' h',G6 P h t len cN=some (v',h')∧lP lo g σ vh h v aq v' h':=by
 unfold jQ at hv
 split at hv
 ·rename_i e n ht
  split at hv
  ·rename_i z ag hz fy
   obtain⟨z',h1,h2⟩:=AP (g:=g) hz
   cases hb:(Nat.beq z.length n&&Nat.ble (len*n) 16777216&&Nat.blt 0 n) with
   |false=>rw[hb] at hv;cases hv
   |true=>
    rw[hb] at hv
    simp only[aQ] at hv
    split at hv
    ·rename_i cs hf
     cases ha:PV.az cs with
     |false=>rw[ha] at hv;cases hv
     |true=>
      rw[ha] at hv
      simp only[aQ,aB,bO] at hv
      obtain⟨rfl,rfl⟩:=hv
      obtain⟨au,h4,h5⟩:=Ja hp (Ho h2.vr len) hf
      have sK:(Nat.beq z'.length n&&Nat.ble (len*n) 16777216&&Nat.blt 0 n)=true:=by rw[← h2.1];exact hb
      simp only[bW,Nat.blt_eq,Nat.ble_eq] at hb
      have hlen:len≤len*n:=Nat.le_mul_of_pos_right _ hb.2
      have:(16777216:Nat)<aC:=by decide
      exact⟨_,_,by simp only[G6,ht,h1,sK,aQ,h4],Vm s hb.2 (Nat.le_refl _) (by omega) (h5.aD ha)⟩
    cases hv
  cases hv
 cases hv
def jR (P:Program)(vh:af)(t:TypeId)(l c:PV):Option (PV×af):=
 match l,c,jh P t with
 |.int .i64 l,.int .i64 c,some (e,n)=>
  match fI P e,(P.info? e).map (·.bytes),bK P e with
  |some z,some bytes,some ag=>
   bif decide (0≤l∧l≤c∧c≤4294967296)&&Nat.beq z.length n&&Nat.ble bytes 4096&&Nat.blt 0 n then
    some (.own vh.next 0 l.toNat c.toNat,vh.alloc (.arr ag n (cp z c.toNat)))
   else none
  |_,_,_=>none
 |_,_,_=>none
theorem zqm (s:VS lo g σ vh h){t:TypeId}{l c v:PV}{l' c':Value}{aq:af}(hl:VR g σ vh.next l l')(hc:VR g σ vh.next c c')(hv:jR P vh t l c=some (v,aq)) :
  ∃v' h',G7 P h t l' c'=some (v',h')∧lP lo g σ vh h v aq v' h':=by
 unfold jR at hv
 split at hv
 ·rename_i l c e n ht
  have:=hl.aD rfl;cases this
  have:=hc.aD rfl;cases this
  split at hv
  ·rename_i z bytes ag hz rI fy
   obtain⟨z',h1,h2⟩:=AP (g:=g) hz
   cases hb:(decide (0≤l∧l≤c∧c≤4294967296)&&Nat.beq z.length n&&Nat.ble bytes 4096&&Nat.blt 0 n) with
   |false=>rw[hb] at hv;cases hv
   |true=>
    rw[hb] at hv
    simp only[aQ,aB,bO] at hv
    obtain⟨rfl,rfl⟩:=hv
    simp only[bW,decide_eq_true_eq,Nat.blt_eq,Nat.ble_eq] at hb
    obtain⟨⟨⟨⟨eM,cr,nq⟩,wD⟩,PJ⟩,Jb⟩:=hb
    have Hb:z'.length=n:=by rw[← h2.1];simpa using wD
    cases l with
    |negSucc l=>omega
    |ofNat l=>
     cases c with
     |negSucc c=>omega
     |ofNat c=>
      have e1:l≤c:=by have:(l:Int)≤(c:Int):=cr;omega
      have e2:c≤4294967296:=by have:(c:Int)≤4294967296:=nq;omega
      have e3:bytes*c≤4096*4294967296:=Nat.mul_le_mul PJ e2
      have dM:(Nat.beq z'.length n&&Nat.ble l c&&Nat.ble (bytes*c) 281474976710656&&Nat.blt 0 n&&Nat.ble c 281474976710656)=true:=by
       simp only[bW,Nat.ble_eq,Nat.blt_eq]
       exact⟨⟨⟨⟨by rw[Hb];exact Nat.beq_refl n,e1⟩,by omega⟩,Jb⟩,by omega⟩
      have:(4294967296:Nat)<aC:=by decide
      exact⟨.slice (some ⟨h.next,0,none⟩) l c,h.alloc (.cells 0 (dJ z' c)),by simp only[G7,ht,h1,rI,dM,aQ],Vm s Jb e1 (by omega) (Ho h2 c)⟩
  cases hv
 cases hv
def kM (P:Program)(vh:af)(t:TypeId)(p v:PV):Option af:=
 match p with
 |.ptr i off=>
  match vh.get i,dH P t with
  |some (.box cs),some n=>bif Nat.beq v.cells.length n&&v.cells.all PV.one&&Nat.ble (off+n) cs.length then some (vh.put i (.box (gR cs off v.cells))) else none
  |some (.arr ag sz cs),some n=>bif Nat.beq v.cells.length n&&v.cells.all PV.one&&Nat.ble (off+n) cs.length&&PV.az v.cells then some (vh.put i (.arr ag sz (gR cs off v.cells))) else none
  |_,_=>none
 |_=>none
theorem z1o (s:VS lo g σ vh h){t:TypeId}{p v:PV}{p' v':Value}{aq:af}(hp:VR g σ vh.next p p')(tW:VR g σ vh.next v v')(hv:kM P vh t p v=some aq) :
  ∃h',G1 P lo h t p' v'=some h'∧lP lo g σ vh h (.bz []) aq Go.undef h':=by
 unfold kM at hv
 split at hv
 ·rename_i i off
  cases hp with
  |fr _ _ h=>cases h
  |ptr _ _ o a k hi hs=>
   have jn:=tW.cells
   split at hv
   ·rename_i cs n hg hn
    cases hb:(Nat.beq v.cells.length n&&v.cells.all PV.one&&Nat.ble (off+n) cs.length) with
    |false=>rw[hb] at hv;cases hv
    |true=>
     rw[hb] at hv;simp only[aQ,aB] at hv;subst hv
     obtain⟨s0,au,h1,h2,h3⟩:=(s.obj i _ hg).2
     have bS:=s.low i _ hg rfl
     simp only[bW,Nat.ble_eq,Nat.beq_eq_true_eq] at hb
     obtain⟨⟨eM,cr⟩,nq⟩:=hb
     have h4:=s.write hg rfl (x':=.box (gR cs off v.cells)) (.cells s0 (ia au off v'.cells.toList)) ⟨s0,_,by rw[ai.eT _ _ _ _ (ai.iE h1),if_pos rfl],h2,h3.ia off jn⟩
     rw[hs] at h1 h2 bS h4
     simp only at h1 h2 bS h4;subst h2
     have dM:(Nat.ble lo o&&Nat.beq v'.cells.toList.length n&&v'.cells.toList.all (·.oneCell')&&Nat.ble (0+off+n) au.length)=true:=by
      simp only[bW,Nat.ble_eq,Nat.beq_eq_true_eq]
      exact⟨⟨⟨bS,by rw[← jn.1];exact eM⟩,jn.yR cr⟩,by rw[← h3.1];omega⟩
     rw[Nat.zero_add] at dM ⊢
     refine⟨_,by simp only[G1,h1,hn,dM,aQ],σ,.fr _ _ ?_,h4.1,h4.2,Nat.le_refl _,fun _ _=>rfl⟩
     exact .bz [] #[] rfl (fun i v v' h=>by simp at h)
   ·rename_i ag sz cs n hg hn
    cases hb:(Nat.beq v.cells.length n&&v.cells.all PV.one&&Nat.ble (off+n) cs.length&&PV.az v.cells) with
    |false=>rw[hb] at hv;cases hv
    |true=>
     rw[hb] at hv;simp only[aQ,aB] at hv;subst hv
     obtain⟨h0,s0,au,h1,h2,h3⟩:=(s.obj i _ hg).2
     have bS:=s.low i _ hg rfl
     simp only[bW,Nat.ble_eq,Nat.beq_eq_true_eq] at hb
     obtain⟨⟨⟨eM,cr⟩,nq⟩,wD⟩:=hb
     have h4:=s.write hg rfl (x':=.arr ag sz (gR cs off v.cells)) (.cells s0 (ia au off v'.cells.toList)) ⟨h0,s0,_,by rw[ai.eT _ _ _ _ (ai.iE h1),if_pos rfl],h2,h3.ia off (jn.aD wD)⟩
     rw[hs] at h1 h2 bS h4
     simp only at h1 h2 bS h4;subst h2
     have dM:(Nat.ble lo o&&Nat.beq v'.cells.toList.length n&&v'.cells.toList.all (·.oneCell')&&Nat.ble (0+off+n) au.length)=true:=by
      simp only[bW,Nat.ble_eq,Nat.beq_eq_true_eq]
      exact⟨⟨⟨bS,by rw[← jn.1];exact eM⟩,jn.yR cr⟩,by rw[← h3.1];omega⟩
     rw[Nat.zero_add] at dM ⊢
     refine⟨_,by simp only[G1,h1,hn,dM,aQ],σ,.fr _ _ ?_,h4.1,h4.2,Nat.le_refl _,fun _ _=>rfl⟩
     exact .bz [] #[] rfl (fun i v v' h=>by simp at h)
   cases hv
 cases hv
end
section
variable {P:Program} {lo:Nat} {g:Fz} {σ:Sg} {vh:af} {h:ai}
theorem DI {n:Nat}:∀ {es:List PV},(∀e∈es,e.cells.length=n)→(es.flatMap PV.cells).length=es.length*n
 |[],_=>by simp
 |e::r,hl=>by
  simp only[List.flatMap_cons,List.length_append,List.length_cons]
  rw[DI fun x hx=>hl x (List.mem_cons_of_mem _ hx),hl e (by simp),Nat.succ_mul]
  omega
theorem Vn {R:PV→Value→Prop}{n:Nat}{au:List Value}:∀ {es:List PV} {off:Nat},(∀e∈es,e.cells.length=n)→(∀(i:Nat) e (j:Nat) v v',es[i]?=some e→e.cells[j]?=some v→au[off+i*n+j]?=some v'→R v v')→
  off+es.length*n≤au.length→bp R (es.flatMap PV.cells) ((au.drop off).take (es.length*n))
 |[],off,_,_,_=>by simp only[List.flatMap_nil,List.length_nil,Nat.zero_mul,List.take_zero];exact .nil
 |e::r,off,hl,hr,hlen=>by
  simp only[List.length_cons,Nat.succ_mul] at hlen
  have he:=hl e (by simp)
  have ih:=Vn (R:=R) (n:=n) (au:=au) (es:=r) (off:=off+n) (fun x hx=>hl x (List.mem_cons_of_mem _ hx)) (fun i x j v v' hx hv bg=>hr (i+1) x j v v' (by simpa using hx) hv (by rw[Nat.succ_mul,show off+(i*n+n)+j=off+n+i*n+j by omega];exact bg)) (by omega)
  have h1:bp R e.cells ((au.drop off).take n):=⟨by simp;omega,fun j v v' hv bg=>by
   rw[List.getElem?_take] at bg
   split at bg
   ·rw[List.getElem?_drop] at bg
    exact hr 0 e j v v' (by simp) hv (by simpa using bg)
   cases bg⟩
  have h2:=h1.append ih
  simp only[List.flatMap_cons,List.length_cons,Nat.succ_mul]
  have h3:(au.drop off).take (r.length*n+n)=(au.drop off).take n++(au.drop (off+n)).take (r.length*n):=by
   rw[Nat.add_comm,List.take_add,List.drop_drop]
  rw[h3];exact h2
theorem Jc {R:PV→Value→Prop}{n:Nat}:∀ {es:List PV} {au:List Value},(∀e∈es,e.cells.length=n)→bp R (es.flatMap PV.cells) au→∀(i:Nat) e (j:Nat) v v',es[i]?=some e→e.cells[j]?=some v→au[i*n+j]?=some v'→R v v'
 |[],_,_,_,i,e,j,v,v',he,_,_=>by simp at he
 |x::r,au,hl,hr,i,e,j,v,v',he,hv,bg=>by
  have hx:=hl x (by simp)
  simp only[List.flatMap_cons] at hr
  cases i with
  |zero=>
   simp at he;subst he
   have hj:j<x.cells.length:=by
    rcases Nat.lt_or_ge j x.cells.length with h|h
    ·exact h
    rw[List.getElem?_eq_none h] at hv;cases hv
   exact hr.2 j v v' (by rw[List.getElem?_append_left hj];exact hv) (by simpa using bg)
  |succ i=>
   have h2:bp R (r.flatMap PV.cells) (au.drop n):=by
    have:=hr.drop n
    rwa [show (x.cells++r.flatMap PV.cells).drop n=r.flatMap PV.cells by rw[← hx];simp] at this
   exact Jc (fun y hy=>hl y (List.mem_cons_of_mem _ hy)) h2 i e j v v' (by simpa using he) hv (by rw[List.getElem?_drop,show n+(i*n+j)=(i+1)*n+j by rw[Nat.succ_mul];omega];exact bg)
theorem z0f {n:Nat}{es:List PV}(h:nU n es=true):∀e∈es,e.cells.length=n:=fun e he=>by
 unfold nU at h
 rw[List.all_eq_true] at h
 simpa using h e he
def chunk (ag:Bool)(sz n:Nat)(cs:List PV):List PV:=bif ag then (List.range n).map fun i=>.agg ((cs.drop (i*sz)).take sz) else cs.take n
theorem PK {sz:Nat}:∀ {n:Nat} {cs:List PV},n*sz≤cs.length→(chunk true sz n cs).flatMap PV.cells=cs.take (n*sz)
 |0,cs,_=>by simp[chunk]
 |n+1,cs,h=>by
  have ih:=PK (sz:=sz) (n:=n) (cs:=cs.drop sz) (by rw[Nat.succ_mul] at h;simp;omega)
  simp only[chunk,aQ] at ih ⊢
  rw[List.range_succ_eq_map,List.map_cons,List.flatMap_cons,List.map_map]
  have he:((fun i=>PV.agg ((cs.drop (i*sz)).take sz))∘Nat.succ)=fun i=>PV.agg (((cs.drop sz).drop (i*sz)).take sz):=by
   funext i
   simp only[Function.comp,List.drop_drop]
   rw[Nat.succ_mul,Nat.add_comm sz]
  rw[he,ih]
  simp only[Nat.zero_mul,List.drop_zero,PV.cells]
  rw[Nat.succ_mul,Nat.add_comm (n*sz),List.take_add]
theorem Vo:∀ {n:Nat} {cs:List PV},nU 1 (cs.take n)=true→cs.all PV.one=true→(chunk false 1 n cs).flatMap PV.cells=cs.take n
 |n,cs,_,ho=>by
  simp only[chunk,bx]
  have h1:∀l:List PV,l.all PV.one=true→l.flatMap PV.cells=l:=fun l=>by
   induction l with
   |nil=>intro _;rfl
   |cons e r ih=>
    intro h
    simp only[List.all_cons,bW] at h
    rw[List.flatMap_cons,ih h.2]
    cases e<;>first|rfl|(simp[PV.one] at h)
  exact h1 _ (by rw[List.all_eq_true] at ho ⊢;exact fun x hx=>ho x (List.mem_of_mem_take hx))
def gE (vh:af)(n:Nat)(x:PV):Option (List PV):=
 match x with
 |.aJ=>some []
 |.e0=>some []
 |.vec es=>bif nU n es then some es else none
 |.own i off len _=>match vh.get i with
  |some (.arr ag sz cs)=>bif Nat.beq sz n&&(ag||(Nat.beq sz 1&&cs.all PV.one))&&Nat.ble (off+len*n) cs.length then some (chunk ag sz len (cs.drop off)) else none
  |_=>none
 |.sub i off len=>match vh.get i with
  |some (.arr ag sz cs)=>bif Nat.beq sz n&&(ag||(Nat.beq sz 1&&cs.all PV.one))&&Nat.ble (off+len*n) cs.length then some (chunk ag sz len (cs.drop off)) else none
  |_=>none
 |.grow i m _=>bif Nat.beq m 0 then some [] else match vh.get i with
  |some (.grow sz es)=>bif Nat.beq sz n&&Nat.beq es.length m then some es else none
  |_=>none
 |_=>none
theorem Hp (s:VS lo g σ vh h){n:Nat}(hn:0<n){x:PV}{x':Value}{es:List PV}(hx:VR g σ vh.next x x')(he:gE vh n x=some es) :
  mO x'=some es.length∧(∀e∈es,e.cells.length=n)∧∀m,m≤es.length→∃bu,sd h n x' m=some bu∧bp (FR g) ((es.take m).flatMap PV.cells) bu:=by
 have nil:∀ {x':Value},∀m,m≤([]:List PV).length→∃bu,sd h n x' m=some bu∧bp (FR g) ((([]:List PV).take m).flatMap PV.cells) bu:=fun m hm=>by
  have:m=0:=by simpa using hm
  subst this
  exact⟨[],by simp[sd],.nil⟩
 have src:∀ {o off k s0:Nat} {au:List Value} {es:List PV},h.get o=some (.cells s0 au)→off+es.length*n≤au.length→(∀e∈es,e.cells.length=n)→bp (FR g) (es.flatMap PV.cells) ((au.drop off).take (es.length*n))→
   ∀m,m≤es.length→∃bu,sd h n (.slice (some ⟨o,off,none⟩) es.length k) m=some bu∧bp (FR g) ((es.take m).flatMap PV.cells) bu:=fun {o off k s0 au es} hg hlen hl hr m hm=>by
  rcases ng m 0 with⟨hq,cG⟩|⟨hq,cG⟩
  ·subst cG;exact⟨[],by simp[sd],by simp;exact .nil⟩
  have h1:m*n≤es.length*n:=Nat.mul_le_mul_right _ hm
  have h2:Nat.ble (off+m*n) au.length=true:=by rw[Nat.ble_eq];omega
  refine⟨(au.drop off).take (m*n),by simp only[sd,hq,bx,hg,h2,aQ],?_⟩
  have h3:=hr.take (m*n)
  rw[List.take_take,Nat.min_eq_left h1] at h3
  have h4:(es.flatMap PV.cells).take (m*n)=(es.take m).flatMap PV.cells:=by
   have h5:es.flatMap PV.cells=(es.take m).flatMap PV.cells++(es.drop m).flatMap PV.cells:=by rw[← List.flatMap_append,List.take_append_drop]
   have h6:=DI (es:=es.take m) fun e he=>hl e (List.mem_of_mem_take he)
   rw[h5,List.take_left' (by rw[h6,List.length_take,Nat.min_eq_left hm])]
  rw[h4] at h3;exact h3
 unfold gE at he
 split at he
 ·injection he with he;subst he
  have:=hx.aD rfl;cases this
  exact⟨rfl,by simp,nil⟩
 ·injection he with he;subst he
  have:=hx.aD rfl;cases this<;>exact⟨rfl,by simp,nil⟩
 ·rename_i DJ
  cases bk:nU n DJ with
  |false=>rw[bk] at he;cases he
  |true=>
   rw[bk] at he;simp only[aQ,aB] at he;subst he
   have hl:=z0f bk
   have:=hx.aD rfl
   cases this with
   |ie=>exact⟨rfl,by simp,nil⟩
   |et=>exact⟨rfl,by simp,nil⟩
   |vec _ o off k s0 sz au hk eY hg h0 dU hlen r=>
    refine⟨rfl,hl,?_⟩
    by_cases s8:DJ=[]
    ·subst s8;exact nil
    have:sz=n:=by
     have h1:0<DJ.length:=by
      cases DJ with
      |nil=>exact absurd rfl s8
      |cons=>simp
     rw[← dU 0 DJ[0] (by simp[h1])]
     exact hl _ (List.getElem_mem h1)
    subst this
    exact src (s.fz _ _ hg) hlen hl (Vn hl r hlen)
 ·rename_i i off len k
  split at he
  ·rename_i ag sz cs xK
   cases hb:(Nat.beq sz n&&(ag||(Nat.beq sz 1&&cs.all PV.one))&&Nat.ble (off+len*n) cs.length) with
   |false=>rw[hb] at he;cases he
   |true=>
    rw[hb] at he;simp only[aQ,aB] at he;subst he
    simp only[bW,Bool.or_eq_true,Nat.ble_eq,beq_eq,decide_eq_true_eq] at hb
    obtain⟨⟨eM,cr⟩,nq⟩:=hb
    subst eM
    obtain⟨h0,s0,au,h1,h2,h3⟩:=(s.obj i _ xK).2
    cases hx with
    |fr _ _ h=>cases h
    |own _ _ _ _ o a kk hi hs hl hk=>
     rw[hs] at h1 h2;simp only at h1 h2;subst h2
     have fx:∀e∈chunk ag sz len (cs.drop off),e.cells.length=sz:=by
      intro e wE
      cases ag with
      |true=>
       simp only[chunk,aQ,List.mem_map,List.mem_range] at wE
       obtain⟨i,hi,rfl⟩:=wE
       have:i*sz+sz≤len*sz:=by rw[← Nat.succ_mul];exact Nat.mul_le_mul_right _ hi
       simp[PV.cells];omega
      |false=>
       simp only[Bool.false_eq_true,false_or] at cr
       simp only[chunk,bx] at wE
       have h5:=(List.all_eq_true.1 cr.2) e (List.mem_of_mem_drop (List.mem_of_mem_take wE))
       rw[cr.1]
       cases e<;>first|rfl|(simp[PV.one] at h5)
     have hlen:(chunk ag sz len (cs.drop off)).length=len:=by
      cases ag with
      |true=>simp[chunk]
      |false=>
       simp only[Bool.false_eq_true,false_or] at cr
       have:=cr.1;subst this
       simp[chunk];omega
     have mV:(chunk ag sz len (cs.drop off)).flatMap PV.cells=(cs.drop off).take (len*sz):=by
      cases ag with
      |true=>exact PK (by simp;omega)
      |false=>
       simp only[Bool.false_eq_true,false_or] at cr
       have:=cr.1;subst this
       have bk:(cs.drop off).all PV.one=true:=by rw[List.all_eq_true];exact fun x hx=>(List.all_eq_true.1 cr.2) x (List.mem_of_mem_drop hx)
       have h1:nU 1 ((cs.drop off).take len)=true:=by
        unfold nU
        rw[List.all_eq_true]
        intro e wE
        have h5:=(List.all_eq_true.1 bk) e (List.mem_of_mem_take wE)
        cases e<;>first|rfl|(simp[PV.one] at h5)
       rw[Vo h1 bk,Nat.mul_one]
     refine⟨by simp only[mO];rw[hlen],fx,?_⟩
     have h4:bp (FR g) ((chunk ag sz len (cs.drop off)).flatMap PV.cells) ((au.drop off).take ((chunk ag sz len (cs.drop off)).length*sz)):=by
      rw[mV,hlen];exact(h3.drop off).take _
     have h5:=src (o:=o) (off:=off) (k:=k) h1 (by rw[hlen,← h3.1];exact nq) fx h4
     rw[hlen] at h5
     rw[Nat.zero_add,hlen];exact h5
  cases he
 ·rename_i i off len
  split at he
  ·rename_i ag sz cs xK
   cases hb:(Nat.beq sz n&&(ag||(Nat.beq sz 1&&cs.all PV.one))&&Nat.ble (off+len*n) cs.length) with
   |false=>rw[hb] at he;cases he
   |true=>
    rw[hb] at he;simp only[aQ,aB] at he;subst he
    simp only[bW,Bool.or_eq_true,Nat.ble_eq,beq_eq,decide_eq_true_eq] at hb
    obtain⟨⟨eM,cr⟩,nq⟩:=hb
    subst eM
    obtain⟨h0,s0,au,h1,h2,h3⟩:=(s.obj i _ xK).2
    cases hx with
    |fr _ _ h=>cases h
    |sub _ _ _ k o a kk hi hs hl hk=>
     rw[hs] at h1 h2;simp only at h1 h2;subst h2
     have fx:∀e∈chunk ag sz len (cs.drop off),e.cells.length=sz:=by
      intro e wE
      cases ag with
      |true=>
       simp only[chunk,aQ,List.mem_map,List.mem_range] at wE
       obtain⟨i,hi,rfl⟩:=wE
       have:i*sz+sz≤len*sz:=by rw[← Nat.succ_mul];exact Nat.mul_le_mul_right _ hi
       simp[PV.cells];omega
      |false=>
       simp only[Bool.false_eq_true,false_or] at cr
       simp only[chunk,bx] at wE
       have h5:=(List.all_eq_true.1 cr.2) e (List.mem_of_mem_drop (List.mem_of_mem_take wE))
       rw[cr.1]
       cases e<;>first|rfl|(simp[PV.one] at h5)
     have hlen:(chunk ag sz len (cs.drop off)).length=len:=by
      cases ag with
      |true=>simp[chunk]
      |false=>
       simp only[Bool.false_eq_true,false_or] at cr
       have:=cr.1;subst this
       simp[chunk];omega
     have mV:(chunk ag sz len (cs.drop off)).flatMap PV.cells=(cs.drop off).take (len*sz):=by
      cases ag with
      |true=>exact PK (by simp;omega)
      |false=>
       simp only[Bool.false_eq_true,false_or] at cr
       have:=cr.1;subst this
       have bk:(cs.drop off).all PV.one=true:=by rw[List.all_eq_true];exact fun x hx=>(List.all_eq_true.1 cr.2) x (List.mem_of_mem_drop hx)
       have h1:nU 1 ((cs.drop off).take len)=true:=by
        unfold nU
        rw[List.all_eq_true]
        intro e wE
        have h5:=(List.all_eq_true.1 bk) e (List.mem_of_mem_take wE)
        cases e<;>first|rfl|(simp[PV.one] at h5)
       rw[Vo h1 bk,Nat.mul_one]
     refine⟨by simp only[mO];rw[hlen],fx,?_⟩
     have h4:bp (FR g) ((chunk ag sz len (cs.drop off)).flatMap PV.cells) ((au.drop off).take ((chunk ag sz len (cs.drop off)).length*sz)):=by
      rw[mV,hlen];exact(h3.drop off).take _
     have h5:=src (o:=o) (off:=off) (k:=k) h1 (by rw[hlen,← h3.1];exact nq) fx h4
     rw[hlen] at h5
     rw[Nat.zero_add,hlen];exact h5
  cases he
 ·rename_i i m nl
  rcases ng m 0 with⟨hq,cG⟩|⟨hq,cG⟩
  ·rw[hq] at he;simp only[aQ,aB] at he;subst he;subst cG
   cases hx with
   |fr _ _ h=>cases h
   |cB=>exact⟨rfl,by simp,nil⟩
   |cC=>exact⟨rfl,by simp,nil⟩
   |grow _ _ _ _ _ _ _ _ hn=>omega
  rw[hq] at he;simp only[bx] at he
  split at he
  ·rename_i sz DJ xK
   cases hb:(Nat.beq sz n&&Nat.beq DJ.length m) with
   |false=>rw[hb] at he;cases he
   |true=>
    rw[hb] at he;simp only[aQ,aB] at he;subst he
    simp only[bW,Nat.beq_eq_true_eq] at hb
    obtain⟨eM,cr⟩:=hb
    have eM:sz=n:=by simpa using eM
    have cr:DJ.length=m:=by simpa using cr
    subst eM
    obtain⟨h0,hl,PL,oy⟩:=(s.obj i _ xK).2
    rcases oy with rfl|⟨s0,au,h1,h2,h3,h4⟩
    ·exact absurd cr.symm cG
    cases hx with
    |fr _ _ h=>cases h
    |cB=>exact absurd rfl cG
    |cC=>exact absurd rfl cG
    |grow _ _ o a k _ hi hs hm=>
     subst cr
     rw[hs] at h1 h2;simp only at h1 h2;subst h2
     have mV:=DI hl
     refine⟨rfl,hl,src h1 (by rw[← mV,h3.1];simp) hl ?_⟩
     rw[List.drop_zero,← mV,h3.1,List.take_length];exact h3
  cases he
 cases he
end
end Go.Am
end
