/-
 What is used in the proof of a statement (part SlI2); no condition.
-/
import Derived.Test.YthnmgbgmlhackaaGreatDoorSlH
set_option linter.all false
set_option maxHeartbeats 40000000
set_option maxRecDepth 100000
section
namespace Go.Am.Sl
def vm (D:Nat→Nat→Int)(x:ay):Nat→Nat→Int:=bh D x.i' x.j' (min (D x.i' x.j') (D x.i x.j+x.n))
def gn (L:List ay):Nat→Nat→Int:=L.foldl vm (bh (fun _ _=>1073741824) 0 0 0)
abbrev cP:Int:=1073741824
theorem z2n (l:List ay):∀ {o:nN} {k:Nat},nO o k→100*(k:Int)+100*(l.length:Int)+100≤cP→(∀x∈l,0≤x.n∧x.n≤100)→l.foldl vm (val cP o)=val cP (A2 o l):=by
 induction l with
 |nil=>exact fun _ _ _=>rfl
 |cons x r ih=>
  intro o k h hf hx
  have h1:=hx x List.mem_cons_self
  have Nc:=fun y hy=>hx y (List.mem_cons_of_mem _ hy)
  simp only[List.length_cons,cP] at hf
  rw[List.foldl_cons]
  have:vm (val cP o) x=val cP (oZ o x):=by
   unfold vm
   rw[Wm h (by simp only[cP];omega) h1.1 h1.2]
  rw[this]
  exact ih (h.oZ h1.1 h1.2) (by simp only[cP];omega) Nc
theorem zy1:bh (fun _ _=>(1073741824:Int)) 0 0 0=val cP start:=by
 funext a b
 unfold bh val start
 split<;>rfl
structure Sub (c:aj) (L:List ay):Prop where
  sub:L.Sublist (graph c)
theorem Sub.mem {c:aj}{L:List ay}(h:Sub c L){x:ay}(hx:x∈L):x∈graph c:=h.sub.subset hx
theorem Sub.len {c:aj}{L:List ay}(h:Sub c L)(hr:Rt c):L.length≤139258:=Nat.le_trans h.sub.length_le (HL hr)
theorem Sub.filter {c:aj}{L:List ay}(h:Sub c L)(p:ay→Bool):Sub c (L.filter p):=⟨List.filter_sublist.trans h.sub⟩
theorem Sub.graph (c:aj):Sub c (graph c):=⟨List.Sublist.refl _⟩
theorem Sub.El {c:aj}{L:List ay}(h:Sub c L)(hr:Rt c):nO (oD L) 139258:=by
 have h1:=(nO.foldl (l:=L) nO.start fun x hx=>JW hr x (h.mem hx))
 exact h1.mono (by have:=h.len hr;omega)
theorem Ia {c:aj}(hr:Rt c){L:List ay}(h:Sub c L):gn L=val cP (oD L):=by
 unfold gn
 rw[zy1]
 have:=h.len hr
 exact z2n L nO.start (by simp only[cP];omega) fun x hx=>JW hr x (h.mem hx)
end Go.Am.Sl
end
