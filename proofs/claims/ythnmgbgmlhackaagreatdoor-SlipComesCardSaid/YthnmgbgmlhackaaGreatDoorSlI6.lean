/-
 What is used in the proof of a statement (part SlI6); no condition.
-/
import Derived.Test.YthnmgbgmlhackaaGreatDoorSlH
import Derived.Test.YthnmgbgmlhackaaGreatDoorSlI2
set_option linter.all false
set_option maxHeartbeats 40000000
set_option maxRecDepth 100000
section
namespace Go.Am.Sl
theorem Sub.YX {c:aj}{L:List ay}(h:Sub c L)(hr:Rt c):Bk L:=⟨fun x hx=>(JY hr).on x (h.mem hx),(JY hr).up.sublist h.sub⟩
theorem NY {c:aj}(hr:Rt c){L:List ay}(h:Sub c L){a b:Nat}:gn L a b<cP↔∃n w,Way L 0 0 a b n w:=by
 rw[Ia hr h,Ls (h.El hr) (by simp only[cP];omega)]
 constructor
 ·rintro⟨v,hv⟩;obtain⟨w,hw⟩:=QH hv;exact⟨v,w,hw⟩
 rintro⟨n,w,hw⟩;obtain⟨u,hu,_⟩:=Nh (h.YX hr) hw;exact⟨u,hu⟩
theorem S6 {c:aj}(hr:Rt c){L:List ay}(h:Sub c L){a b:Nat}(a8:gn L a b<cP):∃w,Way L 0 0 a b (gn L a b) w:=by
 rw[Ia hr h] at a8 ⊢
 obtain⟨v,hv⟩:=(Ls (h.El hr) (by simp only[cP];omega)).1 a8
 rw[Ch hv]
 exact QH hv
theorem YK {c:aj}(hr:Rt c){L:List ay}(h:Sub c L){a b:Nat}{n:Int}{w:List ay}(hw:Way L 0 0 a b n w):gn L a b≤n:=by
 obtain⟨u,h1,h2⟩:=Nh (h.YX hr) hw
 rw[Ia hr h,Ch h1];exact h2
theorem NR {c:aj}(hr:Rt c)(p:ay→Bool){a b:Nat}:(gn ((graph c).filter p) a b<cP↔fwd c p a b<iV)∧(fwd c p a b<iV→gn ((graph c).filter p) a b=fwd c p a b):=by
 have hs:=(Sub.graph c).filter p
 rw[Ia hr hs,Wn hr p]
 refine⟨by rw[Ls (hs.El hr) (by simp only[cP];omega),Ls (hs.El hr) (by simp only[iV];omega)],fun h=>?_⟩
 obtain⟨v,hv⟩:=(Ls (hs.El hr) (by simp only[iV];omega)).1 h
 rw[Ch hv,Ch hv]
theorem Way.mono {L K:List ay}{i j a b:Nat}{n:Int}{w:List ay}(h:Way L i j a b n w)(hw:∀x∈w,x∈K):Way K i j a b n w:=by
 induction h with
 |nil i j=>exact .nil i j
 |cons x hx h ih=>exact .cons x (hw x List.mem_cons_self) (ih fun y hy=>hw y (List.mem_cons_of_mem _ hy))
theorem Way.kr {L:List ay}{i j a b:Nat}{n:Int}{w:List ay}(h:Way L i j a b n w):∀x∈w,x∈L:=by
 induction h with
 |nil i j=>exact fun x hx=>by cases hx
 |cons x hx h ih=>
  intro y hy
  rcases List.mem_cons.1 hy with rfl|hy
  ·exact hx
  exact ih y hy
theorem YM {c:aj}(hr:Rt c)(p:ay→Bool):eR c≤fwd c p c.t.length c.c.length:=by
 have hs:=(Sub.graph c).filter p
 by_cases h:fwd c p c.t.length c.c.length<iV
 ·obtain⟨h3,h4⟩:=NR hr p (a:=c.t.length) (b:=c.c.length)
  obtain⟨w,hw⟩:=S6 hr hs (h3.2 h)
  rw[h4 h] at hw
  exact DU hr (hw.mono fun x hx=>(List.mem_filter.1 (hw.kr x hx)).1)
 have h0:=(Cg hr (Nat.le_refl c.t.length) (Nat.le_refl c.c.length)).2.2
 have:=hr.tl;have:=hr.cl
 unfold eR
 simp only[iV] at h
 omega
end Go.Am.Sl
end
