/-
 What is used in the proof of a statement (part SlI12); no condition.
-/
import Derived.Test.YthnmgbgmlhackaaGreatDoorSlH
import Derived.Test.YthnmgbgmlhackaaGreatDoorSlI2
import Derived.Test.YthnmgbgmlhackaaGreatDoorSlI8
set_option linter.all false
set_option maxHeartbeats 40000000
set_option maxRecDepth 100000
section
namespace Go.Am.Sl
theorem KV {L:List ay}{i j a b:Nat}{n:Int}{w:List ay}(h:Way L i j a b n w):∀k:Nat,i<k→k≤a→∃x∈w,x.i<k∧k≤x.i':=by
 induction h with
 |nil i j=>intro k h1 h2;omega
 | @cons x hx a b n l h ih=>
  intro k h1 h2
  by_cases hk:k≤x.i'
  ·exact⟨x,List.mem_cons_self,h1,hk⟩
  obtain⟨y,hy,h3⟩:=ih k (by omega) h2
  exact⟨y,List.mem_cons_of_mem _ hy,h3⟩
theorem Ef {c:aj}(hr:Rt c):Way (dS c) 0 0 c.t.length c.c.length (eR c) (rR c):=
 (zc hr).mono fun x hx=>List.mem_filter.2 ⟨(zc hr).kr x hx,J7 hr (zc hr) x hx⟩
def rZ (i:Nat)(x:ay):Bool:=decide (x.s=none∧x.i=i)
theorem Yc (c:aj)(i:Nat):ud c i=(dS c).any (rZ i):=by
 rw[xbq]
 congr 1
 funext x
 unfold rZ
 cases x.s<;>simp
theorem Yd {c:aj}(hr:Rt c)(i:Nat):xY c i=decide (cP≤gn ((dS c).filter fun x=>!rZ i x) c.t.length c.c.length):=by
 unfold xY FP
 exact Ye hr _
end Go.Am.Sl
end
