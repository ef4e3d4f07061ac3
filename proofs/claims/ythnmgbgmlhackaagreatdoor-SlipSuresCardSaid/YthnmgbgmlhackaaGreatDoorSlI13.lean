/-
 What is used in the proof of a statement (part SlI13); no condition.
-/
import Derived.Test.YthnmgbgmlhackaaGreatDoorSlH
import Derived.Test.YthnmgbgmlhackaaGreatDoorSlI0
import Derived.Test.YthnmgbgmlhackaaGreatDoorSlI2
import Derived.Test.YthnmgbgmlhackaaGreatDoorSlI6
import Derived.Test.YthnmgbgmlhackaaGreatDoorSlI7
set_option linter.all false
set_option maxHeartbeats 40000000
set_option maxRecDepth 100000
section
namespace Go.Am.Sl
def tF (q:ay→Bool)(d:List ak)(x:ay):List ak:=match x.s with|some s=>if q x then eC d s else d|none=>d
theorem Yf {s:ak}:∀ {d:List ak},(∀x∈d,x.lt s)→eC d s=d++[s]
 |[],_=>rfl
 |a::r,h=>by
  unfold eC
  rw[if_pos (h a List.mem_cons_self),Yf fun x hx=>h x (List.mem_cons_of_mem _ hx)];rfl
theorem Yg (q:ay→Bool):∀(L:List ay) (d:List ak),(d++fU L).Pairwise ak.lt→L.foldl (tF q) d=L.foldl (oE q) d
 |[],d,_=>rfl
 |x::L,d,h=>by
  have fP:fU (x::L)=(match x.s with|some s=>[s]|none=>[])++fU L:=by
   unfold fU;rw[List.filterMap_cons];cases x.s<;>rfl
  rw[fP] at h
  have e:tF q d x=oE q d x:=by
   unfold tF oE
   cases hs:x.s with
   |none=>rfl
   |some s=>
    rw[hs] at h
    cases hq:q x with
    |false=>simp
    |true=>
     simp only[if_true]
     refine Yf fun y hy=>?_
     rw[List.pairwise_append] at h
     exact h.2.2 y hy s (by simp)
  rw[List.foldl_cons,List.foldl_cons,e]
  refine Yg q L _ ?_
  unfold oE
  cases hs:x.s with
  |none=>rw[hs] at h;simpa using h
  |some s=>
   rw[hs] at h
   cases hq:q x with
   |true=>simpa using h
   |false=>
    refine h.sublist ?_
    simp
def CK (c:aj)(q:ay→Bool):List ak:=(dS c).foldl (tF q) []
theorem Sq (c:aj)(q:ay→Bool):CK c q=gU c q:=by
 unfold CK gU
 refine Yg q _ _ ?_
 rw[List.nil_append]
 exact zr3 c _
theorem Yh {c:aj}(hr:Rt c){s:ak}{x:ay}(hx:x∈graph c)(hs:x.s=some s):∃n i' w,aM c s=some (n,i',w)∧hasB c s.i.toNat w=true∧x=⟨s.a.toNat,s.i.toNat,i',s.i.toNat+w.length,n,some s⟩:=by
 obtain⟨h1,h2,h3⟩:=rQ hr hx
 rcases Nl hr h1 with⟨e,_⟩|⟨s',n,i',w,e,h4,h5,h6⟩
 ·rw[e] at hs;cases hs
 have e1:s'=s:=by rw[e] at hs;injection hs
 subst e1
 obtain⟨f1,f2⟩:=Ci h4
 have g1:s'.a.toNat=x.i:=by omega
 have g2:s'.i.toNat=x.j:=by omega
 exact⟨n,i',w,h5,by rw[g2];exact h6,by rw[g1,g2];exact e⟩
theorem Sr {c:aj}(hr:Rt c){s:ak}{n:Int}{i':Nat}{w:List Int}(hd:aM c s=some (n,i',w))(hh:hasB c s.i.toNat w=true):(⟨s.a.toNat,s.i.toNat,i',s.i.toNat+w.length,n,some s⟩:ay)∈graph c:=by
 have h1:=WG hd hh
 have h2:=(nI hr hd).2.1
 have h3:=We hh
 exact zb (by omega) (by omega) h1
theorem Yi {c:aj}(hr:Rt c)(s:ak):(gn ((graph c).filter fun x=>!kV s x) c.t.length c.c.length<cP↔ny c s<1099511627776)∧(ny c s<1099511627776→gn ((graph c).filter fun x=>!kV s x) c.t.length c.c.length=ny c s):=NR hr _
open Go Go.Am Go.Proofs
attribute [local simp] de fQ lz dz dN jD af.back b6 dG iO bm Nat.testBit_eq_decide_div_mod_eq ct gf jB vO kN dX kO gE cJ jR jQ kK dY kL j9 jq ly j8 kM kF kC kG kD kE kH kI jM di ig dd kP jS ka kQ kR jL ls lu dW jC dy dx dA iL dK jY jO jP gX kz a7 j7 dw bA bC ja af.get af.alloc af.put af.drop af.empty bq cg gd gR fe cp chunk List.range List.range.loop iP lA jr bI bG PV.aD PV.az PV.b8 PV.dv eu dZ kc PV.one PV.ids PV.bT fJ beq_eq lQ l9
attribute [local simp] cQ bQ cw jU Eg lD CL jE jN jc ef dD
attribute [local simp ↓ high] mG ma
attribute [local simp] cQ bQ cw oL ef dD
theorem NS (q:ay→Bool):∀(l:List ay) (d:List ak),(l.foldl (tF q) d).length≤d.length+l.length
 |[],d=>Nat.le_refl _
 |x::r,d=>by
  refine Nat.le_trans (NS q r (tF q d x)) ?_
  have:(tF q d x).length≤d.length+1:=by
   unfold tF
   split
   ·split
    ·exact RN _ _
    exact Nat.le_succ _
   exact Nat.le_succ _
  rw[List.length_cons];omega
attribute [local simp] cQ bQ cw ef dD
theorem NT (c:aj)(q:ay→Bool):(gU c q).length≤(dS c).length:=by
 rw[← Sq]
 have:=NS q (dS c) []
 unfold CK
 simpa using this
end Go.Am.Sl
end
