/-
 What is used in the proof of a statement (part SlI8); no condition.
-/
import Derived.Test.YthnmgbgmlhackaaGreatDoorSlH
import Derived.Test.YthnmgbgmlhackaaGreatDoorSlI2
import Derived.Test.YthnmgbgmlhackaaGreatDoorSlI6
set_option linter.all false
set_option maxHeartbeats 40000000
set_option maxRecDepth 100000
section
namespace Go.Am.Sl
theorem zya {c:aj}(hr:Rt c){i j a b:Nat}{n:Int}{w:List ay}(h:Way (dS c) i j a b n w):n=bwd c i j - bwd c a b:=by
 induction h with
 |nil i j=>omega
 |cons x hx h ih=>
  have hg:=(List.mem_filter.1 hx)
  have h1:=z6z hr hg.1 hg.2
  have h2:=QJ hr hg.1 hg.2
  have h3:=hg.2
  unfold iH at h3
  rw[decide_eq_true_eq] at h3
  unfold eR at *
  omega
theorem zp3 {c:aj}(hr:Rt c)(p:ay→Bool):gn ((dS c).filter p) c.t.length c.c.length<cP↔fwd c p c.t.length c.c.length=eR c:=by
 have hc:Sub c (dS c):=(Sub.graph c).filter _
 have hs:=(Sub.graph c).filter p
 rw[NY hr (hc.filter p)]
 constructor
 ·rintro⟨n,w,hw⟩
  have hn:n=eR c:=by
   have:=zya hr (hw.mono fun x hx=>(List.mem_filter.1 (hw.kr x hx)).1)
   rw[DS hr,← Nk hr] at this
   omega
  have cR:Way ((graph c).filter p) 0 0 c.t.length c.c.length n w:=hw.mono fun x hx=>by
   have h1:=List.mem_filter.1 (hw.kr x hx)
   exact List.mem_filter.2 ⟨(List.mem_filter.1 h1.1).1,h1.2⟩
  have h1:=YK hr hs cR
  have h2:=(NY hr hs).2 ⟨n,w,cR⟩
  obtain⟨h3,h4⟩:=NR hr p (a:=c.t.length) (b:=c.c.length)
  have h5:=h4 (h3.1 h2)
  obtain⟨w',vE⟩:=S6 hr hs h2
  have h6:=DU hr (vE.mono (K:=graph c) fun x hx=>(List.mem_filter.1 (vE.kr x hx)).1)
  unfold eR at *
  omega
 intro h
 obtain⟨h3,h4⟩:=NR hr p (a:=c.t.length) (b:=c.c.length)
 have h0:=(Cg hr (Nat.le_refl c.t.length) (Nat.le_refl c.c.length)).2.2
 have:=hr.tl;have:=hr.cl
 have a8:fwd c p c.t.length c.c.length<iV:=by rw[h];unfold eR;simp only[iV];omega
 obtain⟨w,hw⟩:=S6 hr hs (h3.2 a8)
 rw[h4 a8,h] at hw
 have ht:=J7 hr (hw.mono (K:=graph c) fun x hx=>(List.mem_filter.1 (hw.kr x hx)).1)
 refine⟨_,w,hw.mono fun x hx=>?_⟩
 have h1:=List.mem_filter.1 (hw.kr x hx)
 exact List.mem_filter.2 ⟨List.mem_filter.2 ⟨h1.1,ht x hx⟩,h1.2⟩
theorem Ye {c:aj}(hr:Rt c)(p:ay→Bool):(Bool.or (!decide (fwd c p c.t.length c.c.length<1099511627776)) (decide (0<fwd c p c.t.length c.c.length - aS c c.t.length c.c.length)))=decide (cP≤gn ((dS c).filter p) c.t.length c.c.length):=by
 have h1:=zp3 hr p
 have h2:=YM hr p
 have h0:=(Cg hr (Nat.le_refl c.t.length) (Nat.le_refl c.c.length)).2.2
 have:=hr.tl;have:=hr.cl
 have h3:fwd c p c.t.length c.c.length=eR c↔¬(cP≤gn ((dS c).filter p) c.t.length c.c.length):=by rw[← h1];omega
 by_cases h:fwd c p c.t.length c.c.length=eR c
 ·have h4:=h3.1 h
  rw[h]
  unfold eR at *
  simp[h4]
  omega
 have h4:cP≤gn ((dS c).filter p) c.t.length c.c.length:=by
  by_cases h5:cP≤gn ((dS c).filter p) c.t.length c.c.length
  ·exact h5
  exact absurd (h3.2 h5) h
 simp only[h4,decide_true]
 unfold eR at *
 have:0<fwd c p c.t.length c.c.length - aS c c.t.length c.c.length:=by omega
 rw[decide_eq_true this]
 exact Bool.or_true _
end Go.Am.Sl
end
