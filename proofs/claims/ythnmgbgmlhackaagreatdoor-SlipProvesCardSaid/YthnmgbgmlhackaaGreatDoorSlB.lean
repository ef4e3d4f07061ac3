/-
 What is used in the proof of a statement (part SlB); no condition.
-/
import Derived.Test.YthnmgbgmlhackaaGreatDoorSlZ
import Derived.Test.YthnmgbgmlhackaaGreatDoorVm2
import Derived.Test.YthnmgbgmlhackaaGreatDoorSlT
import Derived.Test.YthnmgbgmlhackaaGreatDoorSlA
set_option linter.all false
set_option maxHeartbeats 40000000
set_option maxRecDepth 100000
section
namespace Go.Am.Sl
open Go Go.Am Go.Proofs Tryz
attribute [local simp] de fQ lz dz dN jD af.back b6 dG iO bm Nat.testBit_eq_decide_div_mod_eq ct gf jB vO kN dX kO gE cJ jR jQ kK dY kL j9 jq ly j8 kM kF kC kG kD kE kH kI jM di ig dd kP jS ka kQ kR jL ls lu dW jC dy dx dA iL dK jY jO jP gX kz a7 j7 dw bA bC ja af.get af.alloc af.put af.drop af.empty bq cg gd gR fe cp chunk List.range List.range.loop iP lA jr bI bG PV.aD PV.az PV.b8 PV.dv eu dZ kc PV.one PV.ids PV.bT fJ beq_eq lQ l9
attribute [local simp] cQ bQ cw jU
attribute [local simp ↓ high] mG ma
def tZ (c:aj)(i j:Nat):List ak:=(if j<c.c.length then [⟨1,i,j,0,c.c.getD j 0⟩] else [])++[⟨2,i,j,0,0⟩]
def sq (i j n:Nat):List ak:=(List.range n).map fun n:Nat=>⟨3,i,j,(n+1:Nat),0⟩
def tg (i j n:Nat):List ak:=(List.range n).map fun n:Nat=>⟨4,i,j,(n+1:Nat),0⟩
def ua (i j n:Nat):List ak:=(List.range n).map fun n:Nat=>⟨5,i,j,n,0⟩
theorem MV (i j n:Nat):sq i j (n+1)=sq i j n++[⟨3,i,j,(n+1:Nat),0⟩]:=by unfold sq;rw[List.range_succ,List.map_append];rfl
theorem MW (i j n:Nat):tg i j (n+1)=tg i j n++[⟨4,i,j,(n+1:Nat),0⟩]:=by unfold tg;rw[List.range_succ,List.map_append];rfl
theorem MX (i j n:Nat):ua i j (n+1)=ua i j n++[⟨5,i,j,n,0⟩]:=by unfold ua;rw[List.range_succ,List.map_append];rfl
theorem VH (c:aj)(i j:Nat):nZ c i j=tZ c i j++sq i j (c.t.length - i)++tg i j i++ua i j c.g.length++(if j<c.c.length then [⟨6,i,j,0,c.c.getD j 0⟩] else []):=rfl
theorem Fw {e:PV}(he:e.aD=true):ec (.bz [.aJ,e]) (.bz [.vec [],e]):=Js (.cons .eH (.cons (.same _ he) .nil))
theorem lD:AH prog 132=some (137,3,2):=by decide +kernel
attribute [local simp] cQ bQ cw jU lD jE jN jc ef dD
def Fx:Option ak→List PV
 |some s=>[.int .i64 s.k,.int .i64 s.a,.int .i64 s.i,.int .i64 s.l,.int .i64 s.w]
 |none=>[.int .i64 0,.int .i64 0,.int .i64 0,.int .i64 0,.int .i64 0]
def dO (x:ay):PV:=.agg ([.int .i64 x.i,.int .i64 x.j,.int .i64 x.i',.int .i64 x.j']++Fx x.s++[.int .i64 x.n,.bool x.s.isNone])
def fS (p:ay→Bool)(D:Nat→Nat→Int)(x:ay):Nat→Nat→Int:=if D x.i x.j<1099511627776∧p x=true then bh D x.i' x.j' (min (D x.i' x.j') (D x.i x.j+x.n)) else D
def gj (c:aj)(i j:Nat)(p:ay→Bool)(D:Nat→Nat→Int)(s:ak):Nat→Nat→Int:=match stepOf c i j s with
 |some x=>fS p D x
 |none=>D
noncomputable abbrev oA (y:Nat) (c:aj) (i j:Int) (x:Option Code):aO:=yZ f138 0 [(1,.vp [.int .i64 i,.int .i64 j]),(2,.vp (cu c)),(3,.ptr y 0)] x
noncomputable abbrev wM (x:Option Code):aO:=yZ f135 0 [(3,.ptr 1 0),(5,.ptr 3 0),(10,.ptr 4 0)] x
theorem VI (c:aj)(i j:Nat)(s:ak):(aM c s=none∧stepOf c i j s=none)∨(∃n i' w,aM c s=some (n,i',w)∧hasB c j w=false∧stepOf c i j s=none)∨∃n i' w,aM c s=some (n,i',w)∧hasB c j w=true∧stepOf c i j s=some ⟨i,j,i',j+w.length,n,some s⟩:=by
 unfold stepOf
 cases hd:aM c s with
 |none=>exact .inl ⟨rfl,rfl⟩
 |some x=>
  obtain⟨n,i',w⟩:=x
  cases hb:hasB c j w
  ·exact .inr (.inl ⟨n,i',w,rfl,hb,by simp[hb]⟩)
  exact .inr (.inr ⟨n,i',w,rfl,hb,by simp[hb]⟩)
variable [bE] in
theorem Fy (c:aj)(i j:Nat)(D:Nat→Nat→Int)(p:ay→Bool)(f:FuncId)(xs ys:List PV)(k l w k0 l0 w0:Int)(hk:aN c=0)(hi:i≤c.t.length)(hj:j≤c.c.length)(hD:∀a b,0≤D a b∧D a b≤1099511627776)(hx:PV.az xs=true)(hy:PV.az ys=true)(eD:∀cs w,(callFunc f cs).run prog w=.ok (.enter f cs) w)(hp:∀x:ay,aI prog f (xs++[dO x]++ys) fun r=>r=.bool (p x)):eN prog 167 [.int .i64 k,.int .i64 l,.int .i64 w,.ptr 9 0,.ptr 8 0] ⟨10,[(9,.box [.int .i64 k0,.int .i64 i,.int .i64 j,.int .i64 l0,.int .i64 w0]),(8,.box [.cm 7]),(7,oA 6 c i j none),(6,.box [.cm 5]),(5,wM none),(4,.box [.int .i64 i,.int .i64 j]),(3,.box [.a6 2]),(2,.map (aR (places c) D)),(1,.box [.func f xs ys])]⟩ fun v aq=>v=.bool true∧aq=⟨10,[(9,.box [.int .i64 k,.int .i64 i,.int .i64 j,.int .i64 l,.int .i64 w]),(8,.box [.cm 7]),(7,oA 6 c i j none),(6,.box [.cm 5]),(5,wM none),(4,.box [.int .i64 i,.int .i64 j]),(3,.box [.a6 2]),(2,.map (aR (places c) (gj c i j p D ⟨k,i,j,l,w⟩))),(1,.box [.func f xs ys])]⟩:=by
 have aP:=fC hk
 have fx:=aP.cl
 have th:j≤48:=by omega
 have dq:=Hs c ⟨k,i,j,l,w⟩ hk
 have FA:=VI c i j ⟨k,i,j,l,w⟩
 have hE:encS ⟨k,i,j,l,w⟩=.agg [.int .i64 k,.int .i64 i,.int .i64 j,.int .i64 l,.int .i64 w]:=rfl
 have hC:cu c=(cQ c):=rfl
 have iR:=hD i j
 have nj:mH [.int .i64 i,.int .i64 j] (aR (places c) D)=some (some (.int .i64 (D i j))):=by
  have:=xP i j D (places c)
  rw[if_pos (xQ.2 ⟨hi,hj⟩)] at this
  exact this
 obtain⟨d0,n3⟩:∃d,D i j=d:=⟨_,rfl⟩
 obtain⟨e0,bR⟩:∃b,decide (d0<1099511627776)=b:=⟨_,rfl⟩
 rw[n3] at nj iR
 rw[hE] at dq
 unfold aA at dq
 refine .bJ func167 rfl rfl ?_
 rcases FA with⟨hd,cS⟩|⟨n,i',wr,hd,hb,cS⟩|⟨n,i',wr,hd,hb,cS⟩
 ·
  have ho:gj c i j p D ⟨k,i,j,l,w⟩=D:=by unfold gj;rw[cS]
  rw[B5 hd] at dq
  unfold jT at dq
  rw[ho]
  refine .sr ?_
  refine .sr ?_
  refine .seq (.ar dQ rfl ae (.rn [0,1] _ ?_))
  refine .step rfl rfl (.yield rfl rfl rfl rfl rfl (by decide) rfl ?_)
  refine .rn ?_
  refine .block (.seq (.ar kf rfl ae (.rn [0,1] _ ?_)))
  refine .pc rfl rfl rfl rfl rfl call95 (dq) ?_
  refine .rn [3,4,5,6,7,8,9,10,11,12] [] ?_
  refine .done (.seq (.ar qB rfl ae ?_))
  refine .rn [0,1] _ ?_
  refine .split (t:=63) rfl (fun iS=>?_) (fun iS=>?_)
  ·try subst iS
   try simp at iS
  try subst iS
  try simp at iS
  refine .rn [2,3,4,5,6,7,8,9,10,11,12,13,14,15,16,17] [] ?_
  refine .done (.gI rfl (.skip ?_))
  change cq _ _ _ _ _ _ _ _
  refine .rn [3] [] ?_
  refine .done ?_
  refine .rec (aF:=[(8,.bool true)]) (aZ:=⟨10,[(9,.box [.int .i64 k,.int .i64 i,.int .i64 j,.int .i64 l,.int .i64 w]),(8,.box [.cm 7]),(7,oA 6 c i j none),(6,.box [.cm 5]),(5,wM none),(4,.box [.int .i64 i,.int .i64 j]),(3,.box [.a6 2]),(2,.map (aR (places c) D)),(1,.box [.func f xs ys])]⟩) (.mk [] [] Jt Ju rfl rfl rfl) ?_
  refine .ret ?_
  exact⟨_,jF,rfl,rfl⟩
 ·
  have ho:gj c i j p D ⟨k,i,j,l,w⟩=D:=by unfold gj;rw[cS]
  rw[AU hd] at dq
  unfold jT at dq
  rw[ho]
  have qV:=(nI aP hd).2.2.2.2.2
  have n4:=wL c wr j fx (by omega)
  rw[hb] at n4
  unfold aA at n4
  refine .sr ?_
  refine .sr ?_
  refine .seq (.ar dQ rfl ae (.rn [0,1] _ ?_))
  refine .step rfl rfl (.yield rfl rfl rfl rfl rfl (by decide) rfl ?_)
  refine .rn ?_
  refine .block (.seq (.ar kf rfl ae (.rn [0,1] _ ?_)))
  refine .pc rfl rfl rfl rfl rfl call95 (dq) ?_
  refine .rn [3,4,5,6,7,8,9,10,11,12] [] ?_
  refine .done (.seq (.ar qB rfl ae ?_))
  refine .rn [0,1] _ ?_
  refine .split (t:=63) rfl (fun iS=>?_) (fun iS=>?_)
  ·try subst iS
   try simp at iS
   refine .rn [2,3,4,5] _ ?_
   refine .pc rfl rfl rfl rfl rfl call96 (n4) ?_
   refine .rn [7,8] _ ?_
   refine .split (t:=70) rfl (fun iT=>?_) (fun iT=>?_)
   ·try subst iT
    try simp at iT
   try subst iT
   try simp at iT
   refine .rn [9,10,11,12,13,14,15,16,17] [] ?_
   refine .done (.gI rfl (.skip ?_))
   change cq _ _ _ _ _ _ _ _
   refine .rn [3] [] ?_
   refine .done ?_
   refine .rec (aF:=[(8,.bool true)]) (aZ:=⟨10,[(9,.box [.int .i64 k,.int .i64 i,.int .i64 j,.int .i64 l,.int .i64 w]),(8,.box [.cm 7]),(7,oA 6 c i j none),(6,.box [.cm 5]),(5,wM none),(4,.box [.int .i64 i,.int .i64 j]),(3,.box [.a6 2]),(2,.map (aR (places c) D)),(1,.box [.func f xs ys])]⟩) (.mk [] [] Jt Ju rfl rfl rfl) ?_
   refine .ret ?_
   exact⟨_,jF,rfl,rfl⟩
  try subst iS
  try simp at iS
 ·
  have ho:gj c i j p D ⟨k,i,j,l,w⟩=fS p D ⟨i,j,i',j+wr.length,n,some ⟨k,i,j,l,w⟩⟩:=by unfold gj;rw[cS]
  rw[AU hd] at dq
  unfold jT at dq
  rw[ho]
  have gZ:=nI aP hd
  have qV:=gZ.2.2.2.2.2
  have DN:=gZ.1
  have A0:i'≤c.t.length:=gZ.2.2.2.1
  have n4:=wL c wr j fx (by omega)
  have fh:j+wr.length≤c.c.length:=by unfold hasB at hb;rw[bW,decide_eq_true_eq] at hb;exact hb.1
  rw[hb] at n4
  unfold aA at n4
  obtain⟨j1,FB⟩:∃j1,j+wr.length=j1:=⟨_,rfl⟩
  have y0:IntKind.i64.wrap ((j:Int)+(wr.length:Int))=(j1:Int):=by rw[wrap64 (by omega) (by omega)];omega
  rw[FB] at fh ⊢
  simp only[y0] at dq
  have ub:=hp ⟨i,j,i',j1,n,some ⟨k,i,j,l,w⟩⟩
  have Cd:dO ⟨i,j,i',j1,n,some ⟨k,i,j,l,w⟩⟩=.agg [.int .i64 i,.int .i64 j,.int .i64 i',.int .i64 j1,.int .i64 k,.int .i64 i,.int .i64 j,.int .i64 l,.int .i64 w,.int .i64 n,.bool false]:=rfl
  rw[Cd] at ub
  obtain⟨pv,Hv⟩:∃b,p ⟨i,j,i',j1,n,some ⟨k,i,j,l,w⟩⟩=b:=⟨_,rfl⟩
  rw[Hv] at ub
  have lE:=hD i' j1
  have uQ:mH [.int .i64 i',.int .i64 j1] (aR (places c) D)=some (some (.int .i64 (D i' j1))):=by
   have:=xP i' j1 D (places c)
   rw[if_pos (xQ.2 ⟨A0,fh⟩)] at this
   exact this
  have rN:∀v,rO [.int .i64 i',.int .i64 j1] [.int .i64 i',.int .i64 j1] (.int .i64 v) (aR (places c) D)=some (aR (places c) (bh D i' j1 v)):=fun v=>Hw (xQ.2 ⟨A0,fh⟩) v
  have uR:fS p D ⟨i,j,i',j1,n,some ⟨k,i,j,l,w⟩⟩=if d0<1099511627776∧pv=true then bh D i' j1 (min (D i' j1) (d0+n)) else D:=by unfold fS;simp only[n3,Hv]
  rw[uR]
  obtain⟨d1,mB⟩:∃d,D i' j1=d:=⟨_,rfl⟩
  rw[mB] at uQ lE ⊢
  have Ft:IntKind.i64.wrap (d0+n)=d0+n:=wrap64 (by omega) (by omega)
  clear hD y0 ho cS hE hb hd gZ qV
  refine .sr ?_
  refine .sr ?_
  refine .seq (.ar dQ rfl ae (.rn [0,1] _ ?_))
  refine .step rfl rfl (.yield rfl rfl rfl rfl rfl (by decide) rfl ?_)
  refine .rn ?_
  refine .block (.seq (.ar kf rfl ae (.rn [0,1] _ ?_)))
  refine .pc rfl rfl rfl rfl rfl call95 (dq) ?_
  refine .rn [3,4,5,6,7,8,9,10,11,12] [] ?_
  refine .done (.seq (.ar qB rfl ae ?_))
  refine .rn [0,1] _ ?_
  refine .split (t:=63) rfl (fun iS=>?_) (fun iS=>?_)
  ·try subst iS
   try simp at iS
   refine .rn [2,3,4,5] _ ?_
   refine .pc rfl rfl rfl rfl rfl call96 (n4) ?_
   refine .rn [7,8] _ ?_
   refine .split (t:=70) rfl (fun iT=>?_) (fun iT=>?_)
   ·try subst iT
    try simp at iT
    refine .rn [9,10,11,12,13,14] _ ?_
    refine .step rfl rfl (.yield rfl rfl rfl rfl rfl (by decide) rfl ?_)
    refine .rn ?_
    refine .block (.seq (.ar oT rfl ae (.rn fR _ ?_)))
    refine .split (t:=60) rfl (fun gu=>?_) (fun gu=>?_)
    ·try subst gu
     try simp at gu
     have a8:d0<1099511627776:=by simpa using bR
     refine .rn [5,6] _ ?_
     refine .step rfl rfl (.pure rfl rfl rfl eD (by decide) (ub) (by first|rfl|simp[*]) ?_)
     rintro _ rfl
     refine .rn [8] [] ?_
     refine .done ?_
     refine .cs ?_ ?_<;>intro q8
     ·try simp at q8
      rw[if_pos ⟨a8,q8⟩]
      have rG:(if d0+n<d1 then d0+n else d1)=min d1 (d0+n):=by split<;>omega
      refine .drawn (ms:=[0,0,2,0,0,16,56,0,0,384,0,1024,3968,8184,16383]) (W:=[14]) (items:=P4) rfl ae ae ae ?_
      iterate 14 refine .rx ?_
      refine .wv ?_
      refine .done ?_
      change cq _ _ _ _ _ _ _ _
      refine .rn [16,17] [] ?_
      refine .done (.gI rfl (.skip ?_))
      change cq _ _ _ _ _ _ _ _
      refine .rn [3] [] ?_
      refine .done ?_
      refine .rec (aF:=[(8,.bool true)]) (aZ:=⟨10,[(9,.box [.int .i64 k,.int .i64 i,.int .i64 j,.int .i64 l,.int .i64 w]),(8,.box [.cm 7]),(7,oA 6 c i j none),(6,.box [.cm 5]),(5,wM none),(4,.box [.int .i64 i,.int .i64 j]),(3,.box [.a6 2]),(2,.map (aR (places c) (bh D i' j1 (min d1 (d0+n))))),(1,.box [.func f xs ys])]⟩) (.mk [] [] Jt Ju rfl rfl rfl) ?_
      refine .ret ?_
      exact⟨_,jF,rfl,rfl⟩
     try simp at q8
     rw[if_neg (fun hh=>by rw[q8] at hh;cases hh.2)]
     refine .skip ?_
     change cq _ _ _ _ _ _ _ _
     refine .rn [16,17] [] ?_
     refine .done (.gI rfl (.skip ?_))
     change cq _ _ _ _ _ _ _ _
     refine .rn [3] [] ?_
     refine .done ?_
     refine .rec (aF:=[(8,.bool true)]) (aZ:=⟨10,[(9,.box [.int .i64 k,.int .i64 i,.int .i64 j,.int .i64 l,.int .i64 w]),(8,.box [.cm 7]),(7,oA 6 c i j none),(6,.box [.cm 5]),(5,wM none),(4,.box [.int .i64 i,.int .i64 j]),(3,.box [.a6 2]),(2,.map (aR (places c) D)),(1,.box [.func f xs ys])]⟩) (.mk [] [] Jt Ju rfl rfl rfl) ?_
     refine .ret ?_
     exact⟨_,jF,rfl,rfl⟩
    try subst gu
    try simp at gu
    rw[if_neg (fun hh=>by simp[hh.1] at bR)]
    refine .rn [5,6,7,8] [] ?_
    refine .done (.gI rfl (.skip ?_))
    change cq _ _ _ _ _ _ _ _
    refine .rn [16,17] [] ?_
    refine .done (.gI rfl (.skip ?_))
    change cq _ _ _ _ _ _ _ _
    refine .rn [3] [] ?_
    refine .done ?_
    refine .rec (aF:=[(8,.bool true)]) (aZ:=⟨10,[(9,.box [.int .i64 k,.int .i64 i,.int .i64 j,.int .i64 l,.int .i64 w]),(8,.box [.cm 7]),(7,oA 6 c i j none),(6,.box [.cm 5]),(5,wM none),(4,.box [.int .i64 i,.int .i64 j]),(3,.box [.a6 2]),(2,.map (aR (places c) D)),(1,.box [.func f xs ys])]⟩) (.mk [] [] Jt Ju rfl rfl rfl) ?_
    refine .ret ?_
    exact⟨_,jF,rfl,rfl⟩
   try subst iT
   try simp at iT
  try subst iS
  try simp at iS
def lT (D:Nat→Nat→Int):Prop:=∀a b,0≤D a b∧D a b≤1099511627776
theorem P5 {D:Nat→Nat→Int}{p:ay→Bool}{x:ay}(h:lT D)(hn:0≤x.n):lT (fS p D x):=fun a b=>by
 unfold fS
 split
 ·rename_i hh
  unfold bh
  have h1:=h x.i x.j
  have h2:=h x.i' x.j'
  split
  ·omega
  exact h a b
 exact h a b
theorem VJ {c:aj}(hr:Rt c){i j:Nat}{D:Nat→Nat→Int}{p:ay→Bool}{s:ak}(h:lT D):lT (gj c i j p D s):=by
 unfold gj
 cases hs:stepOf c i j s with
 |none=>exact h
 |some x=>
  refine P5 h ?_
  unfold stepOf at hs
  cases hd:aM c s with
  |none=>rw[hd] at hs;cases hs
  |some y=>
   obtain⟨n,i',w⟩:=y
   rw[hd] at hs
   simp only at hs
   split at hs
   ·cases hs
    have:=(nI hr hd).1
    show 0≤n
    omega
   cases hs
theorem Jv {c:aj}(hr:Rt c){i j:Nat}{p:ay→Bool}:∀(l:List ak) {D:Nat→Nat→Int},lT D→lT (l.foldl (gj c i j p) D)
 |[],_,h=>h
 |s::r,_,h=>Jv hr r (VJ hr h)
theorem VK {c:aj}{i j:Nat}{p:ay→Bool}:∀(l:List ak) (D:Nat→Nat→Int),l.foldl (gj c i j p) D=(l.filterMap (stepOf c i j)).foldl (fS p) D
 |[],_=>rfl
 |s::r,D=>by
  rw[List.foldl_cons,VK r,List.filterMap_cons]
  unfold gj
  cases stepOf c i j s<;>rfl
def cO (c:aj)(i j:Nat):List ay:=if i<c.t.length∧j<c.c.length∧c.t.getD i 0=c.c.getD j 0 then [⟨i,j,i+1,j+1,0,none⟩] else []
theorem zyi (c:aj)(i j:Nat)(p:ay→Bool)(D:Nat→Nat→Int):(steps c i j).foldl (fS p) D=(nZ c i j).foldl (gj c i j p) ((cO c i j).foldl (fS p) D):=by
 rw[VK];unfold steps cO;rw[List.foldl_append]
theorem xdl {c:aj}{i j:Nat}{p:ay→Bool}{D:Nat→Nat→Int}(h:lT D):lT ((cO c i j).foldl (fS p) D):=by
 unfold cO
 split
 ·exact P5 h (by simp)
 exact h
def uS (c:aj)(p:ay→Bool)(i j:Nat):Nat→Nat→Int:=((mI (c.c.length+1) i j).flatMap fun q=>steps c q.1 q.2).foldl (fS p) (bh (fun _ _=>1099511627776) 0 0 0)
def fwd (c:aj)(p:ay→Bool):Nat→Nat→Int:=(graph c).foldl (fS p) (bh (fun _ _=>1099511627776) 0 0 0)
theorem xng (c:aj)(p:ay→Bool):uS c p 0 0=bh (fun _ _=>1099511627776) 0 0 0:=rfl
theorem z7m (c:aj)(p:ay→Bool)(i j:Nat):uS c p i (j+1)=(steps c i j).foldl (fS p) (uS c p i j):=by
 unfold uS;rw[Jw,List.flatMap_append,List.foldl_append];simp
theorem xc5 (c:aj)(p:ay→Bool)(i:Nat):uS c p i (c.c.length+1)=uS c p (i+1) 0:=by unfold uS;rw[Jx]
theorem VL (c:aj)(p:ay→Bool):uS c p (c.t.length+1) 0=fwd c p:=by unfold uS fwd graph;rw[Hx]
theorem xni:lT (bh (fun _ _=>1099511627776) 0 0 0):=fun a b=>by
 unfold bh
 split
 ·exact⟨by decide,by decide⟩
 show (0:Int)≤1099511627776∧(1099511627776:Int)≤1099511627776
 decide
theorem VM {p:ay→Bool}:∀(l:List ay) {D:Nat→Nat→Int},(∀x∈l,0≤x.n)→lT D→lT (l.foldl (fS p) D)
 |[],_,_,h=>h
 |x::r,_,hx,h=>VM r (fun y hy=>hx y (List.mem_cons_of_mem _ hy)) (P5 h (hx x List.mem_cons_self))
theorem VN {c:aj}(hr:Rt c)(p:ay→Bool)(i j:Nat):lT (uS c p i j):=by
 unfold uS
 refine VM _ (fun x hx=>?_) xni
 obtain⟨q,_,hq⟩:=List.mem_flatMap.1 hx
 exact(iz hr hq).n0
theorem z6d (i j:Nat):bh (fun _ _=>(1099511627776:Int)) i j 1099511627776=fun _ _=>1099511627776:=by
 funext a b;unfold bh;split<;>rfl
theorem xby {m i j:Nat}:rO [.int .i64 i,.int .i64 j] [.int .i64 i,.int .i64 j] (.int .i64 1099511627776) (aR (mI m i j) fun _ _=>1099511627776)=some (aR (mI m i (j+1)) fun _ _=>1099511627776):=by
 have:=Hy (a:=i) (b:=j) (D:=fun _ _=>1099511627776) (ps:=mI m i j) (by rw[P6];omega) 1099511627776
 rw[z6d,← Jw] at this
 exact this
theorem xlf {c:aj}:rO [.int .i64 0,.int .i64 0] [.int .i64 0,.int .i64 0] (.int .i64 0) (aR (places c) fun _ _=>1099511627776)=some (aR (places c) (bh (fun _ _=>1099511627776) 0 0 0)):=
 Hw (a:=0) (b:=0) (xQ.2 ⟨Nat.zero_le _,Nat.zero_le _⟩) 0
variable [bE] in
theorem Jy (c:aj)(p:ay→Bool)(f:FuncId)(xs ys:List PV)(hk:aN c=0)(hx:PV.az xs=true)(hy:PV.az ys=true)(eD:∀cs w,(callFunc f cs).run prog w=.ok (.enter f cs) w)(hp:∀x:ay,aI prog f (xs++[dO x]++ys) fun r=>r=.bool (p x)):aI prog 135 [aA c,.func f xs ys] fun r=>r=.aG (aR (places c) (fwd c p)):=by
 have aP:=fC hk
 have nY:=aP.tl
 have fx:=aP.cl
 have tX:=aP.yV
 have hC:cu c=(cQ c):=rfl
 have xB:IntKind.i64.wrap ((c.t.length:Int)+1)=(c.t.length:Int)+1:=wrap64 (by omega) (by omega)
 have lr:IntKind.i64.wrap ((c.c.length:Int)+1)=(c.c.length:Int)+1:=wrap64 (by omega) (by omega)
 have MY:mI (c.c.length+1) 0 0=[]:=rfl
 have nR:aR [] (fun _ _=>1099511627776)=[]:=rfl
 have VO:∀vh,bG vh xs=some xs:=fun vh=>y1 vh hx
 have VP:∀vh,bG vh ys=some ys:=fun vh=>y1 vh hy
 have mW:=@xlf c
 have nJ:=fun i j:Nat=>Jq c i j
 have uT:=fun i j:Nat=>Jr c i j
 unfold aA at nJ uT ⊢
 unfold jT at nJ uT
 rw[hC] at nJ uT ⊢
 refine .bJ func135 rfl rfl ?_
 refine .sr ?_
 refine .sr ?_
 refine .seq (.sr ?_)
 refine .block ?_
 refine .cZ (fun i:Nat=>([(2,.ptr 0 0),(3,.ptr 1 0),(5,.ptr 3 0),(16,.int .i64 ((c.t.length:Int)+1)),(17,.int .i64 i)],⟨4,[(3,.box [.a6 2]),(2,.map (aR (mI (c.c.length+1) i 0) (fun _ _=>1099511627776))),(1,.box [.func f xs ys]),(0,.box (cQ c))]⟩)) (fun i=>i≤c.t.length+1) (fun i=>c.t.length+1 - i) 0 (by simp) (by simp only[MY,nR];exact aX) ?_
 rintro i hi
 simp only at hi ⊢
 refine .sr ?_
 refine .seq ?_
 refine .cs ?_ ?_<;>intro nu
 ·try simp at nu
  have cR:=iQ i
  refine .skip (.seq (.block (.sr ?_)))
  refine .sr ?_
  refine .block ?_
  refine .cZ (fun j:Nat=>([(2,.ptr 0 0),(3,.ptr 1 0),(5,.ptr 3 0),(6,.int .i64 i),(16,.int .i64 ((c.t.length:Int)+1)),(17,.int .i64 i),(23,.int .i64 ((c.c.length:Int)+1)),(24,.int .i64 j)],⟨4,[(3,.box [.a6 2]),(2,.map (aR (mI (c.c.length+1) i j) (fun _ _=>1099511627776))),(1,.box [.func f xs ys]),(0,.box (cQ c))]⟩)) (fun j=>j≤c.c.length+1) (fun j=>c.c.length+1 - j) 0 (by simp) aX ?_
  rintro j hj
  simp only at hj ⊢
  refine .sr ?_
  refine .seq ?_
  refine .cs ?_ ?_<;>intro gx
  ·try simp at gx
   have sh:=iQ j
   have Dw:=@xby (c.c.length+1) i j
   refine .skip (.seq (.block (.sr ?_)))
   refine .rn ?_
   refine .rn ?_
   refine⟨j+1,ba,ba,aX⟩
  try simp at gx
  obtain rfl:j=c.c.length+1:=by omega
  refine .exit (.rn ?_)
  refine⟨i+1,ba,ba,by rw[← Jx];exact aX⟩
 try simp at nu
 obtain rfl:i=c.t.length+1:=by omega
 rw[Hx]
 refine .exit (.sr ?_)
 refine .seq (.sr ?_)
 refine .block ?_
 refine .cZ (fun i:Nat=>([(2,.ptr 0 0),(3,.ptr 1 0),(5,.ptr 3 0),(38,.int .i64 ((c.t.length:Int)+1)),(39,.int .i64 i)],⟨4,[(3,.box [.a6 2]),(2,.map (aR (places c) (uS c p i 0))),(1,.box [.func f xs ys]),(0,.box (cQ c))]⟩)) (fun i=>i≤c.t.length+1) (fun i=>c.t.length+1 - i) 0 (by simp) (by simp only[xng];exact aX) ?_
 rintro i hi
 simp only at hi ⊢
 refine .sr ?_
 refine .seq ?_
 refine .cs ?_ ?_<;>intro jW
 ·try simp at jW
  have cR:=iQ i
  have oU:i≤c.t.length:=by omega
  refine .skip (.seq (.block (.sr ?_)))
  refine .sr ?_
  refine .block ?_
  refine .cZ (fun j:Nat=>([(2,.ptr 0 0),(3,.ptr 1 0),(5,.ptr 3 0),(8,.int .i64 i),(38,.int .i64 ((c.t.length:Int)+1)),(39,.int .i64 i),(45,.int .i64 ((c.c.length:Int)+1)),(46,.int .i64 j)],⟨4,[(3,.box [.a6 2]),(2,.map (aR (places c) (uS c p i j))),(1,.box [.func f xs ys]),(0,.box (cQ c))]⟩)) (fun j=>j≤c.c.length+1) (fun j=>c.c.length+1 - j) 0 (by simp) aX ?_
  rintro j hj
  simp only at hj ⊢
  refine .sr ?_
  refine .seq ?_
  refine .cs ?_ ?_<;>intro Hq
  ·try simp at Hq
   have sh:=iQ j
   have qg:j≤c.c.length:=by omega
   have dp:=z7m c p i j
   rw[zyi,VH] at dp
   have hD:=VN aP p i j
   obtain⟨D,xR⟩:∃D,uS c p i j=D:=⟨_,rfl⟩
   rw[xR] at dp hD ⊢
   have qe:¬(i<c.t.length∧j<c.c.length∧c.t.getD i 0=c.c.getD j 0)→(cO c i j).foldl (fS p) D=D:=fun h=>by unfold cO;rw[if_neg h];rfl
   have q9:i<c.t.length∧j<c.c.length∧c.t.getD i 0=c.c.getD j 0→(cO c i j).foldl (fS p) D=fS p D ⟨i,j,i+1,j+1,0,none⟩:=fun h=>by unfold cO;rw[if_pos h];rfl
   have kh:lT ((cO c i j).foldl (fS p) D):=xdl hD
   obtain⟨D1,lE⟩:∃D1,(cO c i j).foldl (fS p) D=D1:=⟨_,rfl⟩
   rw[lE] at dp qe q9 kh
   have iR:=hD i j
   have nj:mH [.int .i64 i,.int .i64 j] (aR (places c) D)=some (some (.int .i64 (D i j))):=by
    have:=xP i j D (places c)
    rw[if_pos (xQ.2 ⟨oU,qg⟩)] at this
    exact this
   obtain⟨d0,n3⟩:∃d,D i j=d:=⟨_,rfl⟩
   rw[n3] at nj iR
   obtain⟨e0,bR⟩:∃b,decide (i<c.t.length)=b:=⟨_,rfl⟩
   obtain⟨e1,jV⟩:∃b,decide (j<c.c.length)=b:=⟨_,rfl⟩
   obtain⟨e2,AV⟩:∃b,decide (d0<1099511627776)=b:=⟨_,rfl⟩
   have ub:=hp ⟨i,j,i+1,j+1,0,none⟩
   have Cd:dO ⟨i,j,i+1,j+1,0,none⟩=.agg [.int .i64 i,.int .i64 j,.int .i64 ((i:Int)+1),.int .i64 ((j:Int)+1),.int .i64 0,.int .i64 0,.int .i64 0,.int .i64 0,.int .i64 0,.int .i64 0,.bool true]:=rfl
   rw[Cd] at ub
   obtain⟨pv,Hv⟩:∃b,p ⟨i,j,i+1,j+1,0,none⟩=b:=⟨_,rfl⟩
   rw[Hv] at ub
   have uR:fS p D ⟨i,j,i+1,j+1,0,none⟩=if d0<1099511627776∧pv=true then bh D (i+1) (j+1) (min (D (i+1) (j+1)) d0) else D:=by unfold fS;simp only[n3,Hv,Int.add_zero]
   rw[uR] at q9
   have VQ:=hD (i+1) (j+1)
   obtain⟨d1,mB⟩:∃d,D (i+1) (j+1)=d:=⟨_,rfl⟩
   rw[mB] at q9 VQ
   have Ft:IntKind.i64.wrap d0=d0:=wrap64 (by omega) (by omega)
   obtain⟨cv,jn⟩:∃v,c.c.getD j 0=v:=⟨_,rfl⟩
   rw[jn] at qe q9 dp
   obtain⟨tv,rL⟩:∃v,c.t.getD i 0=v:=⟨_,rfl⟩
   rw[rL] at qe q9
   obtain⟨A,hA⟩:∃A,(tZ c i j).foldl (gj c i j p) D1=A:=⟨_,rfl⟩
   have hAk:lT A:=hA▸Jv aP _ kh
   obtain⟨XL,Hz⟩:∃X:Nat→Nat→Nat→Int,∀n,X n=(sq i j n).foldl (gj c i j p) A:=⟨_,fun _=>rfl⟩
   obtain⟨XT,HA⟩:∃X:Nat→Nat→Nat→Int,∀n,X n=(tg i j n).foldl (gj c i j p) (XL (c.t.length - i)):=⟨_,fun _=>rfl⟩
   obtain⟨XG,HB⟩:∃X:Nat→Nat→Nat→Int,∀n,X n=(ua i j n).foldl (gj c i j p) (XT i):=⟨_,fun _=>rfl⟩
   have Jz:∀n,lT (XL n):=fun n=>by rw[Hz];exact Jv aP _ hAk
   have JA:∀n,lT (XT n):=fun n=>by rw[HA];exact Jv aP _ (Jz _)
   have JB:∀n,lT (XG n):=fun n=>by rw[HB];exact Jv aP _ (JA _)
   have P7:XL 0=A:=Hz 0
   have P8:XT 0=XL (c.t.length - i):=HA 0
   have P9:XG 0=XT i:=HB 0
   have Qa:∀n:Nat,gj c i j p (XL n) ⟨3,i,j,(n:Int)+1,0⟩=XL (n+1):=fun n=>by rw[Hz (n+1),MV,List.foldl_append,← Hz];rfl
   have Qb:∀n:Nat,gj c i j p (XT n) ⟨4,i,j,(n:Int)+1,0⟩=XT (n+1):=fun n=>by rw[HA (n+1),MW,List.foldl_append,← HA];rfl
   have Qc:∀n:Nat,gj c i j p (XG n) ⟨5,i,j,(n:Int),0⟩=XG (n+1):=fun n=>by rw[HB (n+1),MX,List.foldl_append,← HB];rfl
   have cT:(if j<c.c.length then gj c i j p (XG c.g.length) ⟨6,i,j,0,cv⟩ else XG c.g.length)=uS c p i (j+1):=by
    rw[dp,List.foldl_append,List.foldl_append,List.foldl_append,List.foldl_append,hA,← Hz,← HA,← HB]
    split<;>rfl
   have nK:j<c.c.length→gj c i j p (gj c i j p D1 ⟨1,i,j,0,cv⟩) ⟨2,i,j,0,0⟩=A:=fun h=>by
    rw[← hA];unfold tZ;rw[if_pos h,jn];rfl
   have FC:¬j<c.c.length→gj c i j p D1 ⟨2,i,j,0,0⟩=A:=fun h=>by
    rw[← hA];unfold tZ;rw[if_neg h];rfl
   clear Hz HA HB hA dp xR Cd uR lE
   refine .skip (.seq (.block (.sr ?_)))
   refine .sr ?_
   refine .seq (.ar [0,1,2] rfl ae (.rn [0,1] _ ?_))
   refine .pc rfl rfl rfl rfl rfl call79 (nJ i j) ?_
   refine .done (.block ?_)
   refine .rangeFunc rfl call138 func138 rfl rfl rfl ?_
   refine .sr ?_
   refine .join (fun _:Unit=>([(1,.vp [.int .i64 i,.int .i64 j]),(2,.vp (cu c)),(3,.ptr 6 0)],⟨7,[(6,.box [.cm 5]),(5,wM none),(4,.box [.int .i64 i,.int .i64 j]),(3,.box [.a6 2]),(2,.map (aR (places c) (D1))),(1,.box [.func f xs ys]),(0,.box (cQ c))]⟩)) (fun _=>True) ?_ ?_
   ·skip
    refine .seq ?_
    refine .drawn (ms:=[0,1,0,4,12,31,63,127,255,127,639,1663,4095,8191,16383,32767,65535,32767,163839,524287,1048575,32767,2129919,32767,8421375,31490047,65044479,134217727,268435455]) (W:=[]) (items:=HC) rfl ae ae ae ?_
    iterate 7 refine .rx ?_
    refine .split (t:=15) rfl (fun dj=>?_) (fun dj=>?_)
    ·try subst dj
     try simp at dj
     iterate 8 refine .rx ?_
     refine .split (t:=23) rfl (fun hP=>?_) (fun hP=>?_)
     ·try subst hP
      try simp at hP
      have A0:i<c.t.length:=by simpa using bR
      have fh:j<c.c.length:=by simpa using jV
      have HD:c.t[i]=tv:=by rw[← rL,List.getD_eq_getElem?_getD,List.getElem?_eq_getElem A0];rfl
      have hgc:c.c[j]=cv:=by rw[← jn,List.getD_eq_getElem?_getD,List.getElem?_eq_getElem fh];rfl
      iterate 14 refine .rx ?_
      refine .done ?_
      refine .cs ?_ ?_<;>intro oB
      ·try simp at oB
       have q9:=q9 ⟨A0,fh,oB⟩
       have uQ:mH [.int .i64 ((i:Int)+1),.int .i64 ((j:Int)+1)] (aR (places c) D)=some (some (.int .i64 d1)):=by
        have:=xP (i+1) (j+1) D (places c)
        rw[if_pos (xQ.2 ⟨A0,fh⟩),mB] at this
        exact this
       have rN:∀v,rO [.int .i64 ((i:Int)+1),.int .i64 ((j:Int)+1)] [.int .i64 ((i:Int)+1),.int .i64 ((j:Int)+1)] (.int .i64 v) (aR (places c) D)=some (aR (places c) (bh D (i+1) (j+1) v)):=fun v=>Hw (xQ.2 ⟨A0,fh⟩) v
       have rG:(if d0<d1 then d0 else d1)=min d1 d0:=by split<;>omega
       refine .seq (.ar qz rfl ae (.rn gh _ ?_))
       refine .step rfl rfl (.yield rfl rfl rfl rfl rfl (by decide) rfl ?_)
       refine .rn ?_
       refine .block (.seq (.ar oT rfl ae (.rn fR _ ?_)))
       refine .split (t:=60) rfl (fun gu=>?_) (fun gu=>?_)
       ·try subst gu
        try simp at gu
        have a8:d0<1099511627776:=by simpa using AV
        refine .rn [5,6] _ ?_
        refine .step rfl rfl (.pure rfl rfl rfl eD (by decide) (ub) (by first|rfl|simp[*]) ?_)
        rintro _ rfl
        refine .rn [8] [] ?_
        refine .done ?_
        refine .cs ?_ ?_<;>intro q8
        ·try simp at q8
         rw[if_pos ⟨a8,q8⟩] at q9
         refine .drawn (ms:=[0,0,2,0,0,16,56,0,0,384,0,1024,3968,8184,16383]) (W:=[14]) (items:=P4) rfl ae ae ae ?_
         iterate 14 refine .rx ?_
         refine .wv ?_
         refine .done ?_
         change cq _ _ _ _ _ _ _ _
         refine .rn [11] [] ?_
         refine .done (.gI rfl (.skip ?_))
         refine⟨(),trivial,by rw[q9];exact(.mk [] [] uU mc rfl rfl rfl)⟩
        try simp at q8
        rw[if_neg (fun hh=>by rw[q8] at hh;cases hh.2)] at q9
        refine .skip ?_
        change cq _ _ _ _ _ _ _ _
        refine .rn [11] [] ?_
        refine .done (.gI rfl (.skip ?_))
        refine⟨(),trivial,by rw[q9];exact(.mk [] [] uU mc rfl rfl rfl)⟩
       try subst gu
       try simp at gu
       rw[if_neg (fun hh=>by simp[hh.1] at AV)] at q9
       refine .rn [5,6,7,8] [] ?_
       refine .done (.gI rfl (.skip ?_))
       change cq _ _ _ _ _ _ _ _
       refine .rn [11] [] ?_
       refine .done (.gI rfl (.skip ?_))
       refine⟨(),trivial,by rw[q9];exact(.mk [] [] uU mc rfl rfl rfl)⟩
      try simp at oB
      have q9:=qe (fun hh=>oB hh.2.2)
      refine .skip ?_
      refine⟨(),trivial,by rw[q9];exact(.mk [] [] uU mc rfl rfl rfl)⟩
     try subst hP
     try simp at hP
     have q9:=qe (fun hh=>by simp[hh.2.1] at jV)
     iterate 13 refine .ux ?_
     refine .rx ?_
     refine .done (.gI rfl (.skip ?_))
     refine⟨(),trivial,by rw[q9];exact(.mk [] [] uU mc rfl rfl rfl)⟩
    try subst dj
    try simp at dj
    have q9:=qe (fun hh=>by simp[hh.1] at bR)
    iterate 6 refine .ux ?_
    iterate 2 refine .rx ?_
    iterate 13 refine .ux ?_
    refine .rx ?_
    refine .done (.gI rfl (.skip ?_))
    refine⟨(),trivial,by rw[q9];exact(.mk [] [] uU mc rfl rfl rfl)⟩
   skip
   rintro _ _
   simp only
   clear qe q9 ub Hv nj iR VQ n3 mB Ft AV rL e2 d0 d1 pv tv hD
   refine .seq (.ar [0,1,2] rfl ae (.rn [0,1] _ ?_))
   refine .pc rfl rfl rfl rfl rfl call139 (uT i j) ?_
   refine .done (.block ?_)
   refine .rangeFunc rfl call166 func166 rfl rfl rfl ?_
   refine .sr ?_
   refine .sr ?_
   refine .sr ?_
   refine .join (fun _:Unit=>([(1,.vp [.int .i64 i,.int .i64 j]),(2,.vp (cu c)),(5,.func 167 [] [.ptr 9 0,.ptr 8 0])],⟨10,[(9,.box [.int .i64 2,.int .i64 i,.int .i64 j,.int .i64 0,.int .i64 0]),(8,.box [.cm 7]),(7,oA 6 c i j none),(6,.box [.cm 5]),(5,wM none),(4,.box [.int .i64 i,.int .i64 j]),(3,.box [.a6 2]),(2,.map (aR (places c) (A))),(1,.box [.func f xs ys]),(0,.box (cQ c))]⟩)) (fun _=>True) ?_ ?_
   ·skip
    refine .seq ?_
    refine .rec (aF:=[(1,.vp [.int .i64 i,.int .i64 j]),(2,.vp (cu c)),(5,.func 167 [] [.ptr 9 0,.ptr 8 0])]) (aZ:=⟨10,[(9,.box [.int .i64 0,.int .i64 i,.int .i64 j,.int .i64 0,.int .i64 0]),(8,.box [.cm 7]),(7,oA 6 c i j none),(6,.box [.cm 5]),(5,wM none),(4,.box [.int .i64 i,.int .i64 j]),(3,.box [.a6 2]),(2,.map (aR (places c) (D1))),(1,.box [.func f xs ys]),(0,.box (cQ c))]⟩) (.mk [] [] uU mc rfl rfl rfl) ?_
    refine .ar JC rfl ae (.rn gT _ ?_)
    refine .split (t:=21) rfl (fun e8=>?_) (fun e8=>?_)
    ·try subst e8
     try simp at e8
     have fh:j<c.c.length:=by simpa using jV
     have qf:c.c[j]=cv:=by rw[← jn,List.getD_eq_getElem?_getD,List.getElem?_eq_getElem fh];rfl
     have w1:=Fy c i j (D1) p f xs ys (1) (0) (cv) 0 0 0 hk oU qg (kh) hx hy eD hp
     have hA:=nK fh
     obtain⟨L1,y2⟩:∃L,gj c i j p D1 ⟨1,i,j,0,cv⟩=L:=⟨_,rfl⟩
     have Qd:lT L1:=y2▸VJ aP kh
     rw[y2] at hA w1
     have w2:=Fy c i j (L1) p f xs ys (2) (0) (0) 1 0 cv hk oU qg (Qd) hx hy eD hp
     rw[hA] at w2
     refine .rn [7,8,9,10,11,12,13] _ ?_
     refine .step rfl rfl (.call rfl rfl rfl call167 (by decide) (((eN.frame (i:=0) rfl rfl w1)).mono ?_))
     rintro _ _ ⟨_,⟨rfl,rfl⟩,rfl⟩
     refine .rn [15,16,17] _ ?_
     refine .split (t:=32) rfl (fun ft=>?_) (fun ft=>?_)
     ·try subst ft
      try simp at ft
     try subst ft
     try simp at ft
     refine .rn [18] _ ?_
     refine .step rfl rfl (.call rfl rfl rfl call167 (by decide) (((eN.frame (i:=0) rfl rfl w2)).mono ?_))
     rintro _ _ ⟨_,⟨rfl,rfl⟩,rfl⟩
     refine .rn [20,21] [] ?_
     refine .done ?_
     refine .cs ?_ ?_<;>intro gJ
     ·try simp at gJ
     try simp at gJ
     refine .skip ?_
     refine⟨(),trivial,(.mk [] [] uU mc rfl rfl rfl)⟩
    try subst e8
    try simp at e8
    have fh:¬j<c.c.length:=by simpa using jV
    have w2:=Fy c i j (D1) p f xs ys (2) (0) (0) 0 0 0 hk oU qg (kh) hx hy eD hp
    rw[FC fh] at w2
    refine .rn [7,8,9,10,11,12,13,14,15,16,17,18] _ ?_
    refine .step rfl rfl (.call rfl rfl rfl call167 (by decide) (((eN.frame (i:=0) rfl rfl w2)).mono ?_))
    rintro _ _ ⟨_,⟨rfl,rfl⟩,rfl⟩
    refine .rn [20,21] [] ?_
    refine .done ?_
    refine .cs ?_ ?_<;>intro gJ
    ·try simp at gJ
    try simp at gJ
    refine .skip ?_
    refine⟨(),trivial,(.mk [] [] uU mc rfl rfl rfl)⟩
   skip
   rintro _ _
   simp only
   have DM:IntKind.i64.wrap ((c.t.length:Int) - (i:Int))=(c.t.length:Int) - (i:Int):=wrap64 (by omega) (by omega)
   refine .seq (.sr ?_)
   refine .block ?_
   refine .cZ (fun z:Nat×Int×Int×Int=>([(1,.vp [.int .i64 i,.int .i64 j]),(2,.vp (cu c)),(5,.func 167 [] [.ptr 9 0,.ptr 8 0]),(6,.int .i64 ((z.1:Int)+1))],⟨10,[(9,.box [.int .i64 z.2.1,.int .i64 i,.int .i64 j,.int .i64 z.2.2.1,.int .i64 z.2.2.2]),(8,.box [.cm 7]),(7,oA 6 c i j none),(6,.box [.cm 5]),(5,wM none),(4,.box [.int .i64 i,.int .i64 j]),(3,.box [.a6 2]),(2,.map (aR (places c) (XL z.1))),(1,.box [.func f xs ys]),(0,.box (cQ c))]⟩)) (fun z=>z.1≤c.t.length - i) (fun z=>c.t.length - i - z.1) (0,2,0,0) (Nat.zero_le _) (by simp only[P7];exact(.mk [] [] uU mc rfl rfl rfl)) ?_
   rintro⟨n,k,l,w⟩ hn
   simp only at hn ⊢
   refine .seq (.sr ?_)
   refine .cs ?_ ?_<;>intro qC
   ·try simp at qC
    have iA:n<c.t.length - i:=by omega
    have w3:=Fy c i j (XL n) p f xs ys (3) ((n:Int)+1) (0) k l w hk oU qg (Jz n) hx hy eD hp
    rw[Qa] at w3
    have qA:IntKind.i64.wrap ((n:Int)+1+1)=(n:Int)+1+1:=wrap64 (by omega) (by omega)
    refine .skip (.seq (.block (.seq (.ar dQ rfl ae (.rn [0,1] _ ?_)))))
    refine .step rfl rfl (.call rfl rfl rfl call167 (by decide) (((eN.frame (i:=0) rfl rfl w3)).mono ?_))
    rintro _ _ ⟨_,⟨rfl,rfl⟩,rfl⟩
    refine .rn [3] [] ?_
    refine .done ?_
    refine .cs ?_ ?_<;>intro ti
    ·try simp at ti
    try simp at ti
    refine .skip (.rn ?_)
    refine⟨(n+1,3,(n:Int)+1,0),ba,ba,?_⟩
    simp only
    exact(.mk [] [] uU mc rfl rfl rfl)
   try simp at qC
   obtain rfl:n=c.t.length - i:=by omega
   refine .exit (.seq (.sr ?_))
   refine .block ?_
   refine .cZ (fun z:Nat×Int×Int×Int=>([(1,.vp [.int .i64 i,.int .i64 j]),(2,.vp (cu c)),(5,.func 167 [] [.ptr 9 0,.ptr 8 0]),(7,.int .i64 ((z.1:Int)+1))],⟨10,[(9,.box [.int .i64 z.2.1,.int .i64 i,.int .i64 j,.int .i64 z.2.2.1,.int .i64 z.2.2.2]),(8,.box [.cm 7]),(7,oA 6 c i j none),(6,.box [.cm 5]),(5,wM none),(4,.box [.int .i64 i,.int .i64 j]),(3,.box [.a6 2]),(2,.map (aR (places c) (XT z.1))),(1,.box [.func f xs ys]),(0,.box (cQ c))]⟩)) (fun z=>z.1≤i) (fun z=>i - z.1) (0,k,l,w) (Nat.zero_le _) (by simp only[P8];exact(.mk [] [] uU mc rfl rfl rfl)) ?_
   rintro⟨n,k,l,w⟩ hn
   simp only at hn ⊢
   refine .seq (.sr ?_)
   refine .cs ?_ ?_<;>intro nv
   ·try simp at nv
    have iA:n<i:=by omega
    have w3:=Fy c i j (XT n) p f xs ys (4) ((n:Int)+1) (0) k l w hk oU qg (JA n) hx hy eD hp
    rw[Qb] at w3
    have qA:IntKind.i64.wrap ((n:Int)+1+1)=(n:Int)+1+1:=wrap64 (by omega) (by omega)
    refine .skip (.seq (.block (.seq (.ar dQ rfl ae (.rn [0,1] _ ?_)))))
    refine .step rfl rfl (.call rfl rfl rfl call167 (by decide) (((eN.frame (i:=0) rfl rfl w3)).mono ?_))
    rintro _ _ ⟨_,⟨rfl,rfl⟩,rfl⟩
    refine .rn [3] [] ?_
    refine .done ?_
    refine .cs ?_ ?_<;>intro gu
    ·try simp at gu
    try simp at gu
    refine .skip (.rn ?_)
    refine⟨(n+1,4,(n:Int)+1,0),ba,ba,?_⟩
    simp only
    exact(.mk [] [] uU mc rfl rfl rfl)
   try simp at nv
   obtain rfl:i=n:=by omega
   refine .exit (.seq (.sr ?_))
   refine .block ?_
   refine .cZ (fun z:Nat×Int×Int×Int=>([(1,.vp [.int .i64 i,.int .i64 j]),(2,.vp (cu c)),(5,.func 167 [] [.ptr 9 0,.ptr 8 0]),(63,.int .i64 c.g.length),(64,.int .i64 z.1)],⟨10,[(9,.box [.int .i64 z.2.1,.int .i64 i,.int .i64 j,.int .i64 z.2.2.1,.int .i64 z.2.2.2]),(8,.box [.cm 7]),(7,oA 6 c i j none),(6,.box [.cm 5]),(5,wM none),(4,.box [.int .i64 i,.int .i64 j]),(3,.box [.a6 2]),(2,.map (aR (places c) (XG z.1))),(1,.box [.func f xs ys]),(0,.box (cQ c))]⟩)) (fun z=>z.1≤c.g.length) (fun z=>c.g.length - z.1) (0,k,l,w) (Nat.zero_le _) (by simp only[P9];exact(.mk [] [] uU mc rfl rfl rfl)) ?_
   rintro⟨n,k,l,w⟩ hn
   simp only at hn ⊢
   refine .sr ?_
   refine .seq ?_
   refine .cs ?_ ?_<;>intro xS
   ·try simp at xS
    have w3:=Fy c i j (XG n) p f xs ys (5) ((n:Int)) (0) k l w hk oU qg (JB n) hx hy eD hp
    rw[Qc] at w3
    have qA:=iQ n
    refine .skip (.seq (.block (.sr ?_)))
    refine .seq (.ar dQ rfl ae (.rn [0,1] _ ?_))
    refine .step rfl rfl (.call rfl rfl rfl call167 (by decide) (((eN.frame (i:=0) rfl rfl w3)).mono ?_))
    rintro _ _ ⟨_,⟨rfl,rfl⟩,rfl⟩
    refine .rn [3] [] ?_
    refine .done ?_
    refine .cs ?_ ?_<;>intro iT
    ·try simp at iT
    try simp at iT
    refine .skip (.rn ?_)
    refine⟨(n+1,5,(n:Int),0),ba,ba,?_⟩
    simp only
    exact(.mk [] [] uU mc rfl rfl rfl)
   try simp at xS
   obtain rfl:n=c.g.length:=by omega
   refine .exit (.sr ?_)
   refine .cs ?_ ?_<;>intro uV
   ·try simp at uV
    have fh:j<c.c.length:=by rw[uV] at jV;simpa using jV
    rw[if_pos fh] at cT
    have qf:c.c[j]=cv:=by rw[← jn,List.getD_eq_getElem?_getD,List.getElem?_eq_getElem fh];rfl
    have w3:=Fy c i j (XG c.g.length) p f xs ys (6) (0) (cv) k l w hk oU qg (JB _) hx hy eD hp
    rw[cT] at w3
    refine .ar js rfl ae (.rn gT _ ?_)
    refine .step rfl rfl (.call rfl rfl rfl call167 (by decide) (((eN.frame (i:=0) rfl rfl w3)).mono ?_))
    rintro _ _ ⟨_,⟨rfl,rfl⟩,rfl⟩
    refine .done ?_
    change oV _ _ _ _
    refine FD rfl ?_
    change oV _ _ _ _
    refine FD rfl ?_
    refine .rn ?_
    refine⟨j+1,ba,ba,aX⟩
   try simp at uV
   have fh:¬j<c.c.length:=by rw[uV] at jV;simpa using jV
   rw[if_neg fh] at cT
   rw[cT]
   refine .skip ?_
   change oV _ _ _ _
   refine FD rfl ?_
   change oV _ _ _ _
   refine FD rfl ?_
   refine .rn ?_
   refine⟨j+1,ba,ba,aX⟩
  try simp at Hq
  obtain rfl:j=c.c.length+1:=by omega
  refine .exit (.rn ?_)
  refine⟨i+1,ba,ba,by rw[← xc5];exact aX⟩
 try simp at jW
 obtain rfl:i=c.t.length+1:=by omega
 rw[VL]
 refine .exit (.sr ?_)
 refine .ret (ax ?_)
 exact zk
end Go.Am.Sl
end
