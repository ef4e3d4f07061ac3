/-
 What is used in the proof of a statement (part SlB); no condition.
-/
import Derived.Test.YthnmgbgmlhackaaGreatDoorSlZ
import Derived.Test.YthnmgbgmlhackaaGreatDoorVm2
import Derived.Test.YthnmgbgmlhackaaGreatDoorSlT
import Derived.Test.YthnmgbgmlhackaaGreatDoorSlA
set_option linter.all false
set_option maxHeartbeats 40000000
set_option maxRecDepth 100000
section
namespace Go.Am.Sl
open Go Go.Am Go.Proofs Tryz
attribute [local simp] eQ ij pV dH gk mz ai.back cS fW lg bm Nat.testBit_eq_decide_div_mod_eq cC iE mw vO ph gF pj iP cU nG nF pe gG pf n4 lZ pT n3 pg o7 o4 o8 o5 o6 o9 pa mR eZ jW eP pn nH oc po pq mQ pR pS gE my fK fy fL kV gg nS nv ny jF oR bj nZ fx bP bK lD ai.get ai.alloc ai.put ai.drop ai.empty bt cZ iw jn gA cz chunk List.range List.range.loop lh pW l9 bI b6 PV.aG PV.aF PV.dc PV.fu gY gH od PV.one PV.ids PV.cF gI beq_eq qD rE
attribute [local simp] cQ bQ fN pZ
attribute [local simp ↓ high] sD rJ
def sG (c:aj)(i j:Nat):List aq:=(if j<c.c.length then [⟨1,i,j,0,c.c.getD j 0⟩] else [])++[⟨2,i,j,0,0⟩]
def qH (i j n:Nat):List aq:=(List.range n).map fun n:Nat=>⟨3,i,j,(n+1:Nat),0⟩
def rL (i j n:Nat):List aq:=(List.range n).map fun n:Nat=>⟨4,i,j,(n+1:Nat),0⟩
def sH (i j n:Nat):List aq:=(List.range n).map fun n:Nat=>⟨5,i,j,n,0⟩
theorem Lb (i j n:Nat):qH i j (n+1)=qH i j n++[⟨3,i,j,(n+1:Nat),0⟩]:=by unfold qH;rw[List.range_succ,List.map_append];rfl
theorem Lc (i j n:Nat):rL i j (n+1)=rL i j n++[⟨4,i,j,(n+1:Nat),0⟩]:=by unfold rL;rw[List.range_succ,List.map_append];rfl
theorem Ld (i j n:Nat):sH i j (n+1)=sH i j n++[⟨5,i,j,n,0⟩]:=by unfold sH;rw[List.range_succ,List.map_append];rfl
theorem TN (c:aj)(i j:Nat):lG c i j=sG c i j++qH i j (c.t.length - i)++rL i j i++sH i j c.g.length++(if j<c.c.length then [⟨6,i,j,0,c.c.getD j 0⟩] else []):=rfl
theorem D8 {e:PV}(he:e.aG=true):eR (.bx [.aI,e]) (.bx [.vec [],e]):=zJ (.cons .dC (.cons (.same _ he) .nil))
theorem ti:zn prog 132=some (137,3,2):=by decide +kernel
attribute [local simp] cQ bQ fN pZ ti p7 p9 pw gJ fI
def Ea:Option aq→List PV
 |some s=>[.int .i64 s.k,.int .i64 s.a,.int .i64 s.i,.int .i64 s.l,.int .i64 s.w]
 |none=>[.int .i64 0,.int .i64 0,.int .i64 0,.int .i64 0,.int .i64 0]
def dh (x:aK):PV:=.agg ([.int .i64 x.i,.int .i64 x.j,.int .i64 x.i',.int .i64 x.j']++Ea x.s++[.int .i64 x.n,.bool x.s.isNone])
def eS (p:aK→Bool)(D:Nat→Nat→Int)(x:aK):Nat→Nat→Int:=if D x.i x.j<1099511627776∧p x=true then bB D x.i' x.j' (min (D x.i' x.j') (D x.i x.j+x.n)) else D
def e9 (c:aj)(i j:Nat)(p:aK→Bool)(D:Nat→Nat→Int)(s:aq):Nat→Nat→Int:=match stepOf c i j s with
 |some x=>eS p D x
 |none=>D
noncomputable abbrev mf (y:Nat) (c:aj) (i j:Int) (x:Option Code):aM:=xI f138 0 [(1,.vp [.int .i64 i,.int .i64 j]),(2,.vp (cR c)),(3,.ptr y 0)] x
noncomputable abbrev u6 (x:Option Code):aM:=xI f135 0 [(3,.ptr 1 0),(5,.ptr 3 0),(10,.ptr 4 0)] x
theorem TO (c:aj)(i j:Nat)(s:aq):(aJ c s=none∧stepOf c i j s=none)∨(∃n i' w,aJ c s=some (n,i',w)∧hasB c j w=false∧stepOf c i j s=none)∨∃n i' w,aJ c s=some (n,i',w)∧hasB c j w=true∧stepOf c i j s=some ⟨i,j,i',j+w.length,n,some s⟩:=by
 unfold stepOf
 cases hd:aJ c s with
 |none=>exact .inl ⟨rfl,rfl⟩
 |some x=>
  obtain⟨n,i',w⟩:=x
  cases hb:hasB c j w
  ·exact .inr (.inl ⟨n,i',w,rfl,hb,by simp[hb]⟩)
  exact .inr (.inr ⟨n,i',w,rfl,hb,by simp[hb]⟩)
variable [bF] in
theorem Eb (c:aj)(i j:Nat)(D:Nat→Nat→Int)(p:aK→Bool)(f:FuncId)(xs ys:List PV)(k l w k0 l0 w0:Int)(hk:bl c=0)(hi:i≤c.t.length)(hj:j≤c.c.length)(hD:∀a b,0≤D a b∧D a b≤1099511627776)(hx:PV.aF xs=true)(hy:PV.aF ys=true)(dM:∀cs w,(callFunc f cs).run prog w=.ok (.enter f cs) w)(hp:∀x:aK,aN prog f (xs++[dh x]++ys) fun r=>r=.bool (p x)):dP prog 167 [.int .i64 k,.int .i64 l,.int .i64 w,.ptr 9 0,.ptr 8 0] ⟨10,[(9,.box [.int .i64 k0,.int .i64 i,.int .i64 j,.int .i64 l0,.int .i64 w0]),(8,.box [.bY 7]),(7,mf 6 c i j none),(6,.box [.bY 5]),(5,u6 none),(4,.box [.int .i64 i,.int .i64 j]),(3,.box [.aW 2]),(2,.map (be (places c) D)),(1,.box [.func f xs ys])]⟩ fun v ao=>v=.bool true∧ao=⟨10,[(9,.box [.int .i64 k,.int .i64 i,.int .i64 j,.int .i64 l,.int .i64 w]),(8,.box [.bY 7]),(7,mf 6 c i j none),(6,.box [.bY 5]),(5,u6 none),(4,.box [.int .i64 i,.int .i64 j]),(3,.box [.aW 2]),(2,.map (be (places c) (e9 c i j p D ⟨k,i,j,l,w⟩))),(1,.box [.func f xs ys])]⟩:=by
 have bo:=gR hk
 have eM:=bo.cl
 have rM:j≤48:=by omega
 have cK:=FP c ⟨k,i,j,l,w⟩ hk
 have Ec:=TO c i j ⟨k,i,j,l,w⟩
 have hE:encS ⟨k,i,j,l,w⟩=.agg [.int .i64 k,.int .i64 i,.int .i64 j,.int .i64 l,.int .i64 w]:=rfl
 have hC:cR c=(cQ c):=rfl
 have gp:=hD i j
 have kI:kB [.int .i64 i,.int .i64 j] (be (places c) D)=some (some (.int .i64 (D i j))):=by
  have:=xJ i j D (places c)
  rw[if_pos (uq.2 ⟨hi,hj⟩)] at this
  exact this
 obtain⟨d0,ov⟩:∃d,D i j=d:=⟨_,rfl⟩
 obtain⟨e0,dz⟩:∃b,decide (d0<1099511627776)=b:=⟨_,rfl⟩
 rw[ov] at kI gp
 rw[hE] at cK
 unfold aH at cK
 refine .bT func167 rfl rfl ?_
 rcases Ec with⟨hd,cN⟩|⟨n,i',wr,hd,hb,cN⟩|⟨n,i',wr,hd,hb,cN⟩
 ·
  have ho:e9 c i j p D ⟨k,i,j,l,w⟩=D:=by unfold e9;rw[cN]
  rw[A3 hd] at cK
  unfold iF at cK
  rw[ho]
  refine .sr ?_
  refine .sr ?_
  refine .seq (.ay eD rfl ae (.rn [0,1] _ ?_))
  refine .step rfl rfl (.yield rfl rfl rfl rfl rfl (by decide) rfl ?_)
  refine .rn ?_
  refine .block (.seq (.ay jq rfl ae (.rn [0,1] _ ?_)))
  refine .pc rfl rfl rfl rfl rfl call95 (cK) ?_
  refine .rn [3,4,5,6,7,8,9,10,11,12] [] ?_
  refine .done (.seq (.ay qc rfl ae ?_))
  refine .rn [0,1] _ ?_
  refine .split (t:=63) rfl (fun il=>?_) (fun il=>?_)
  ·try subst il
   try simp at il
  try subst il
  try simp at il
  refine .rn [2,3,4,5,6,7,8,9,10,11,12,13,14,15,16,17] [] ?_
  refine .done (.fD rfl (.skip ?_))
  change bZ _ _ _ _ _ _ _ _
  refine .rn [3] [] ?_
  refine .done ?_
  refine .rec (aA:=[(8,.bool true)]) (aV:=⟨10,[(9,.box [.int .i64 k,.int .i64 i,.int .i64 j,.int .i64 l,.int .i64 w]),(8,.box [.bY 7]),(7,mf 6 c i j none),(6,.box [.bY 5]),(5,u6 none),(4,.box [.int .i64 i,.int .i64 j]),(3,.box [.aW 2]),(2,.map (be (places c) D)),(1,.box [.func f xs ys])]⟩) (.mk [] [] HQ HR rfl rfl rfl) ?_
  refine .ret ?_
  exact⟨_,iT,rfl,rfl⟩
 ·
  have ho:e9 c i j p D ⟨k,i,j,l,w⟩=D:=by unfold e9;rw[cN]
  rw[zD hd] at cK
  unfold iF at cK
  rw[ho]
  have ud:=(kN bo hd).2.2.2.2.2
  have lH:=u5 c wr j eM (by omega)
  rw[hb] at lH
  unfold aH at lH
  refine .sr ?_
  refine .sr ?_
  refine .seq (.ay eD rfl ae (.rn [0,1] _ ?_))
  refine .step rfl rfl (.yield rfl rfl rfl rfl rfl (by decide) rfl ?_)
  refine .rn ?_
  refine .block (.seq (.ay jq rfl ae (.rn [0,1] _ ?_)))
  refine .pc rfl rfl rfl rfl rfl call95 (cK) ?_
  refine .rn [3,4,5,6,7,8,9,10,11,12] [] ?_
  refine .done (.seq (.ay qc rfl ae ?_))
  refine .rn [0,1] _ ?_
  refine .split (t:=63) rfl (fun il=>?_) (fun il=>?_)
  ·try subst il
   try simp at il
   refine .rn [2,3,4,5] _ ?_
   refine .pc rfl rfl rfl rfl rfl call96 (lH) ?_
   refine .rn [7,8] _ ?_
   refine .split (t:=70) rfl (fun iz=>?_) (fun iz=>?_)
   ·try subst iz
    try simp at iz
   try subst iz
   try simp at iz
   refine .rn [9,10,11,12,13,14,15,16,17] [] ?_
   refine .done (.fD rfl (.skip ?_))
   change bZ _ _ _ _ _ _ _ _
   refine .rn [3] [] ?_
   refine .done ?_
   refine .rec (aA:=[(8,.bool true)]) (aV:=⟨10,[(9,.box [.int .i64 k,.int .i64 i,.int .i64 j,.int .i64 l,.int .i64 w]),(8,.box [.bY 7]),(7,mf 6 c i j none),(6,.box [.bY 5]),(5,u6 none),(4,.box [.int .i64 i,.int .i64 j]),(3,.box [.aW 2]),(2,.map (be (places c) D)),(1,.box [.func f xs ys])]⟩) (.mk [] [] HQ HR rfl rfl rfl) ?_
   refine .ret ?_
   exact⟨_,iT,rfl,rfl⟩
  try subst il
  try simp at il
 ·
  have ho:e9 c i j p D ⟨k,i,j,l,w⟩=eS p D ⟨i,j,i',j+wr.length,n,some ⟨k,i,j,l,w⟩⟩:=by unfold e9;rw[cN]
  rw[zD hd] at cK
  unfold iF at cK
  rw[ho]
  have iA:=kN bo hd
  have ud:=iA.2.2.2.2.2
  have Ed:=iA.1
  have zK:i'≤c.t.length:=iA.2.2.2.1
  have lH:=u5 c wr j eM (by omega)
  have eo:j+wr.length≤c.c.length:=by unfold hasB at hb;rw[bS,decide_eq_true_eq] at hb;exact hb.1
  rw[hb] at lH
  unfold aH at lH
  obtain⟨j1,Ee⟩:∃j1,j+wr.length=j1:=⟨_,rfl⟩
  have xK:IntKind.i64.wrap ((j:Int)+(wr.length:Int))=(j1:Int):=by rw[wrap64 (by omega) (by omega)];omega
  rw[Ee] at eo ⊢
  simp only[xK] at cK
  have xL:=hp ⟨i,j,i',j1,n,some ⟨k,i,j,l,w⟩⟩
  have Bb:dh ⟨i,j,i',j1,n,some ⟨k,i,j,l,w⟩⟩=.agg [.int .i64 i,.int .i64 j,.int .i64 i',.int .i64 j1,.int .i64 k,.int .i64 i,.int .i64 j,.int .i64 l,.int .i64 w,.int .i64 n,.bool false]:=rfl
  rw[Bb] at xL
  obtain⟨pv,FU⟩:∃b,p ⟨i,j,i',j1,n,some ⟨k,i,j,l,w⟩⟩=b:=⟨_,rfl⟩
  rw[FU] at xL
  have ju:=hD i' j1
  have zL:kB [.int .i64 i',.int .i64 j1] (be (places c) D)=some (some (.int .i64 (D i' j1))):=by
   have:=xJ i' j1 D (places c)
   rw[if_pos (uq.2 ⟨zK,eo⟩)] at this
   exact this
  have u7:∀v,nJ [.int .i64 i',.int .i64 j1] [.int .i64 i',.int .i64 j1] (.int .i64 v) (be (places c) D)=some (be (places c) (bB D i' j1 v)):=fun v=>HS (uq.2 ⟨zK,eo⟩) v
  have tj:eS p D ⟨i,j,i',j1,n,some ⟨k,i,j,l,w⟩⟩=if d0<1099511627776∧pv=true then bB D i' j1 (min (D i' j1) (d0+n)) else D:=by unfold eS;simp only[ov,FU]
  rw[tj]
  obtain⟨d1,lf⟩:∃d,D i' j1=d:=⟨_,rfl⟩
  rw[lf] at zL ju ⊢
  have DY:IntKind.i64.wrap (d0+n)=d0+n:=wrap64 (by omega) (by omega)
  clear hD xK ho cN hE hb hd iA ud
  refine .sr ?_
  refine .sr ?_
  refine .seq (.ay eD rfl ae (.rn [0,1] _ ?_))
  refine .step rfl rfl (.yield rfl rfl rfl rfl rfl (by decide) rfl ?_)
  refine .rn ?_
  refine .block (.seq (.ay jq rfl ae (.rn [0,1] _ ?_)))
  refine .pc rfl rfl rfl rfl rfl call95 (cK) ?_
  refine .rn [3,4,5,6,7,8,9,10,11,12] [] ?_
  refine .done (.seq (.ay qc rfl ae ?_))
  refine .rn [0,1] _ ?_
  refine .split (t:=63) rfl (fun il=>?_) (fun il=>?_)
  ·try subst il
   try simp at il
   refine .rn [2,3,4,5] _ ?_
   refine .pc rfl rfl rfl rfl rfl call96 (lH) ?_
   refine .rn [7,8] _ ?_
   refine .split (t:=70) rfl (fun iz=>?_) (fun iz=>?_)
   ·try subst iz
    try simp at iz
    refine .rn [9,10,11,12,13,14] _ ?_
    refine .step rfl rfl (.yield rfl rfl rfl rfl rfl (by decide) rfl ?_)
    refine .rn ?_
    refine .block (.seq (.ay rF rfl ae (.rn gQ _ ?_)))
    refine .split (t:=60) rfl (fun kj=>?_) (fun kj=>?_)
    ·try subst kj
     try simp at kj
     have aP:d0<1099511627776:=by simpa using dz
     refine .rn [5,6] _ ?_
     refine .step rfl rfl (.pure rfl rfl rfl dM (by decide) (xL) (by first|rfl|simp[*]) ?_)
     rintro _ rfl
     refine .rn [8] [] ?_
     refine .done ?_
     refine .cs ?_ ?_<;>intro rN
     ·try simp at rN
      rw[if_pos ⟨aP,rN⟩]
      have nV:(if d0+n<d1 then d0+n else d1)=min d1 (d0+n):=by split<;>omega
      refine .drawn (ms:=[0,0,2,0,0,16,56,0,0,384,0,1024,3968,8184,16383]) (W:=[14]) (items:=Oi) rfl ae ae ae ?_
      iterate 14 refine .rx ?_
      refine .wv ?_
      refine .done ?_
      change bZ _ _ _ _ _ _ _ _
      refine .rn [16,17] [] ?_
      refine .done (.fD rfl (.skip ?_))
      change bZ _ _ _ _ _ _ _ _
      refine .rn [3] [] ?_
      refine .done ?_
      refine .rec (aA:=[(8,.bool true)]) (aV:=⟨10,[(9,.box [.int .i64 k,.int .i64 i,.int .i64 j,.int .i64 l,.int .i64 w]),(8,.box [.bY 7]),(7,mf 6 c i j none),(6,.box [.bY 5]),(5,u6 none),(4,.box [.int .i64 i,.int .i64 j]),(3,.box [.aW 2]),(2,.map (be (places c) (bB D i' j1 (min d1 (d0+n))))),(1,.box [.func f xs ys])]⟩) (.mk [] [] HQ HR rfl rfl rfl) ?_
      refine .ret ?_
      exact⟨_,iT,rfl,rfl⟩
     try simp at rN
     rw[if_neg (fun hh=>by rw[rN] at hh;cases hh.2)]
     refine .skip ?_
     change bZ _ _ _ _ _ _ _ _
     refine .rn [16,17] [] ?_
     refine .done (.fD rfl (.skip ?_))
     change bZ _ _ _ _ _ _ _ _
     refine .rn [3] [] ?_
     refine .done ?_
     refine .rec (aA:=[(8,.bool true)]) (aV:=⟨10,[(9,.box [.int .i64 k,.int .i64 i,.int .i64 j,.int .i64 l,.int .i64 w]),(8,.box [.bY 7]),(7,mf 6 c i j none),(6,.box [.bY 5]),(5,u6 none),(4,.box [.int .i64 i,.int .i64 j]),(3,.box [.aW 2]),(2,.map (be (places c) D)),(1,.box [.func f xs ys])]⟩) (.mk [] [] HQ HR rfl rfl rfl) ?_
     refine .ret ?_
     exact⟨_,iT,rfl,rfl⟩
    try subst kj
    try simp at kj
    rw[if_neg (fun hh=>by simp[hh.1] at dz)]
    refine .rn [5,6,7,8] [] ?_
    refine .done (.fD rfl (.skip ?_))
    change bZ _ _ _ _ _ _ _ _
    refine .rn [16,17] [] ?_
    refine .done (.fD rfl (.skip ?_))
    change bZ _ _ _ _ _ _ _ _
    refine .rn [3] [] ?_
    refine .done ?_
    refine .rec (aA:=[(8,.bool true)]) (aV:=⟨10,[(9,.box [.int .i64 k,.int .i64 i,.int .i64 j,.int .i64 l,.int .i64 w]),(8,.box [.bY 7]),(7,mf 6 c i j none),(6,.box [.bY 5]),(5,u6 none),(4,.box [.int .i64 i,.int .i64 j]),(3,.box [.aW 2]),(2,.map (be (places c) D)),(1,.box [.func f xs ys])]⟩) (.mk [] [] HQ HR rfl rfl rfl) ?_
    refine .ret ?_
    exact⟨_,iT,rfl,rfl⟩
   try subst iz
   try simp at iz
  try subst il
  try simp at il
def jJ (D:Nat→Nat→Int):Prop:=∀a b,0≤D a b∧D a b≤1099511627776
theorem Oj {D:Nat→Nat→Int}{p:aK→Bool}{x:aK}(h:jJ D)(hn:0≤x.n):jJ (eS p D x):=fun a b=>by
 unfold eS
 split
 ·rename_i hh
  unfold bB
  have h1:=h x.i x.j
  have h2:=h x.i' x.j'
  split
  ·omega
  exact h a b
 exact h a b
theorem TP {c:aj}(hr:Rt c){i j:Nat}{D:Nat→Nat→Int}{p:aK→Bool}{s:aq}(h:jJ D):jJ (e9 c i j p D s):=by
 unfold e9
 cases hs:stepOf c i j s with
 |none=>exact h
 |some x=>
  refine Oj h ?_
  unfold stepOf at hs
  cases hd:aJ c s with
  |none=>rw[hd] at hs;cases hs
  |some y=>
   obtain⟨n,i',w⟩:=y
   rw[hd] at hs
   simp only at hs
   split at hs
   ·cases hs
    have:=(kN hr hd).1
    show 0≤n
    omega
   cases hs
theorem HT {c:aj}(hr:Rt c){i j:Nat}{p:aK→Bool}:∀(l:List aq) {D:Nat→Nat→Int},jJ D→jJ (l.foldl (e9 c i j p) D)
 |[],_,h=>h
 |s::r,_,h=>HT hr r (TP hr h)
theorem TQ {c:aj}{i j:Nat}{p:aK→Bool}:∀(l:List aq) (D:Nat→Nat→Int),l.foldl (e9 c i j p) D=(l.filterMap (stepOf c i j)).foldl (eS p) D
 |[],_=>rfl
 |s::r,D=>by
  rw[List.foldl_cons,TQ r,List.filterMap_cons]
  unfold e9
  cases stepOf c i j s<;>rfl
def cr (c:aj)(i j:Nat):List aK:=if i<c.t.length∧j<c.c.length∧c.t.getD i 0=c.c.getD j 0 then [⟨i,j,i+1,j+1,0,none⟩] else []
theorem zxn (c:aj)(i j:Nat)(p:aK→Bool)(D:Nat→Nat→Int):(steps c i j).foldl (eS p) D=(lG c i j).foldl (e9 c i j p) ((cr c i j).foldl (eS p) D):=by
 rw[TQ];unfold steps cr;rw[List.foldl_append]
theorem z9l {c:aj}{i j:Nat}{p:aK→Bool}{D:Nat→Nat→Int}(h:jJ D):jJ ((cr c i j).foldl (eS p) D):=by
 unfold cr
 split
 ·exact Oj h (by simp)
 exact h
def tk (c:aj)(p:aK→Bool)(i j:Nat):Nat→Nat→Int:=((kC (c.c.length+1) i j).flatMap fun q=>steps c q.1 q.2).foldl (eS p) (bB (fun _ _=>1099511627776) 0 0 0)
def fwd (c:aj)(p:aK→Bool):Nat→Nat→Int:=(graph c).foldl (eS p) (bB (fun _ _=>1099511627776) 0 0 0)
theorem xf8 (c:aj)(p:aK→Bool):tk c p 0 0=bB (fun _ _=>1099511627776) 0 0 0:=rfl
theorem z3b (c:aj)(p:aK→Bool)(i j:Nat):tk c p i (j+1)=(steps c i j).foldl (eS p) (tk c p i j):=by
 unfold tk;rw[FV,List.flatMap_append,List.foldl_append];simp
theorem z7c (c:aj)(p:aK→Bool)(i:Nat):tk c p i (c.c.length+1)=tk c p (i+1) 0:=by unfold tk;rw[FW]
theorem TR (c:aj)(p:aK→Bool):tk c p (c.t.length+1) 0=fwd c p:=by unfold tk fwd graph;rw[Ef]
theorem xht:jJ (bB (fun _ _=>1099511627776) 0 0 0):=fun a b=>by
 unfold bB
 split
 ·exact⟨by decide,by decide⟩
 show (0:Int)≤1099511627776∧(1099511627776:Int)≤1099511627776
 decide
theorem TS {p:aK→Bool}:∀(l:List aK) {D:Nat→Nat→Int},(∀x∈l,0≤x.n)→jJ D→jJ (l.foldl (eS p) D)
 |[],_,_,h=>h
 |x::r,_,hx,h=>TS r (fun y hy=>hx y (List.mem_cons_of_mem _ hy)) (Oj h (hx x List.mem_cons_self))
theorem TT {c:aj}(hr:Rt c)(p:aK→Bool)(i j:Nat):jJ (tk c p i j):=by
 unfold tk
 refine TS _ (fun x hx=>?_) xht
 obtain⟨q,_,hq⟩:=List.mem_flatMap.1 hx
 exact(ib hr hq).n0
theorem z4m (i j:Nat):bB (fun _ _=>(1099511627776:Int)) i j 1099511627776=fun _ _=>1099511627776:=by
 funext a b;unfold bB;split<;>rfl
theorem z8w {m i j:Nat}:nJ [.int .i64 i,.int .i64 j] [.int .i64 i,.int .i64 j] (.int .i64 1099511627776) (be (kC m i j) fun _ _=>1099511627776)=some (be (kC m i (j+1)) fun _ _=>1099511627776):=by
 have:=HU (a:=i) (b:=j) (D:=fun _ _=>1099511627776) (ps:=kC m i j) (by rw[Ol];omega) 1099511627776
 rw[z4m,← FV] at this
 exact this
theorem xhd {c:aj}:nJ [.int .i64 0,.int .i64 0] [.int .i64 0,.int .i64 0] (.int .i64 0) (be (places c) fun _ _=>1099511627776)=some (be (places c) (bB (fun _ _=>1099511627776) 0 0 0)):=
 HS (a:=0) (b:=0) (uq.2 ⟨Nat.zero_le _,Nat.zero_le _⟩) 0
variable [bF] in
theorem HV (c:aj)(p:aK→Bool)(f:FuncId)(xs ys:List PV)(hk:bl c=0)(hx:PV.aF xs=true)(hy:PV.aF ys=true)(dM:∀cs w,(callFunc f cs).run prog w=.ok (.enter f cs) w)(hp:∀x:aK,aN prog f (xs++[dh x]++ys) fun r=>r=.bool (p x)):aN prog 135 [aH c,.func f xs ys] fun r=>r=.aC (be (places c) (fwd c p)):=by
 have bo:=gR hk
 have oh:=bo.tl
 have eM:=bo.cl
 have sE:=bo.wc
 have hC:cR c=(cQ c):=rfl
 have zj:IntKind.i64.wrap ((c.t.length:Int)+1)=(c.t.length:Int)+1:=wrap64 (by omega) (by omega)
 have lX:IntKind.i64.wrap ((c.c.length:Int)+1)=(c.c.length:Int)+1:=wrap64 (by omega) (by omega)
 have Lg:kC (c.c.length+1) 0 0=[]:=rfl
 have lA:be [] (fun _ _=>1099511627776)=[]:=rfl
 have TU:∀vh,b6 vh xs=some xs:=fun vh=>xM vh hx
 have TV:∀vh,b6 vh ys=some ys:=fun vh=>xM vh hy
 have km:=@xhd c
 have ll:=fun i j:Nat=>HO c i j
 have tm:=fun i j:Nat=>HP c i j
 unfold aH at ll tm ⊢
 unfold iF at ll tm
 rw[hC] at ll tm ⊢
 refine .bT func135 rfl rfl ?_
 refine .sr ?_
 refine .sr ?_
 refine .seq (.sr ?_)
 refine .block ?_
 refine .dw (fun i:Nat=>([(2,.ptr 0 0),(3,.ptr 1 0),(5,.ptr 3 0),(16,.int .i64 ((c.t.length:Int)+1)),(17,.int .i64 i)],⟨4,[(3,.box [.aW 2]),(2,.map (be (kC (c.c.length+1) i 0) (fun _ _=>1099511627776))),(1,.box [.func f xs ys]),(0,.box (cQ c))]⟩)) (fun i=>i≤c.t.length+1) (fun i=>c.t.length+1 - i) 0 (by simp) (by simp only[Lg,lA];exact bn) ?_
 rintro i hi
 simp only at hi ⊢
 refine .sr ?_
 refine .seq ?_
 refine .cs ?_ ?_<;>intro py
 ·try simp at py
  have et:=fA i
  refine .skip (.seq (.block (.sr ?_)))
  refine .sr ?_
  refine .block ?_
  refine .dw (fun j:Nat=>([(2,.ptr 0 0),(3,.ptr 1 0),(5,.ptr 3 0),(6,.int .i64 i),(16,.int .i64 ((c.t.length:Int)+1)),(17,.int .i64 i),(23,.int .i64 ((c.c.length:Int)+1)),(24,.int .i64 j)],⟨4,[(3,.box [.aW 2]),(2,.map (be (kC (c.c.length+1) i j) (fun _ _=>1099511627776))),(1,.box [.func f xs ys]),(0,.box (cQ c))]⟩)) (fun j=>j≤c.c.length+1) (fun j=>c.c.length+1 - j) 0 (by simp) bn ?_
  rintro j hj
  simp only at hj ⊢
  refine .sr ?_
  refine .seq ?_
  refine .cs ?_ ?_<;>intro gq
  ·try simp at gq
   have qF:=fA j
   have Ci:=@z8w (c.c.length+1) i j
   refine .skip (.seq (.block (.sr ?_)))
   refine .rn ?_
   refine .rn ?_
   refine⟨j+1,bp,bp,bn⟩
  try simp at gq
  obtain rfl:j=c.c.length+1:=by omega
  refine .exit (.rn ?_)
  refine⟨i+1,bp,bp,by rw[← FW];exact bn⟩
 try simp at py
 obtain rfl:i=c.t.length+1:=by omega
 rw[Ef]
 refine .exit (.sr ?_)
 refine .seq (.sr ?_)
 refine .block ?_
 refine .dw (fun i:Nat=>([(2,.ptr 0 0),(3,.ptr 1 0),(5,.ptr 3 0),(38,.int .i64 ((c.t.length:Int)+1)),(39,.int .i64 i)],⟨4,[(3,.box [.aW 2]),(2,.map (be (places c) (tk c p i 0))),(1,.box [.func f xs ys]),(0,.box (cQ c))]⟩)) (fun i=>i≤c.t.length+1) (fun i=>c.t.length+1 - i) 0 (by simp) (by simp only[xf8];exact bn) ?_
 rintro i hi
 simp only at hi ⊢
 refine .sr ?_
 refine .seq ?_
 refine .cs ?_ ?_<;>intro kO
 ·try simp at kO
  have et:=fA i
  have ox:i≤c.t.length:=by omega
  refine .skip (.seq (.block (.sr ?_)))
  refine .sr ?_
  refine .block ?_
  refine .dw (fun j:Nat=>([(2,.ptr 0 0),(3,.ptr 1 0),(5,.ptr 3 0),(8,.int .i64 i),(38,.int .i64 ((c.t.length:Int)+1)),(39,.int .i64 i),(45,.int .i64 ((c.c.length:Int)+1)),(46,.int .i64 j)],⟨4,[(3,.box [.aW 2]),(2,.map (be (places c) (tk c p i j))),(1,.box [.func f xs ys]),(0,.box (cQ c))]⟩)) (fun j=>j≤c.c.length+1) (fun j=>c.c.length+1 - j) 0 (by simp) bn ?_
  rintro j hj
  simp only at hj ⊢
  refine .sr ?_
  refine .seq ?_
  refine .cs ?_ ?_<;>intro A0
  ·try simp at A0
   have qF:=fA j
   have nI:j≤c.c.length:=by omega
   have oY:=z3b c p i j
   rw[zxn,TN] at oY
   have hD:=TT bo p i j
   obtain⟨D,HW⟩:∃D,tk c p i j=D:=⟨_,rfl⟩
   rw[HW] at oY hD ⊢
   have pQ:¬(i<c.t.length∧j<c.c.length∧c.t.getD i 0=c.c.getD j 0)→(cr c i j).foldl (eS p) D=D:=fun h=>by unfold cr;rw[if_neg h];rfl
   have pz:i<c.t.length∧j<c.c.length∧c.t.getD i 0=c.c.getD j 0→(cr c i j).foldl (eS p) D=eS p D ⟨i,j,i+1,j+1,0,none⟩:=fun h=>by unfold cr;rw[if_pos h];rfl
   have HX:jJ ((cr c i j).foldl (eS p) D):=z9l hD
   obtain⟨D1,ju⟩:∃D1,(cr c i j).foldl (eS p) D=D1:=⟨_,rfl⟩
   rw[ju] at oY pQ pz HX
   have gp:=hD i j
   have kI:kB [.int .i64 i,.int .i64 j] (be (places c) D)=some (some (.int .i64 (D i j))):=by
    have:=xJ i j D (places c)
    rw[if_pos (uq.2 ⟨ox,nI⟩)] at this
    exact this
   obtain⟨d0,ov⟩:∃d,D i j=d:=⟨_,rfl⟩
   rw[ov] at kI gp
   obtain⟨e0,dz⟩:∃b,decide (i<c.t.length)=b:=⟨_,rfl⟩
   obtain⟨e1,gn⟩:∃b,decide (j<c.c.length)=b:=⟨_,rfl⟩
   obtain⟨e2,xE⟩:∃b,decide (d0<1099511627776)=b:=⟨_,rfl⟩
   have xL:=hp ⟨i,j,i+1,j+1,0,none⟩
   have Bb:dh ⟨i,j,i+1,j+1,0,none⟩=.agg [.int .i64 i,.int .i64 j,.int .i64 ((i:Int)+1),.int .i64 ((j:Int)+1),.int .i64 0,.int .i64 0,.int .i64 0,.int .i64 0,.int .i64 0,.int .i64 0,.bool true]:=rfl
   rw[Bb] at xL
   obtain⟨pv,FU⟩:∃b,p ⟨i,j,i+1,j+1,0,none⟩=b:=⟨_,rfl⟩
   rw[FU] at xL
   have tj:eS p D ⟨i,j,i+1,j+1,0,none⟩=if d0<1099511627776∧pv=true then bB D (i+1) (j+1) (min (D (i+1) (j+1)) d0) else D:=by unfold eS;simp only[ov,FU,Int.add_zero]
   rw[tj] at pz
   have TW:=hD (i+1) (j+1)
   obtain⟨d1,lf⟩:∃d,D (i+1) (j+1)=d:=⟨_,rfl⟩
   rw[lf] at pz TW
   have DY:IntKind.i64.wrap d0=d0:=wrap64 (by omega) (by omega)
   obtain⟨cv,jE⟩:∃v,c.c.getD j 0=v:=⟨_,rfl⟩
   rw[jE] at pQ pz oY
   obtain⟨tv,mB⟩:∃v,c.t.getD i 0=v:=⟨_,rfl⟩
   rw[mB] at pQ pz
   obtain⟨A,hA⟩:∃A,(sG c i j).foldl (e9 c i j p) D1=A:=⟨_,rfl⟩
   have hAk:jJ A:=hA▸HT bo _ HX
   obtain⟨XL,FX⟩:∃X:Nat→Nat→Nat→Int,∀n,X n=(qH i j n).foldl (e9 c i j p) A:=⟨_,fun _=>rfl⟩
   obtain⟨XT,FY⟩:∃X:Nat→Nat→Nat→Int,∀n,X n=(rL i j n).foldl (e9 c i j p) (XL (c.t.length - i)):=⟨_,fun _=>rfl⟩
   obtain⟨XG,FZ⟩:∃X:Nat→Nat→Nat→Int,∀n,X n=(sH i j n).foldl (e9 c i j p) (XT i):=⟨_,fun _=>rfl⟩
   have HY:∀n,jJ (XL n):=fun n=>by rw[FX];exact HT bo _ hAk
   have HZ:∀n,jJ (XT n):=fun n=>by rw[FY];exact HT bo _ (HY _)
   have H3:∀n,jJ (XG n):=fun n=>by rw[FZ];exact HT bo _ (HZ _)
   have Om:XL 0=A:=FX 0
   have On:XT 0=XL (c.t.length - i):=FY 0
   have Oo:XG 0=XT i:=FZ 0
   have Oq:∀n:Nat,e9 c i j p (XL n) ⟨3,i,j,(n:Int)+1,0⟩=XL (n+1):=fun n=>by rw[FX (n+1),Lb,List.foldl_append,← FX];rfl
   have Ot:∀n:Nat,e9 c i j p (XT n) ⟨4,i,j,(n:Int)+1,0⟩=XT (n+1):=fun n=>by rw[FY (n+1),Lc,List.foldl_append,← FY];rfl
   have Ou:∀n:Nat,e9 c i j p (XG n) ⟨5,i,j,(n:Int),0⟩=XG (n+1):=fun n=>by rw[FZ (n+1),Ld,List.foldl_append,← FZ];rfl
   have di:(if j<c.c.length then e9 c i j p (XG c.g.length) ⟨6,i,j,0,cv⟩ else XG c.g.length)=tk c p i (j+1):=by
    rw[oY,List.foldl_append,List.foldl_append,List.foldl_append,List.foldl_append,hA,← FX,← FY,← FZ]
    split<;>rfl
   have qe:j<c.c.length→e9 c i j p (e9 c i j p D1 ⟨1,i,j,0,cv⟩) ⟨2,i,j,0,0⟩=A:=fun h=>by
    rw[← hA];unfold sG;rw[if_pos h,jE];rfl
   have xN:¬j<c.c.length→e9 c i j p D1 ⟨2,i,j,0,0⟩=A:=fun h=>by
    rw[← hA];unfold sG;rw[if_neg h];rfl
   clear FX FY FZ hA oY HW Bb tj ju
   refine .skip (.seq (.block (.sr ?_)))
   refine .sr ?_
   refine .seq (.ay [0,1,2] rfl ae (.rn [0,1] _ ?_))
   refine .pc rfl rfl rfl rfl rfl call79 (ll i j) ?_
   refine .done (.block ?_)
   refine .rangeFunc rfl call138 func138 rfl rfl rfl ?_
   refine .sr ?_
   refine .join (fun _:Unit=>([(1,.vp [.int .i64 i,.int .i64 j]),(2,.vp (cR c)),(3,.ptr 6 0)],⟨7,[(6,.box [.bY 5]),(5,u6 none),(4,.box [.int .i64 i,.int .i64 j]),(3,.box [.aW 2]),(2,.map (be (places c) (D1))),(1,.box [.func f xs ys]),(0,.box (cQ c))]⟩)) (fun _=>True) ?_ ?_
   ·skip
    refine .seq ?_
    refine .drawn (ms:=[0,1,0,4,12,31,63,127,255,127,639,1663,4095,8191,16383,32767,65535,32767,163839,524287,1048575,32767,2129919,32767,8421375,31490047,65044479,134217727,268435455]) (W:=[]) (items:=F0) rfl ae ae ae ?_
    iterate 7 refine .rx ?_
    refine .split (t:=15) rfl (fun cI=>?_) (fun cI=>?_)
    ·try subst cI
     try simp at cI
     iterate 8 refine .rx ?_
     refine .split (t:=23) rfl (fun fS=>?_) (fun fS=>?_)
     ·try subst fS
      try simp at fS
      have zK:i<c.t.length:=by simpa using dz
      have eo:j<c.c.length:=by simpa using gn
      have F1:c.t[i]=tv:=by rw[← mB,List.getD_eq_getElem?_getD,List.getElem?_eq_getElem zK];rfl
      have hgc:c.c[j]=cv:=by rw[← jE,List.getD_eq_getElem?_getD,List.getElem?_eq_getElem eo];rfl
      iterate 14 refine .rx ?_
      refine .done ?_
      refine .cs ?_ ?_<;>intro nK
      ·try simp at nK
       have pz:=pz ⟨zK,eo,nK⟩
       have zL:kB [.int .i64 ((i:Int)+1),.int .i64 ((j:Int)+1)] (be (places c) D)=some (some (.int .i64 d1)):=by
        have:=xJ (i+1) (j+1) D (places c)
        rw[if_pos (uq.2 ⟨zK,eo⟩),lf] at this
        exact this
       have u7:∀v,nJ [.int .i64 ((i:Int)+1),.int .i64 ((j:Int)+1)] [.int .i64 ((i:Int)+1),.int .i64 ((j:Int)+1)] (.int .i64 v) (be (places c) D)=some (be (places c) (bB D (i+1) (j+1) v)):=fun v=>HS (uq.2 ⟨zK,eo⟩) v
       have nV:(if d0<d1 then d0 else d1)=min d1 d0:=by split<;>omega
       refine .seq (.ay xD rfl ae (.rn fM _ ?_))
       refine .step rfl rfl (.yield rfl rfl rfl rfl rfl (by decide) rfl ?_)
       refine .rn ?_
       refine .block (.seq (.ay rF rfl ae (.rn gQ _ ?_)))
       refine .split (t:=60) rfl (fun kj=>?_) (fun kj=>?_)
       ·try subst kj
        try simp at kj
        have aP:d0<1099511627776:=by simpa using xE
        refine .rn [5,6] _ ?_
        refine .step rfl rfl (.pure rfl rfl rfl dM (by decide) (xL) (by first|rfl|simp[*]) ?_)
        rintro _ rfl
        refine .rn [8] [] ?_
        refine .done ?_
        refine .cs ?_ ?_<;>intro rN
        ·try simp at rN
         rw[if_pos ⟨aP,rN⟩] at pz
         refine .drawn (ms:=[0,0,2,0,0,16,56,0,0,384,0,1024,3968,8184,16383]) (W:=[14]) (items:=Oi) rfl ae ae ae ?_
         iterate 14 refine .rx ?_
         refine .wv ?_
         refine .done ?_
         change bZ _ _ _ _ _ _ _ _
         refine .rn [11] [] ?_
         refine .done (.fD rfl (.skip ?_))
         refine⟨(),trivial,by rw[pz];exact(.mk [] [] tn jX rfl rfl rfl)⟩
        try simp at rN
        rw[if_neg (fun hh=>by rw[rN] at hh;cases hh.2)] at pz
        refine .skip ?_
        change bZ _ _ _ _ _ _ _ _
        refine .rn [11] [] ?_
        refine .done (.fD rfl (.skip ?_))
        refine⟨(),trivial,by rw[pz];exact(.mk [] [] tn jX rfl rfl rfl)⟩
       try subst kj
       try simp at kj
       rw[if_neg (fun hh=>by simp[hh.1] at xE)] at pz
       refine .rn [5,6,7,8] [] ?_
       refine .done (.fD rfl (.skip ?_))
       change bZ _ _ _ _ _ _ _ _
       refine .rn [11] [] ?_
       refine .done (.fD rfl (.skip ?_))
       refine⟨(),trivial,by rw[pz];exact(.mk [] [] tn jX rfl rfl rfl)⟩
      try simp at nK
      have pz:=pQ (fun hh=>nK hh.2.2)
      refine .skip ?_
      refine⟨(),trivial,by rw[pz];exact(.mk [] [] tn jX rfl rfl rfl)⟩
     try subst fS
     try simp at fS
     have pz:=pQ (fun hh=>by simp[hh.2.1] at gn)
     iterate 13 refine .ux ?_
     refine .rx ?_
     refine .done (.fD rfl (.skip ?_))
     refine⟨(),trivial,by rw[pz];exact(.mk [] [] tn jX rfl rfl rfl)⟩
    try subst cI
    try simp at cI
    have pz:=pQ (fun hh=>by simp[hh.1] at dz)
    iterate 6 refine .ux ?_
    iterate 2 refine .rx ?_
    iterate 13 refine .ux ?_
    refine .rx ?_
    refine .done (.fD rfl (.skip ?_))
    refine⟨(),trivial,by rw[pz];exact(.mk [] [] tn jX rfl rfl rfl)⟩
   skip
   rintro _ _
   simp only
   clear pQ pz xL FU kI gp TW ov lf DY xE mB e2 d0 d1 pv tv hD
   refine .seq (.ay [0,1,2] rfl ae (.rn [0,1] _ ?_))
   refine .pc rfl rfl rfl rfl rfl call139 (tm i j) ?_
   refine .done (.block ?_)
   refine .rangeFunc rfl call166 func166 rfl rfl rfl ?_
   refine .sr ?_
   refine .sr ?_
   refine .sr ?_
   refine .join (fun _:Unit=>([(1,.vp [.int .i64 i,.int .i64 j]),(2,.vp (cR c)),(5,.func 167 [] [.ptr 9 0,.ptr 8 0])],⟨10,[(9,.box [.int .i64 2,.int .i64 i,.int .i64 j,.int .i64 0,.int .i64 0]),(8,.box [.bY 7]),(7,mf 6 c i j none),(6,.box [.bY 5]),(5,u6 none),(4,.box [.int .i64 i,.int .i64 j]),(3,.box [.aW 2]),(2,.map (be (places c) (A))),(1,.box [.func f xs ys]),(0,.box (cQ c))]⟩)) (fun _=>True) ?_ ?_
   ·skip
    refine .seq ?_
    refine .rec (aA:=[(1,.vp [.int .i64 i,.int .i64 j]),(2,.vp (cR c)),(5,.func 167 [] [.ptr 9 0,.ptr 8 0])]) (aV:=⟨10,[(9,.box [.int .i64 0,.int .i64 i,.int .i64 j,.int .i64 0,.int .i64 0]),(8,.box [.bY 7]),(7,mf 6 c i j none),(6,.box [.bY 5]),(5,u6 none),(4,.box [.int .i64 i,.int .i64 j]),(3,.box [.aW 2]),(2,.map (be (places c) (D1))),(1,.box [.func f xs ys]),(0,.box (cQ c))]⟩) (.mk [] [] tn jX rfl rfl rfl) ?_
    refine .ay H4 rfl ae (.rn ik _ ?_)
    refine .split (t:=21) rfl (fun dm=>?_) (fun dm=>?_)
    ·try subst dm
     try simp at dm
     have eo:j<c.c.length:=by simpa using gn
     have rK:c.c[j]=cv:=by rw[← jE,List.getD_eq_getElem?_getD,List.getElem?_eq_getElem eo];rfl
     have w1:=Eb c i j (D1) p f xs ys (1) (0) (cv) 0 0 0 hk ox nI (HX) hx hy dM hp
     have hA:=qe eo
     obtain⟨L1,xO⟩:∃L,e9 c i j p D1 ⟨1,i,j,0,cv⟩=L:=⟨_,rfl⟩
     have Ov:jJ L1:=xO▸TP bo HX
     rw[xO] at hA w1
     have w2:=Eb c i j (L1) p f xs ys (2) (0) (0) 1 0 cv hk ox nI (Ov) hx hy dM hp
     rw[hA] at w2
     refine .rn [7,8,9,10,11,12,13] _ ?_
     refine .step rfl rfl (.call rfl rfl rfl call167 (by decide) (((dP.frame (i:=0) rfl rfl w1)).mono ?_))
     rintro _ _ ⟨_,⟨rfl,rfl⟩,rfl⟩
     refine .rn [15,16,17] _ ?_
     refine .split (t:=32) rfl (fun dX=>?_) (fun dX=>?_)
     ·try subst dX
      try simp at dX
     try subst dX
     try simp at dX
     refine .rn [18] _ ?_
     refine .step rfl rfl (.call rfl rfl rfl call167 (by decide) (((dP.frame (i:=0) rfl rfl w2)).mono ?_))
     rintro _ _ ⟨_,⟨rfl,rfl⟩,rfl⟩
     refine .rn [20,21] [] ?_
     refine .done ?_
     refine .cs ?_ ?_<;>intro kP
     ·try simp at kP
     try simp at kP
     refine .skip ?_
     refine⟨(),trivial,(.mk [] [] tn jX rfl rfl rfl)⟩
    try subst dm
    try simp at dm
    have eo:¬j<c.c.length:=by simpa using gn
    have w2:=Eb c i j (D1) p f xs ys (2) (0) (0) 0 0 0 hk ox nI (HX) hx hy dM hp
    rw[xN eo] at w2
    refine .rn [7,8,9,10,11,12,13,14,15,16,17,18] _ ?_
    refine .step rfl rfl (.call rfl rfl rfl call167 (by decide) (((dP.frame (i:=0) rfl rfl w2)).mono ?_))
    rintro _ _ ⟨_,⟨rfl,rfl⟩,rfl⟩
    refine .rn [20,21] [] ?_
    refine .done ?_
    refine .cs ?_ ?_<;>intro kP
    ·try simp at kP
    try simp at kP
    refine .skip ?_
    refine⟨(),trivial,(.mk [] [] tn jX rfl rfl rfl)⟩
   skip
   rintro _ _
   simp only
   have A5:IntKind.i64.wrap ((c.t.length:Int) - (i:Int))=(c.t.length:Int) - (i:Int):=wrap64 (by omega) (by omega)
   refine .seq (.sr ?_)
   refine .block ?_
   refine .dw (fun z:Nat×Int×Int×Int=>([(1,.vp [.int .i64 i,.int .i64 j]),(2,.vp (cR c)),(5,.func 167 [] [.ptr 9 0,.ptr 8 0]),(6,.int .i64 ((z.1:Int)+1))],⟨10,[(9,.box [.int .i64 z.2.1,.int .i64 i,.int .i64 j,.int .i64 z.2.2.1,.int .i64 z.2.2.2]),(8,.box [.bY 7]),(7,mf 6 c i j none),(6,.box [.bY 5]),(5,u6 none),(4,.box [.int .i64 i,.int .i64 j]),(3,.box [.aW 2]),(2,.map (be (places c) (XL z.1))),(1,.box [.func f xs ys]),(0,.box (cQ c))]⟩)) (fun z=>z.1≤c.t.length - i) (fun z=>c.t.length - i - z.1) (0,2,0,0) (Nat.zero_le _) (by simp only[Om];exact(.mk [] [] tn jX rfl rfl rfl)) ?_
   rintro⟨n,k,l,w⟩ hn
   simp only at hn ⊢
   refine .seq (.sr ?_)
   refine .cs ?_ ?_<;>intro qI
   ·try simp at qI
    have jY:n<c.t.length - i:=by omega
    have w3:=Eb c i j (XL n) p f xs ys (3) ((n:Int)+1) (0) k l w hk ox nI (HY n) hx hy dM hp
    rw[Oq] at w3
    have u4:IntKind.i64.wrap ((n:Int)+1+1)=(n:Int)+1+1:=wrap64 (by omega) (by omega)
    refine .skip (.seq (.block (.seq (.ay eD rfl ae (.rn [0,1] _ ?_)))))
    refine .step rfl rfl (.call rfl rfl rfl call167 (by decide) (((dP.frame (i:=0) rfl rfl w3)).mono ?_))
    rintro _ _ ⟨_,⟨rfl,rfl⟩,rfl⟩
    refine .rn [3] [] ?_
    refine .done ?_
    refine .cs ?_ ?_<;>intro zM
    ·try simp at zM
    try simp at zM
    refine .skip (.rn ?_)
    refine⟨(n+1,3,(n:Int)+1,0),bp,bp,?_⟩
    simp only
    exact(.mk [] [] tn jX rfl rfl rfl)
   try simp at qI
   obtain rfl:n=c.t.length - i:=by omega
   refine .exit (.seq (.sr ?_))
   refine .block ?_
   refine .dw (fun z:Nat×Int×Int×Int=>([(1,.vp [.int .i64 i,.int .i64 j]),(2,.vp (cR c)),(5,.func 167 [] [.ptr 9 0,.ptr 8 0]),(7,.int .i64 ((z.1:Int)+1))],⟨10,[(9,.box [.int .i64 z.2.1,.int .i64 i,.int .i64 j,.int .i64 z.2.2.1,.int .i64 z.2.2.2]),(8,.box [.bY 7]),(7,mf 6 c i j none),(6,.box [.bY 5]),(5,u6 none),(4,.box [.int .i64 i,.int .i64 j]),(3,.box [.aW 2]),(2,.map (be (places c) (XT z.1))),(1,.box [.func f xs ys]),(0,.box (cQ c))]⟩)) (fun z=>z.1≤i) (fun z=>i - z.1) (0,k,l,w) (Nat.zero_le _) (by simp only[On];exact(.mk [] [] tn jX rfl rfl rfl)) ?_
   rintro⟨n,k,l,w⟩ hn
   simp only at hn ⊢
   refine .seq (.sr ?_)
   refine .cs ?_ ?_<;>intro sI
   ·try simp at sI
    have jY:n<i:=by omega
    have w3:=Eb c i j (XT n) p f xs ys (4) ((n:Int)+1) (0) k l w hk ox nI (HZ n) hx hy dM hp
    rw[Ot] at w3
    have u4:IntKind.i64.wrap ((n:Int)+1+1)=(n:Int)+1+1:=wrap64 (by omega) (by omega)
    refine .skip (.seq (.block (.seq (.ay eD rfl ae (.rn [0,1] _ ?_)))))
    refine .step rfl rfl (.call rfl rfl rfl call167 (by decide) (((dP.frame (i:=0) rfl rfl w3)).mono ?_))
    rintro _ _ ⟨_,⟨rfl,rfl⟩,rfl⟩
    refine .rn [3] [] ?_
    refine .done ?_
    refine .cs ?_ ?_<;>intro kj
    ·try simp at kj
    try simp at kj
    refine .skip (.rn ?_)
    refine⟨(n+1,4,(n:Int)+1,0),bp,bp,?_⟩
    simp only
    exact(.mk [] [] tn jX rfl rfl rfl)
   try simp at sI
   obtain rfl:i=n:=by omega
   refine .exit (.seq (.sr ?_))
   refine .block ?_
   refine .dw (fun z:Nat×Int×Int×Int=>([(1,.vp [.int .i64 i,.int .i64 j]),(2,.vp (cR c)),(5,.func 167 [] [.ptr 9 0,.ptr 8 0]),(63,.int .i64 c.g.length),(64,.int .i64 z.1)],⟨10,[(9,.box [.int .i64 z.2.1,.int .i64 i,.int .i64 j,.int .i64 z.2.2.1,.int .i64 z.2.2.2]),(8,.box [.bY 7]),(7,mf 6 c i j none),(6,.box [.bY 5]),(5,u6 none),(4,.box [.int .i64 i,.int .i64 j]),(3,.box [.aW 2]),(2,.map (be (places c) (XG z.1))),(1,.box [.func f xs ys]),(0,.box (cQ c))]⟩)) (fun z=>z.1≤c.g.length) (fun z=>c.g.length - z.1) (0,k,l,w) (Nat.zero_le _) (by simp only[Oo];exact(.mk [] [] tn jX rfl rfl rfl)) ?_
   rintro⟨n,k,l,w⟩ hn
   simp only at hn ⊢
   refine .sr ?_
   refine .seq ?_
   refine .cs ?_ ?_<;>intro qJ
   ·try simp at qJ
    have w3:=Eb c i j (XG n) p f xs ys (5) ((n:Int)) (0) k l w hk ox nI (H3 n) hx hy dM hp
    rw[Ou] at w3
    have u4:=fA n
    refine .skip (.seq (.block (.sr ?_)))
    refine .seq (.ay eD rfl ae (.rn [0,1] _ ?_))
    refine .step rfl rfl (.call rfl rfl rfl call167 (by decide) (((dP.frame (i:=0) rfl rfl w3)).mono ?_))
    rintro _ _ ⟨_,⟨rfl,rfl⟩,rfl⟩
    refine .rn [3] [] ?_
    refine .done ?_
    refine .cs ?_ ?_<;>intro iz
    ·try simp at iz
    try simp at iz
    refine .skip (.rn ?_)
    refine⟨(n+1,5,(n:Int),0),bp,bp,?_⟩
    simp only
    exact(.mk [] [] tn jX rfl rfl rfl)
   try simp at qJ
   obtain rfl:n=c.g.length:=by omega
   refine .exit (.sr ?_)
   refine .cs ?_ ?_<;>intro qK
   ·try simp at qK
    have eo:j<c.c.length:=by rw[qK] at gn;simpa using gn
    rw[if_pos eo] at di
    have rK:c.c[j]=cv:=by rw[← jE,List.getD_eq_getElem?_getD,List.getElem?_eq_getElem eo];rfl
    have w3:=Eb c i j (XG c.g.length) p f xs ys (6) (0) (cv) k l w hk ox nI (H3 _) hx hy dM hp
    rw[di] at w3
    refine .ay mC rfl ae (.rn ik _ ?_)
    refine .step rfl rfl (.call rfl rfl rfl call167 (by decide) (((dP.frame (i:=0) rfl rfl w3)).mono ?_))
    rintro _ _ ⟨_,⟨rfl,rfl⟩,rfl⟩
    refine .done ?_
    change mD _ _ _ _
    refine Eg rfl ?_
    change mD _ _ _ _
    refine Eg rfl ?_
    refine .rn ?_
    refine⟨j+1,bp,bp,bn⟩
   try simp at qK
   have eo:¬j<c.c.length:=by rw[qK] at gn;simpa using gn
   rw[if_neg eo] at di
   rw[di]
   refine .skip ?_
   change mD _ _ _ _
   refine Eg rfl ?_
   change mD _ _ _ _
   refine Eg rfl ?_
   refine .rn ?_
   refine⟨j+1,bp,bp,bn⟩
  try simp at A0
  obtain rfl:j=c.c.length+1:=by omega
  refine .exit (.rn ?_)
  refine⟨i+1,bp,bp,by rw[← z7c];exact bn⟩
 try simp at kO
 obtain rfl:i=c.t.length+1:=by omega
 rw[TR]
 refine .exit (.sr ?_)
 refine .ret (au ?_)
 exact zk
end Go.Am.Sl
end
