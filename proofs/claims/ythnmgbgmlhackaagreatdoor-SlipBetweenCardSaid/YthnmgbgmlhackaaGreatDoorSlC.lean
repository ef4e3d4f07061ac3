/-
 What is used in the proof of a statement (part SlC); no condition.
-/
import Derived.Test.YthnmgbgmlhackaaGreatDoorSlZ
import Derived.Test.YthnmgbgmlhackaaGreatDoorVm2
import Derived.Test.YthnmgbgmlhackaaGreatDoorSlT
import Derived.Test.YthnmgbgmlhackaaGreatDoorSlB
import Derived.Test.YthnmgbgmlhackaaGreatDoorSlA
set_option linter.all false
set_option maxHeartbeats 40000000
set_option maxRecDepth 100000
section
namespace Go.Am.Sl
open Go Go.Am Go.Proofs Tryz
attribute [local simp] eQ ij pV dH gk mz ai.back cS fW lg bm Nat.testBit_eq_decide_div_mod_eq cC iE mw vO ph gF pj iP cU nG nF pe gG pf n4 lZ pT n3 pg o7 o4 o8 o5 o6 o9 pa mR eZ jW eP pn nH oc po pq mQ pR pS gE my fK fy fL kV gg nS nv ny jF oR bj nZ fx bP bK lD ai.get ai.alloc ai.put ai.drop ai.empty bt cZ iw jn gA cz chunk List.range List.range.loop lh pW l9 bI b6 PV.aG PV.aF PV.dc PV.fu gY gH od PV.one PV.ids PV.cF gI beq_eq qD rE
attribute [local simp] cQ bQ fN pZ gJ fI
attribute [local simp ↓ high] sD rJ
theorem TX (c:aj):cR c=(cQ c):=rfl
noncomputable abbrev fa (c:aj) (i j:Int) (x:Option Code):aM:=xI f138 0 [(1,.vp [.int .i64 i,.int .i64 j]),(2,.vp (cR c)),(3,.ptr 1001 0),(52,.func 166 [] [.vp [.int .i64 i,.int .i64 j],.vp (cR c)])] x
def u9 (c:aj)(i j:Nat)(s:aq)(n:Nat)(L:bu)(K:JM→Nat→bu→Prop)(jm:JM)(n':Nat)(L':bu):Prop:=match stepOf c i j s with
 |some x=>K jm n' L'
 |none=>jm=none∧L'=L
variable [bF] in
theorem xhn (c:aj)(i j:Nat)(k l w k0 l0 w0:Int)(m n:Nat)(L:bu)(hk:bl c=0)(hj:j≤48)(N0:Nat)(ps:Array Tmp)(dt body:Code)(dp:a7)(K:JM→Nat→bu→Prop)(su:ps.size=1)(rO:ps.toList.all (Nat.blt · N0)=true)(hn:m+1005≤n)
  (Eh:bt 1000 L=none) (xO:bt 1001 L=none) (TY:bt (m+1002) L=none) (hL3:bt (m+1003) L=none) (TZ:bt (m+1004) L=none)
  (Bc:∀i,n≤i→bt i L=none) (hY:∀x,stepOf c i j ⟨k,i,j,l,w⟩=some x→∀n1,n≤n1→Ei prog N0 ps dt body dp n1 L (dh x) K):dP prog 167 [.int .i64 k,.int .i64 l,.int .i64 w,.ptr (m+1004) 0,.ptr (m+1003) 0] ⟨n,(m+1004,.box [.int .i64 k0,.int .i64 i,.int .i64 j,.int .i64 l0,.int .i64 w0])::(m+1003,.box [.bY (m+1002)])::(m+1002,fa c i j none)::(1001,.box [.bY 1000])::(1000,.loop N0 ps dt body dp none)::L⟩
  fun v ao=>∃(jm:JM) (n':Nat) (L':bu),n≤n'∧jZ n L L'∧u9 c i j ⟨k,i,j,l,w⟩ n L K jm n' L'∧v=.bool jm.isNone∧ao=⟨n',(m+1004,.box [.int .i64 k,.int .i64 i,.int .i64 j,.int .i64 l,.int .i64 w])::(m+1003,.box [.bY (m+1002)])::(m+1002,fa c i j (bif jm.isNone then none else some .ret))::(1001,.box [.bY 1000])::(1000,.loop N0 ps dt body dp jm.code)::L'⟩:=by
 have bo:=gR hk
 have eM:=bo.cl
 have cK:=FP c ⟨k,i,j,l,w⟩ hk
 have Ec:=TO c i j ⟨k,i,j,l,w⟩
 have hE:encS ⟨k,i,j,l,w⟩=.agg [.int .i64 k,.int .i64 i,.int .i64 j,.int .i64 l,.int .i64 w]:=rfl
 have hC:=TX c
 rw[hE] at cK
 unfold aH at cK
 have qd:iw (m+1002) L=L:=Lh TY
 have qp:∀x,cZ (m+1004) x L=L:=fun x=>wj TZ
 have hN:∀d,d≤1004→(n=m+d)=False:=fun d hd=>by simp;omega
 have hN':∀d,d≤1004→(m+d=n)=False:=fun d hd=>by simp;omega
 have hM:∀d,d≤1004→(n=d)=False:=fun d hd=>by simp;omega
 have qz:∀d,d≤1004→(d=n)=False:=fun d hd=>by simp;omega
 have qn:∀x,cZ n x L=L:=fun x=>wj (Bc _ (Nat.le_refl _))
 have qn1:∀x,cZ (n+1) x L=L:=fun x=>wj (Bc _ (by omega))
 refine .bT func167 rfl rfl ?_
 rcases Ec with⟨hd,cN⟩|⟨n1,i',wr,hd,hb,cN⟩|⟨n1,i',wr,hd,hb,cN⟩
 ·
  rw[A3 hd] at cK
  unfold iF at cK
  refine .sr ?_
  refine .sr ?_
  refine .seq (.ay eD rfl ae (.rn [0,1] _ ?_))
  refine .step rfl rfl (.yield rfl rfl rfl ((by simp:_=some (fa c i j none)).trans rfl) rfl (by decide) rfl ?_)
  refine .rn ?_
  refine .block (.seq (.ay jq rfl ae (.rn [0,1] _ ?_)))
  refine .pc rfl rfl rfl rfl rfl call95 (cK) ?_
  refine .rn [3,4,5,6,7,8,9,10,11,12] [] ?_
  refine .done (.seq (.ay qc rfl ae ?_))
  refine .rn [0,1] _ ?_
  refine .split (t:=63) rfl (fun il=>?_) (fun il=>?_)
  ·try subst il
   try simp at il
  try subst il
  try simp at il
  refine .rn [2,3,4,5,6,7,8,9,10,11,12,13,14,15,16,17] [] ?_
  refine .done (.fD rfl (.skip ?_))
  change bZ _ _ _ _ _ _ _ _
  refine .rn [3] [] ?_
  refine .done ?_
  refine .wk (aA:=[(8,.bool true)]) (aV:=⟨n+2,(m+1004,.box [.int .i64 k,.int .i64 i,.int .i64 j,.int .i64 l,.int .i64 w])::(m+1003,.box [.bY (m+1002)])::(m+1002,fa c i j none)::(1001,.box [.bY 1000])::(1000,.loop N0 ps dt body dp none)::L⟩) (.sub fB bR (by first|exact Nat.le_refl _|omega|(simp;omega))) ?_
  refine .ret ?_
  refine⟨_,iT,none,n+2,L,by omega,jZ.refl _ _,?_,rfl,rfl⟩
  unfold u9
  rw[cN]
  exact⟨rfl,rfl⟩
 ·
  rw[zD hd] at cK
  unfold iF at cK
  have ud:=(kN bo hd).2.2.2.2.2
  have lH:=u5 c wr j eM (by omega)
  rw[hb] at lH
  unfold aH at lH
  refine .sr ?_
  refine .sr ?_
  refine .seq (.ay eD rfl ae (.rn [0,1] _ ?_))
  refine .step rfl rfl (.yield rfl rfl rfl ((by simp:_=some (fa c i j none)).trans rfl) rfl (by decide) rfl ?_)
  refine .rn ?_
  refine .block (.seq (.ay jq rfl ae (.rn [0,1] _ ?_)))
  refine .pc rfl rfl rfl rfl rfl call95 (cK) ?_
  refine .rn [3,4,5,6,7,8,9,10,11,12] [] ?_
  refine .done (.seq (.ay qc rfl ae ?_))
  refine .rn [0,1] _ ?_
  refine .split (t:=63) rfl (fun il=>?_) (fun il=>?_)
  ·try subst il
   try simp at il
   refine .rn [2,3,4,5] _ ?_
   refine .pc rfl rfl rfl rfl rfl call96 (lH) ?_
   refine .rn [7,8] _ ?_
   refine .split (t:=70) rfl (fun iz=>?_) (fun iz=>?_)
   ·try subst iz
    try simp at iz
   try subst iz
   try simp at iz
   refine .rn [9,10,11,12,13,14,15,16,17] [] ?_
   refine .done (.fD rfl (.skip ?_))
   change bZ _ _ _ _ _ _ _ _
   refine .rn [3] [] ?_
   refine .done ?_
   refine .wk (aA:=[(8,.bool true)]) (aV:=⟨n+2,(m+1004,.box [.int .i64 k,.int .i64 i,.int .i64 j,.int .i64 l,.int .i64 w])::(m+1003,.box [.bY (m+1002)])::(m+1002,fa c i j none)::(1001,.box [.bY 1000])::(1000,.loop N0 ps dt body dp none)::L⟩) (.sub fB bR (by first|exact Nat.le_refl _|omega|(simp;omega))) ?_
   refine .ret ?_
   refine⟨_,iT,none,n+2,L,by omega,jZ.refl _ _,?_,rfl,rfl⟩
   unfold u9
   rw[cN]
   exact⟨rfl,rfl⟩
  try subst il
  try simp at il
 ·
  rw[zD hd] at cK
  unfold iF at cK
  have iA:=kN bo hd
  have ud:=iA.2.2.2.2.2
  have lH:=u5 c wr j eM (by omega)
  have eo:j+wr.length≤c.c.length:=by unfold hasB at hb;rw[bS,decide_eq_true_eq] at hb;exact hb.1
  rw[hb] at lH
  unfold aH at lH
  obtain⟨j1,Ee⟩:∃j1,j+wr.length=j1:=⟨_,rfl⟩
  have xK:IntKind.i64.wrap ((j:Int)+(wr.length:Int))=(j1:Int):=by rw[wrap64 (by omega) (by omega)];omega
  rw[Ee] at eo cN
  simp only[xK] at cK
  have H5:=hY _ cN (n+2) (by omega)
  have Bb:dh ⟨i,j,i',j1,n1,some ⟨k,i,j,l,w⟩⟩=.agg [.int .i64 i,.int .i64 j,.int .i64 i',.int .i64 j1,.int .i64 k,.int .i64 i,.int .i64 j,.int .i64 l,.int .i64 w,.int .i64 n1,.bool false]:=rfl
  rw[Bb] at H5
  clear xK hE hb hd iA ud Bb hY
  refine .sr ?_
  refine .sr ?_
  refine .seq (.ay eD rfl ae (.rn [0,1] _ ?_))
  refine .step rfl rfl (.yield rfl rfl rfl ((by simp:_=some (fa c i j none)).trans rfl) rfl (by decide) rfl ?_)
  refine .rn ?_
  refine .block (.seq (.ay jq rfl ae (.rn [0,1] _ ?_)))
  refine .pc rfl rfl rfl rfl rfl call95 (cK) ?_
  refine .rn [3,4,5,6,7,8,9,10,11,12] [] ?_
  refine .done (.seq (.ay qc rfl ae ?_))
  refine .rn [0,1] _ ?_
  refine .split (t:=63) rfl (fun il=>?_) (fun il=>?_)
  ·try subst il
   try simp at il
   refine .rn [2,3,4,5] _ ?_
   refine .pc rfl rfl rfl rfl rfl call96 (lH) ?_
   refine .rn [7,8] _ ?_
   refine .split (t:=70) rfl (fun iz=>?_) (fun iz=>?_)
   ·try subst iz
    try simp at iz
    refine .rn [9,10,11,12,13,14] _ ?_
    refine .step rfl rfl (.wk (aV:=⟨n+2,(m+1004,.box [.int .i64 k,.int .i64 i,.int .i64 j,.int .i64 l,.int .i64 w])::(m+1003,.box [.bY (m+1002)])::(1001,.box [.bY 1000])::(1000,.loop N0 ps dt body dp none)::L⟩) (.sub (jv.refl _) bR (Nat.le_refl _)) (.T0 (S:=[(m+1004,.box [.int .i64 k,.int .i64 i,.int .i64 j,.int .i64 l,.int .i64 w]),(m+1003,.box [.bY (m+1002)]),(1001,.box [.bY 1000]),(1000,.loop N0 ps dt body dp none)]) rfl (by first|rfl|simp[*]) (by first|rfl|(simp[*];done)) (by simp) su.symm rO (by decide) Ej H5 ?_))
    rintro jm n' L' mo ic sx hK
    have ic:=ic.mono (show n≤n+2 by omega)
    have yac:bt 1000 L'=none:=ic _ (by omega) Eh
    have yad:bt 1001 L'=none:=ic _ (by omega) xO
    have yae:bt (m+1002) L'=none:=ic _ (by omega) TY
    have yaf:bt (m+1003) L'=none:=ic _ (by omega) hL3
    have Ow:bt (m+1004) L'=none:=ic _ (by omega) TZ
    have qp':∀x,cZ (m+1004) x L'=L':=fun x=>wj Ow
    change bZ _ _ _ _ _ _ _ ⟨n',(1000,.loop N0 ps dt body dp jm.code)::(m+1004,.box [.int .i64 k,.int .i64 i,.int .i64 j,.int .i64 l,.int .i64 w])::(m+1003,.box [.bY (m+1002)])::(1001,.box [.bY 1000])::L'⟩
    refine .rn [16,17] [] ?_
    refine .done ?_
    refine .cs ?_ ?_<;>intro sJ
    ·try simp at sJ
     obtain⟨je,rfl⟩:∃je,jm=some je:=by cases jm with|none=>simp at sJ|some je=>exact⟨je,rfl⟩
     refine .ret ?_
     change bZ _ _ _ _ _ _ _ _
     refine .rn [3] [] ?_
     refine .done ?_
     refine .wk (aA:=[(8,.bool false)]) (aV:=⟨n',(m+1004,.box [.int .i64 k,.int .i64 i,.int .i64 j,.int .i64 l,.int .i64 w])::(m+1003,.box [.bY (m+1002)])::(m+1002,fa c i j (some .ret))::(1001,.box [.bY 1000])::(1000,.loop N0 ps dt body dp (JM.code (some je)))::L'⟩) (.sub fB bR (by first|exact Nat.le_refl _|omega|(simp;omega))) ?_
     refine .ret ?_
     refine⟨_,iT,some je,n',L',by omega,ic,?_,rfl,rfl⟩
     unfold u9
     rw[cN]
     exact hK
    try simp at sJ
    obtain rfl:jm=none:=by cases jm with|none=>rfl|some je=>simp at sJ
    refine .skip ?_
    change bZ _ _ _ _ _ _ _ _
    refine .rn [3] [] ?_
    refine .done ?_
    refine .wk (aA:=[(8,.bool true)]) (aV:=⟨n',(m+1004,.box [.int .i64 k,.int .i64 i,.int .i64 j,.int .i64 l,.int .i64 w])::(m+1003,.box [.bY (m+1002)])::(m+1002,fa c i j none)::(1001,.box [.bY 1000])::(1000,.loop N0 ps dt body dp none)::L'⟩) (.sub fB bR (by first|exact Nat.le_refl _|omega|(simp;omega))) ?_
    refine .ret ?_
    refine⟨_,iT,none,n',L',by omega,ic,?_,rfl,rfl⟩
    unfold u9
    rw[cN]
    exact hK
   try subst iz
   try simp at iz
  try subst il
  try simp at il
theorem z1o (i j:Nat){n T:Nat}(h:n<T):∃r,qH i j T=qH i j n++⟨3,i,j,(n:Int)+1,0⟩::r:=by
 obtain⟨d,rfl⟩:∃d,T=n+1+d:=⟨T - n - 1,by omega⟩
 clear h
 induction d with
 |zero=>exact⟨[],by rw[Nat.add_zero,Lb];rfl⟩
 |succ d ih=>obtain⟨r,hr⟩:=ih;exact⟨r++[⟨3,i,j,(n+1+d+1:Nat),0⟩],by rw[← Nat.add_assoc,Lb,hr];simp⟩
theorem zzu (i j:Nat){n T:Nat}(h:n<T):∃r,rL i j T=rL i j n++⟨4,i,j,(n:Int)+1,0⟩::r:=by
 obtain⟨d,rfl⟩:∃d,T=n+1+d:=⟨T - n - 1,by omega⟩
 clear h
 induction d with
 |zero=>exact⟨[],by rw[Nat.add_zero,Lc];rfl⟩
 |succ d ih=>obtain⟨r,hr⟩:=ih;exact⟨r++[⟨4,i,j,(n+1+d+1:Nat),0⟩],by rw[← Nat.add_assoc,Lc,hr];simp⟩
theorem zxv (i j:Nat){n T:Nat}(h:n<T):∃r,sH i j T=sH i j n++⟨5,i,j,(n:Int),0⟩::r:=by
 obtain⟨d,rfl⟩:∃d,T=n+1+d:=⟨T - n - 1,by omega⟩
 clear h
 induction d with
 |zero=>exact⟨[],by rw[Nat.add_zero,Ld]⟩
 |succ d ih=>obtain⟨r,hr⟩:=ih;exact⟨r++[⟨5,i,j,(n+1+d:Nat),0⟩],by rw[← Nat.add_assoc,Ld,hr];simp⟩
def Dj (m:Nat)(L:bu):Prop:=bt 1000 L=none∧bt 1001 L=none∧bt (m+1002) L=none∧bt (m+1003) L=none∧bt (m+1004) L=none
theorem Dj.new {m n:Nat}{L L':bu}(h:Dj m L)(hn:m+1005≤n)(hw:jZ n L L'):Dj m L':=⟨hw _ (by omega) h.1,hw _ (by omega) h.2.1,hw _ (by omega) h.2.2.1,hw _ (by omega) h.2.2.2.1,hw _ (by omega) h.2.2.2.2⟩
section
variable [bF]
theorem Ek {N:Nat}{ab:a7}{ps:Array Tmp}{dt body:Code}(c:aj)(i j:Nat)(hk:bl c=0)(hj:j≤48)(I:List aK→Nat→bu→Prop)(E:Option Nat→Nat→bu→Prop)(su:ps.size=1)(rO:ps.toList.all (Nat.blt · N)=true)(cP:∀pre n n' L,I pre n L→n≤n'→I pre n' L)
  (hY:∀pre x kD n L,steps c i j=pre++x::kD→1000≤n→I pre n L→Ei prog N ps dt body ab n L (dh x) fun jm n' L'=>match jm with|none=>I (pre++[x]) n' L'|some e=>E e n' L')
  (done rest:List aq) (k l w k0 l0 w0:Int) (m n:Nat) (L:bu) (iA:lG c i j=done++⟨k,i,j,l,w⟩::rest) (hC:I (cr c i j++done.filterMap (stepOf c i j)) n L) (hD:Dj m L) (hn:m+1005≤n) :
  dP prog 167 [.int .i64 k,.int .i64 l,.int .i64 w,.ptr (m+1004) 0,.ptr (m+1003) 0] ⟨n,(m+1004,.box [.int .i64 k0,.int .i64 i,.int .i64 j,.int .i64 l0,.int .i64 w0])::(m+1003,.box [.bY (m+1002)])::(m+1002,fa c i j none)::(1001,.box [.bY 1000])::(1000,.loop N ps dt body ab none)::L⟩
   fun v ao=>∃(jm:JM) (n':Nat) (L':bu),n≤n'∧Dj m L'∧(match jm with|none=>I (cr c i j++(done++[(⟨k,i,j,l,w⟩:aq)]).filterMap (stepOf c i j)) n' L'|some e=>E e n' L')∧v=.bool jm.isNone∧ao=⟨n',(m+1004,.box [.int .i64 k,.int .i64 i,.int .i64 j,.int .i64 l,.int .i64 w])::(m+1003,.box [.bY (m+1002)])::(m+1002,fa c i j (bif jm.isNone then none else some .ret))::(1001,.box [.bY 1000])::(1000,.loop N ps dt body ab jm.code)::L'⟩:=by
 refine dP.F2 fun hf=>?_
 have Bc:∀q,n≤q→bt q L=none:=fun q hq=>xP (xP (xP (xP (xP (hf q hq)))))
 refine(xhn c i j k l w k0 l0 w0 m n L hk hj N ps dt body ab (fun jm n' L'=>match jm with|none=>I (cr c i j++(done++[(⟨k,i,j,l,w⟩:aq)]).filterMap (stepOf c i j)) n' L'|some e=>E e n' L') su rO hn hD.1 hD.2.1 hD.2.2.1 hD.2.2.2.1 hD.2.2.2.2 Bc (fun x hx n1 jY=>?_)).mono ?_
 ·have h1:=hY (cr c i j++done.filterMap (stepOf c i j)) x (rest.filterMap (stepOf c i j)) n1 L (by
   show cr c i j++_=_
   rw[iA,List.filterMap_append,List.filterMap_cons,hx]
   simp) (by omega) (cP _ _ _ _ hC jY)
  have h2:cr c i j++(done++[(⟨k,i,j,l,w⟩:aq)]).filterMap (stepOf c i j)=cr c i j++done.filterMap (stepOf c i j)++[x]:=by
   rw[List.filterMap_append,List.filterMap_cons,hx,List.append_assoc];rfl
  rw[h2]
  exact h1
 rintro v ao ⟨jm,n',L',h1,h2,h3,h4,h5⟩
 refine⟨jm,n',L',h1,hD.new hn h2,?_,h4,h5⟩
 unfold u9 at h3
 cases cN:stepOf c i j ⟨k,i,j,l,w⟩ with
 |some x=>rw[cN] at h3;exact h3
 |none=>
  rw[cN] at h3
  obtain⟨rfl,rfl⟩:=h3
  rw[List.filterMap_append,List.filterMap_cons,cN]
  simp only[List.filterMap_nil,List.append_nil]
  exact cP _ _ _ _ hC h1
theorem Li {N b:Nat}{Q:jd}{ab:a7}{g0:Operand}{ps:Array Tmp}{dt body:Code}(c:aj)(i j:Nat)(L0:bu)(I:List aK→Nat→bu→Prop)(E:Option Nat→Nat→bu→Prop)(hk:bl c=0)(ox:i≤c.t.length)(nI:j≤c.c.length)(h0:I [] 1000 L0)(su:ps.size=1)(rO:ps.toList.all (Nat.blt · N)=true)
  (hg:cC ab g0=some (.func 138 [] [.vp [.int .i64 i,.int .i64 j],.vp (cR c)])) (cP:∀pre n n' L,I pre n L→n≤n'→I pre n' L)
  (hY:∀pre x kD n L,steps c i j=pre++x::kD→1000≤n→I pre n L→Ei prog N ps dt body ab n L (dh x) fun jm n' L'=>match jm with|none=>I (pre++[x]) n' L'|some e=>E e n' L')
  (hN:∀n L,1000≤n→I (steps c i j) n L→Q .normal ab ⟨n,L⟩) (hR:∀n L,E none n L→Q .ret ab ⟨n,L⟩) (hX:∀id n L,E (some id) n L→Q (.exit id) ab ⟨n,L⟩):VW prog N b (.rangeFunc g0 ps dt body) Q ab ⟨1000,L0⟩:=by
 have bo:=gR hk
 have oh:=bo.tl
 have eM:=bo.cl
 have sE:=bo.wc
 have rM:j≤48:=by omega
 have hC:=TX c
 have tm:=HP c i j
 unfold aH iF at tm
 obtain⟨e0,dz⟩:∃b,decide (i<c.t.length)=b:=⟨_,rfl⟩
 obtain⟨e1,gn⟩:∃b,decide (j<c.c.length)=b:=⟨_,rfl⟩
 obtain⟨cv,jE⟩:∃v,c.c.getD j 0=v:=⟨_,rfl⟩
 obtain⟨tv,mB⟩:∃v,c.t.getD i 0=v:=⟨_,rfl⟩
 have ja:=TN c i j
 have fg:=fA i
 have xK:=fA j
 refine .F2 fun kI=>?_
 have Eh:bt 1000 L0=none:=kI _ (by omega)
 have xO:bt 1001 L0=none:=kI _ (by omega)
 have Ox:∀x,cZ 1001 x L0=L0:=fun x=>wj xO
 refine .rangeFunc hg call138 func138 rfl rfl rfl ?_
 refine .Oy (N:=N) (ps:=ps) (dt:=dt) (body:=body) (R:=fun jm n L=>match jm with|none=>1000≤n∧I (steps c i j) n L|some e=>E e n L) (fun n L h=>hN n L h.1 h.2) (fun n L h=>hR n L h) (fun id n L h=>hX id n L h) ?_
 refine .sr ?_
 refine .T2 (fun z:Nat×bu=>([(1,.vp [.int .i64 i,.int .i64 j]),(2,.vp (cR c)),(3,.ptr 1001 0)],⟨z.1,(1001,.box [.bY 1000])::(1000,.loop N ps dt body ab none)::z.2⟩)) (fun z=>1002≤z.1∧bt 1000 z.2=none∧bt 1001 z.2=none∧I (cr c i j) z.1 z.2) ?_ ?_
 ·skip
  refine .seq ?_
  refine .drawn (ms:=[0,1,0,4,12,31,63,127,255,127,639,1663,4095,8191,16383,32767,65535,32767,163839,524287,1048575,32767,2129919,32767,8421375,31490047,65044479,134217727,268435455]) (W:=[]) (items:=F0) rfl ae ae ae ?_
  iterate 7 refine .rx ?_
  refine .split (t:=15) rfl (fun cI=>?_) (fun cI=>?_)
  ·try subst cI
   try simp at cI
   iterate 8 refine .rx ?_
   refine .split (t:=23) rfl (fun fS=>?_) (fun fS=>?_)
   ·try subst fS
    try simp at fS
    have zK:i<c.t.length:=by simpa using dz
    have eo:j<c.c.length:=by simpa using gn
    have F1:c.t[i]=tv:=by rw[← mB,List.getD_eq_getElem?_getD,List.getElem?_eq_getElem zK];rfl
    have hgc:c.c[j]=cv:=by rw[← jE,List.getD_eq_getElem?_getD,List.getElem?_eq_getElem eo];rfl
    iterate 14 refine .rx ?_
    refine .done ?_
    refine .cs ?_ ?_<;>intro nK
    ·try simp at nK
     have vY:cr c i j=[⟨i,j,i+1,j+1,0,none⟩]:=by unfold cr;rw[if_pos ⟨zK,eo,by rw[mB,jE];exact nK⟩]
     have H5:=hY [] ⟨i,j,i+1,j+1,0,none⟩ ((lG c i j).filterMap (stepOf c i j)) 1002 L0 (by show cr c i j++_=_;rw[vY];rfl) (by omega) (cP _ _ _ _ h0 (by omega))
     have Bb:dh ⟨i,j,i+1,j+1,0,none⟩=.agg [.int .i64 i,.int .i64 j,.int .i64 ((i:Int)+1),.int .i64 ((j:Int)+1),.int .i64 0,.int .i64 0,.int .i64 0,.int .i64 0,.int .i64 0,.int .i64 0,.bool true]:=rfl
     rw[Bb] at H5
     refine .seq (.ay xD rfl ae (.rn fM _ ?_))
     refine .step rfl rfl (.T0 (S:=[(1001,.box [.bY 1000]),(1000,.loop N ps dt body ab none)]) rfl (by first|rfl|simp[*]) (by first|rfl|(simp[*];done)) rfl su.symm rO (by decide) Ej H5 ?_)
     rintro jm n' L' mo ic sx hK
     have gp:bt 1000 L'=none:=ic _ (by omega) Eh
     have ju:bt 1001 L'=none:=ic _ (by omega) xO
     change bZ _ _ _ _ _ _ _ ⟨n',(1000,.loop N ps dt body ab jm.code)::(1001,.box [.bY 1000])::L'⟩
     refine .rn [11] [] ?_
     refine .done ?_
     refine .cs ?_ ?_<;>intro p6
     ·try simp at p6
      obtain⟨e,rfl⟩:∃e,jm=some e:=by cases jm with|none=>simp at p6|some e=>exact⟨e,rfl⟩
      refine .ret ?_
      refine lp.mk (N:=N) (ps:=ps) (dt:=dt) (body:=body) (ab:=ab) (aU:=[]) (R:=fun jm n L=>match jm with|none=>1000≤n∧I (steps c i j) n L|some e=>E e n L) (.inr rfl) (some e) L' ?_ gp (show E e n' L' from hK)
      exact bR
     try simp at p6
     obtain rfl:jm=none:=by cases jm with|none=>rfl|some e=>simp at p6
     refine .skip ?_
     refine⟨(n',L'),⟨mo,gp,ju,by rw[vY];exact hK⟩,(.sub fB bR (by first|exact Nat.le_refl _|omega|(simp;omega)))⟩
    try simp at nK
    have vY:cr c i j=[]:=by unfold cr;rw[if_neg (fun hh=>nK (by rw[← mB,← jE];exact hh.2.2))]
    refine .skip ?_
    refine⟨(1002,L0),⟨by simp,Eh,xO,by rw[vY];exact cP _ _ _ _ h0 (by omega)⟩,(.sub fB bR (by first|exact Nat.le_refl _|omega|(simp;omega)))⟩
   try subst fS
   try simp at fS
   have vY:cr c i j=[]:=by unfold cr;rw[if_neg (fun hh=>by simp[hh.2.1] at gn)]
   iterate 13 refine .ux ?_
   refine .rx ?_
   refine .done (.fD rfl (.skip ?_))
   refine⟨(1002,L0),⟨by simp,Eh,xO,by rw[vY];exact cP _ _ _ _ h0 (by omega)⟩,(.sub fB bR (by first|exact Nat.le_refl _|omega|(simp;omega)))⟩
  try subst cI
  try simp at cI
  have vY:cr c i j=[]:=by unfold cr;rw[if_neg (fun hh=>by simp[hh.1] at dz)]
  iterate 6 refine .ux ?_
  iterate 2 refine .rx ?_
  iterate 13 refine .ux ?_
  refine .rx ?_
  refine .done (.fD rfl (.skip ?_))
  refine⟨(1002,L0),⟨by simp,Eh,xO,by rw[vY];exact cP _ _ _ _ h0 (by omega)⟩,(.sub fB bR (by first|exact Nat.le_refl _|omega|(simp;omega)))⟩
 skip
 rintro⟨n1,L1⟩ ⟨jY,Oz,qe,OA⟩
 simp only at jY Oz qe OA ⊢
 obtain⟨m,rfl⟩:∃m,n1=m+1002:=⟨n1 - 1002,by omega⟩
 clear kI Eh xO Ox h0
 refine .F2 fun hf=>?_
 have Bc:∀q,m+1002≤q→bt q L1=none:=fun q hq=>xP (xP (hf q hq))
 have gp:=Oz
 have ju:=qe
 have nL:bt (m+1002) L1=none:=Bc _ (by omega)
 have nM:bt (m+1003) L1=none:=Bc _ (by omega)
 have nN:bt (m+1004) L1=none:=Bc _ (by omega)
 have hD:Dj m L1:=⟨gp,ju,nL,nM,nN⟩
 have T3:∀x,cZ (m+1002) x L1=L1:=fun x=>wj nL
 have qp2:∀x,cZ (m+1003) x L1=L1:=fun x=>wj nM
 have qp3:∀x,cZ (m+1004) x L1=L1:=fun x=>wj nN
 clear hf Bc
 refine .seq (.ay [0,1,2] rfl ae (.rn [0,1] _ ?_))
 refine .pc rfl rfl rfl rfl rfl call139 (tm) ?_
 refine .done (.block ?_)
 refine .wk (aA:=[(1,.vp [.int .i64 i,.int .i64 j]),(2,.vp (cR c)),(3,.ptr 1001 0),(52,.func 166 [] [.vp [.int .i64 i,.int .i64 j],.vp (cR c)])]) (aV:=⟨m+1002,(1001,.box [.bY 1000])::(1000,.loop N ps dt body ab none)::L1⟩) (.sub fB bR (by first|exact Nat.le_refl _|omega|(simp;omega))) ?_
 refine .rangeFunc rfl call166 func166 rfl rfl rfl ?_
 refine .sr ?_
 refine .sr ?_
 refine .sr ?_
 refine .T2 (fun z:Nat×bu=>([(1,.vp [.int .i64 i,.int .i64 j]),(2,.vp (cR c)),(5,.func 167 [] [.ptr (m+1004) 0,.ptr (m+1003) 0])],⟨z.1,(m+1004,.box [.int .i64 2,.int .i64 i,.int .i64 j,.int .i64 0,.int .i64 0])::(m+1003,.box [.bY (m+1002)])::(m+1002,fa c i j none)::(1001,.box [.bY 1000])::(1000,.loop N ps dt body ab none)::z.2⟩)) (fun z=>m+1005≤z.1∧Dj m z.2∧I (cr c i j++(sG c i j).filterMap (stepOf c i j)) z.1 z.2) ?_ ?_
 ·skip
  refine .seq ?_
  refine .wk (aA:=[(1,.vp [.int .i64 i,.int .i64 j]),(2,.vp (cR c)),(5,.func 167 [] [.ptr (m+1004) 0,.ptr (m+1003) 0])]) (aV:=⟨m+1005,(m+1004,.box [.int .i64 0,.int .i64 i,.int .i64 j,.int .i64 0,.int .i64 0])::(m+1003,.box [.bY (m+1002)])::(m+1002,fa c i j none)::(1001,.box [.bY 1000])::(1000,.loop N ps dt body ab none)::L1⟩) (.sub fB bR (by first|exact Nat.le_refl _|omega|(simp;omega))) ?_
  refine .ay H4 rfl ae (.rn ik _ ?_)
  refine .split (t:=21) rfl (fun dm=>?_) (fun dm=>?_)
  ·try subst dm
   try simp at dm
   have eo:j<c.c.length:=by simpa using gn
   have rK:c.c[j]=cv:=by rw[← jE,List.getD_eq_getElem?_getD,List.getElem?_eq_getElem eo];rfl
   have hA:sG c i j=[⟨1,i,j,0,cv⟩,⟨2,i,j,0,0⟩]:=by unfold sG;rw[if_pos eo,jE];rfl
   have w1:=Ek c i j hk rM I E su rO cP hY ([]) (⟨2,i,j,0,0⟩::(qH i j (c.t.length - i)++rL i j i++sH i j c.g.length++(if j<c.c.length then [⟨6,i,j,0,c.c.getD j 0⟩] else []))) (1) (0) (cv) (0) (0) (0) m (m+1005) L1 (by rw[ja,hA];simp) (by simpa using cP _ _ (m+1005) _ OA (by omega)) hD (Nat.le_refl _)
   refine .rn [7,8,9,10,11,12,13] _ ?_
   refine .step rfl rfl (.call rfl rfl rfl call167 (by decide) (((w1)).mono ?_))
   rintro _ _ ⟨jm,n',L',mo,cE,hK,rfl,rfl⟩
   refine .rn [15,16,17] _ ?_
   refine .split (t:=32) rfl (fun dX=>?_) (fun dX=>?_)
   ·try subst dX
    try simp at dX
    obtain⟨e,rfl⟩:∃e,jm=some e:=by cases jm with|none=>simp at dX|some e=>exact⟨e,rfl⟩
    have gp:=cE.1
    have ju:=cE.2.1
    have nL:=cE.2.2.1
    have nM:=cE.2.2.2.1
    have nN:=cE.2.2.2.2
    refine .rn [18,19,20,21] [] ?_
    refine .done (.eA rfl (.ret ?_))
    change mD _ _ _ _
    refine CB ((by simp:_=some (fa c i j (some .ret))).trans rfl) ?_
    refine lp.mk (N:=N) (ps:=ps) (dt:=dt) (body:=body) (ab:=ab) (aU:=[]) (R:=fun jm n L=>match jm with|none=>1000≤n∧I (steps c i j) n L|some e=>E e n L) (.inr rfl) (some e) L' ?_ gp (show E e n' L' from hK)
    refine bN.drop (by simp[*]) ?_
    exact bR
   try subst dX
   try simp at dX
   obtain rfl:jm=none:=by cases jm with|none=>rfl|some e=>simp at dX
   have gp:=cE.1
   have ju:=cE.2.1
   have nL:=cE.2.2.1
   have nM:=cE.2.2.2.1
   have nN:=cE.2.2.2.2
   have w2:=Ek c i j hk rM I E su rO cP hY ([⟨1,i,j,0,cv⟩]) (qH i j (c.t.length - i)++rL i j i++sH i j c.g.length++(if j<c.c.length then [⟨6,i,j,0,c.c.getD j 0⟩] else [])) (2) (0) (0) (1) (0) (cv) m n' L' (by rw[ja,hA];simp) (hK) cE (by omega)
   clear hK
   refine .rn [18] _ ?_
   refine .step rfl rfl (.call rfl rfl rfl call167 (by decide) (((w2)).mono ?_))
   rintro _ _ ⟨jm,n',L',mo,cE,hK,rfl,rfl⟩
   refine .rn [20,21] [] ?_
   refine .done ?_
   refine .cs ?_ ?_<;>intro kP
   ·try simp at kP
    obtain⟨e,rfl⟩:∃e,jm=some e:=by cases jm with|none=>simp at kP|some e=>exact⟨e,rfl⟩
    have gp:=cE.1
    have ju:=cE.2.1
    have nL:=cE.2.2.1
    have nM:=cE.2.2.2.1
    have nN:=cE.2.2.2.2
    refine .ret ?_
    change mD _ _ _ _
    refine CB ((by simp:_=some (fa c i j (some .ret))).trans rfl) ?_
    refine lp.mk (N:=N) (ps:=ps) (dt:=dt) (body:=body) (ab:=ab) (aU:=[]) (R:=fun jm n L=>match jm with|none=>1000≤n∧I (steps c i j) n L|some e=>E e n L) (.inr rfl) (some e) L' ?_ gp (show E e n' L' from hK)
    refine bN.drop (by simp[*]) ?_
    exact bR
   try simp at kP
   obtain rfl:jm=none:=by cases jm with|none=>rfl|some e=>simp at kP
   have gp:=cE.1
   have ju:=cE.2.1
   have nL:=cE.2.2.1
   have nM:=cE.2.2.2.1
   have nN:=cE.2.2.2.2
   refine .skip ?_
   refine⟨(n',L'),⟨by simp only;omega,cE,by rw[hA];exact hK⟩,(.sub fB bR (by first|exact Nat.le_refl _|omega|(simp;omega)))⟩
  try subst dm
  try simp at dm
  have eo:¬j<c.c.length:=by simpa using gn
  have hA:sG c i j=[⟨2,i,j,0,0⟩]:=by unfold sG;rw[if_neg eo];rfl
  have w2:=Ek c i j hk rM I E su rO cP hY ([]) (qH i j (c.t.length - i)++rL i j i++sH i j c.g.length++(if j<c.c.length then [⟨6,i,j,0,c.c.getD j 0⟩] else [])) (2) (0) (0) (0) (0) (0) m (m+1005) L1 (by rw[ja,hA];simp) (by simpa using cP _ _ (m+1005) _ OA (by omega)) hD (Nat.le_refl _)
  refine .rn [7,8,9,10,11,12,13,14,15,16,17,18] _ ?_
  refine .step rfl rfl (.call rfl rfl rfl call167 (by decide) (((w2)).mono ?_))
  rintro _ _ ⟨jm,n',L',mo,cE,hK,rfl,rfl⟩
  refine .rn [20,21] [] ?_
  refine .done ?_
  refine .cs ?_ ?_<;>intro kP
  ·try simp at kP
   obtain⟨e,rfl⟩:∃e,jm=some e:=by cases jm with|none=>simp at kP|some e=>exact⟨e,rfl⟩
   have gp:=cE.1
   have ju:=cE.2.1
   have nL:=cE.2.2.1
   have nM:=cE.2.2.2.1
   have nN:=cE.2.2.2.2
   refine .ret ?_
   change mD _ _ _ _
   refine CB ((by simp:_=some (fa c i j (some .ret))).trans rfl) ?_
   refine lp.mk (N:=N) (ps:=ps) (dt:=dt) (body:=body) (ab:=ab) (aU:=[]) (R:=fun jm n L=>match jm with|none=>1000≤n∧I (steps c i j) n L|some e=>E e n L) (.inr rfl) (some e) L' ?_ gp (show E e n' L' from hK)
   refine bN.drop (by simp[*]) ?_
   exact bR
  try simp at kP
  obtain rfl:jm=none:=by cases jm with|none=>rfl|some e=>simp at kP
  have gp:=cE.1
  have ju:=cE.2.1
  have nL:=cE.2.2.1
  have nM:=cE.2.2.2.1
  have nN:=cE.2.2.2.2
  refine .skip ?_
  refine⟨(n',L'),⟨by simp only;omega,cE,by rw[hA];exact hK⟩,(.sub fB bR (by first|exact Nat.le_refl _|omega|(simp;omega)))⟩
 skip
 rintro⟨n1,L1⟩ ⟨jY,hD,hI⟩
 simp only at jY hD hI ⊢
 have gp:=hD.1
 have ju:=hD.2.1
 have nL:=hD.2.2.1
 have nM:=hD.2.2.2.1
 have nN:=hD.2.2.2.2
 have A5:IntKind.i64.wrap ((c.t.length:Int) - (i:Int))=(c.t.length:Int) - (i:Int):=wrap64 (by omega) (by omega)
 refine .seq (.sr ?_)
 refine .block ?_
 refine .H6 (fun z:Nat×Int×Int×Int×Nat×bu=>([(1,.vp [.int .i64 i,.int .i64 j]),(2,.vp (cR c)),(5,.func 167 [] [.ptr (m+1004) 0,.ptr (m+1003) 0]),(6,.int .i64 ((z.1:Int)+1))],⟨z.2.2.2.2.1,(m+1004,.box [.int .i64 z.2.1,.int .i64 i,.int .i64 j,.int .i64 z.2.2.1,.int .i64 z.2.2.2.1])::(m+1003,.box [.bY (m+1002)])::(m+1002,fa c i j none)::(1001,.box [.bY 1000])::(1000,.loop N ps dt body ab none)::z.2.2.2.2.2⟩)) (fun z=>z.1≤c.t.length - i∧m+1005≤z.2.2.2.2.1∧Dj m z.2.2.2.2.2∧I (cr c i j++(sG c i j++qH i j z.1).filterMap (stepOf c i j)) z.2.2.2.2.1 z.2.2.2.2.2) (fun z=>c.t.length - i - z.1) (0,2,0,0,n1,L1) ⟨Nat.zero_le _,jY,hD,by simpa[qH] using hI⟩ (.sub fB bR (by first|exact Nat.le_refl _|omega|(simp;omega))) ?_
 clear hI hD jY gp ju nL nM nN
 rintro⟨n,k,l,w,n1,L1⟩ ⟨hn,jY,hD,hI⟩
 simp only at hn jY hD hI ⊢
 have gp:=hD.1
 have ju:=hD.2.1
 have nL:=hD.2.2.1
 have nM:=hD.2.2.2.1
 have nN:=hD.2.2.2.2
 refine .seq (.sr ?_)
 refine .cs ?_ ?_<;>intro qI
 ·try simp at qI
  have xQ:n<c.t.length - i:=by omega
  obtain⟨r,hr⟩:=z1o i j xQ
  have w3:=Ek c i j hk rM I E su rO cP hY (sG c i j++qH i j n) (r++(rL i j i++(sH i j c.g.length++(if j<c.c.length then [⟨6,i,j,0,c.c.getD j 0⟩] else [])))) (3) ((n:Int)+1) (0) (k) (l) (w) m n1 L1 (by rw[ja,hr];simp only[List.append_assoc,List.cons_append]) (hI) hD (jY)
  have u4:IntKind.i64.wrap ((n:Int)+1+1)=(n:Int)+1+1:=wrap64 (by omega) (by omega)
  refine .skip (.seq (.block (.seq (.ay eD rfl ae (.rn [0,1] _ ?_)))))
  refine .step rfl rfl (.call rfl rfl rfl call167 (by decide) (((w3)).mono ?_))
  rintro _ _ ⟨jm,n',L',mo,cE,hK,rfl,rfl⟩
  refine .rn [3] [] ?_
  refine .done ?_
  refine .cs ?_ ?_<;>intro zM
  ·try simp at zM
   obtain⟨e,rfl⟩:∃e,jm=some e:=by cases jm with|none=>simp at zM|some e=>exact⟨e,rfl⟩
   have gp:=cE.1
   have ju:=cE.2.1
   have nL:=cE.2.2.1
   have nM:=cE.2.2.2.1
   have nN:=cE.2.2.2.2
   refine .ret ?_
   change mD _ _ _ _
   refine CB ((by simp:_=some (fa c i j (some .ret))).trans rfl) ?_
   refine lp.mk (N:=N) (ps:=ps) (dt:=dt) (body:=body) (ab:=ab) (aU:=[]) (R:=fun jm n L=>match jm with|none=>1000≤n∧I (steps c i j) n L|some e=>E e n L) (.inr rfl) (some e) L' ?_ gp (show E e n' L' from hK)
   refine bN.drop (by simp[*]) ?_
   exact bR
  try simp at zM
  obtain rfl:jm=none:=by cases jm with|none=>rfl|some e=>simp at zM
  have gp:=cE.1
  have ju:=cE.2.1
  have nL:=cE.2.2.1
  have nM:=cE.2.2.2.1
  have nN:=cE.2.2.2.2
  refine .skip (.rn ?_)
  refine⟨(n+1,3,(n:Int)+1,0,n',L'),⟨xQ,by simp only;omega,cE,by rw[Lb,← List.append_assoc];exact hK⟩,by simp only;omega,?_⟩
  simp only
  exact(.sub fB bR (by first|exact Nat.le_refl _|omega|(simp;omega)))
 try simp at qI
 obtain rfl:n=c.t.length - i:=by omega
 refine .exit (.seq (.sr ?_))
 refine .block ?_
 refine .H6 (fun z:Nat×Int×Int×Int×Nat×bu=>([(1,.vp [.int .i64 i,.int .i64 j]),(2,.vp (cR c)),(5,.func 167 [] [.ptr (m+1004) 0,.ptr (m+1003) 0]),(7,.int .i64 ((z.1:Int)+1))],⟨z.2.2.2.2.1,(m+1004,.box [.int .i64 z.2.1,.int .i64 i,.int .i64 j,.int .i64 z.2.2.1,.int .i64 z.2.2.2.1])::(m+1003,.box [.bY (m+1002)])::(m+1002,fa c i j none)::(1001,.box [.bY 1000])::(1000,.loop N ps dt body ab none)::z.2.2.2.2.2⟩)) (fun z=>z.1≤i∧m+1005≤z.2.2.2.2.1∧Dj m z.2.2.2.2.2∧I (cr c i j++(sG c i j++qH i j (c.t.length - i)++rL i j z.1).filterMap (stepOf c i j)) z.2.2.2.2.1 z.2.2.2.2.2) (fun z=>i - z.1) (0,k,l,w,n1,L1) ⟨Nat.zero_le _,jY,hD,by simpa[rL] using hI⟩ (.sub fB bR (by first|exact Nat.le_refl _|omega|(simp;omega))) ?_
 clear hI hD jY gp ju nL nM nN
 rintro⟨n,k,l,w,n1,L1⟩ ⟨hn,jY,hD,hI⟩
 simp only at hn jY hD hI ⊢
 have gp:=hD.1
 have ju:=hD.2.1
 have nL:=hD.2.2.1
 have nM:=hD.2.2.2.1
 have nN:=hD.2.2.2.2
 refine .seq (.sr ?_)
 refine .cs ?_ ?_<;>intro sI
 ·try simp at sI
  have xQ:n<i:=by omega
  obtain⟨r,hr⟩:=zzu i j xQ
  have w3:=Ek c i j hk rM I E su rO cP hY (sG c i j++qH i j (c.t.length - i)++rL i j n) (r++(sH i j c.g.length++(if j<c.c.length then [⟨6,i,j,0,c.c.getD j 0⟩] else []))) (4) ((n:Int)+1) (0) (k) (l) (w) m n1 L1 (by rw[ja,hr];simp only[List.append_assoc,List.cons_append]) (hI) hD (jY)
  have u4:IntKind.i64.wrap ((n:Int)+1+1)=(n:Int)+1+1:=wrap64 (by omega) (by omega)
  refine .skip (.seq (.block (.seq (.ay eD rfl ae (.rn [0,1] _ ?_)))))
  refine .step rfl rfl (.call rfl rfl rfl call167 (by decide) (((w3)).mono ?_))
  rintro _ _ ⟨jm,n',L',mo,cE,hK,rfl,rfl⟩
  refine .rn [3] [] ?_
  refine .done ?_
  refine .cs ?_ ?_<;>intro kj
  ·try simp at kj
   obtain⟨e,rfl⟩:∃e,jm=some e:=by cases jm with|none=>simp at kj|some e=>exact⟨e,rfl⟩
   have gp:=cE.1
   have ju:=cE.2.1
   have nL:=cE.2.2.1
   have nM:=cE.2.2.2.1
   have nN:=cE.2.2.2.2
   refine .ret ?_
   change mD _ _ _ _
   refine CB ((by simp:_=some (fa c i j (some .ret))).trans rfl) ?_
   refine lp.mk (N:=N) (ps:=ps) (dt:=dt) (body:=body) (ab:=ab) (aU:=[]) (R:=fun jm n L=>match jm with|none=>1000≤n∧I (steps c i j) n L|some e=>E e n L) (.inr rfl) (some e) L' ?_ gp (show E e n' L' from hK)
   refine bN.drop (by simp[*]) ?_
   exact bR
  try simp at kj
  obtain rfl:jm=none:=by cases jm with|none=>rfl|some e=>simp at kj
  have gp:=cE.1
  have ju:=cE.2.1
  have nL:=cE.2.2.1
  have nM:=cE.2.2.2.1
  have nN:=cE.2.2.2.2
  refine .skip (.rn ?_)
  refine⟨(n+1,4,(n:Int)+1,0,n',L'),⟨xQ,by simp only;omega,cE,by rw[Lc,← List.append_assoc];exact hK⟩,by simp only;omega,?_⟩
  simp only
  exact(.sub fB bR (by first|exact Nat.le_refl _|omega|(simp;omega)))
 try simp at sI
 obtain rfl:i=n:=by omega
 refine .exit (.seq (.sr ?_))
 refine .block ?_
 refine .H6 (fun z:Nat×Int×Int×Int×Nat×bu=>([(1,.vp [.int .i64 i,.int .i64 j]),(2,.vp (cR c)),(5,.func 167 [] [.ptr (m+1004) 0,.ptr (m+1003) 0]),(63,.int .i64 c.g.length),(64,.int .i64 z.1)],⟨z.2.2.2.2.1,(m+1004,.box [.int .i64 z.2.1,.int .i64 i,.int .i64 j,.int .i64 z.2.2.1,.int .i64 z.2.2.2.1])::(m+1003,.box [.bY (m+1002)])::(m+1002,fa c i j none)::(1001,.box [.bY 1000])::(1000,.loop N ps dt body ab none)::z.2.2.2.2.2⟩)) (fun z=>z.1≤c.g.length∧m+1005≤z.2.2.2.2.1∧Dj m z.2.2.2.2.2∧I (cr c i j++(sG c i j++qH i j (c.t.length - i)++rL i j i++sH i j z.1).filterMap (stepOf c i j)) z.2.2.2.2.1 z.2.2.2.2.2) (fun z=>c.g.length - z.1) (0,k,l,w,n1,L1) ⟨Nat.zero_le _,jY,hD,by simpa[sH] using hI⟩ (.sub fB bR (by first|exact Nat.le_refl _|omega|(simp;omega))) ?_
 clear hI hD jY gp ju nL nM nN
 rintro⟨n,k,l,w,n1,L1⟩ ⟨hn,jY,hD,hI⟩
 simp only at hn jY hD hI ⊢
 have gp:=hD.1
 have ju:=hD.2.1
 have nL:=hD.2.2.1
 have nM:=hD.2.2.2.1
 have nN:=hD.2.2.2.2
 refine .sr ?_
 refine .seq ?_
 refine .cs ?_ ?_<;>intro qJ
 ·try simp at qJ
  have xQ:n<c.g.length:=by simpa using qJ
  obtain⟨r,hr⟩:=zxv i j xQ
  have w3:=Ek c i j hk rM I E su rO cP hY (sG c i j++qH i j (c.t.length - i)++rL i j i++sH i j n) (r++(if j<c.c.length then [⟨6,i,j,0,c.c.getD j 0⟩] else [])) (5) ((n:Int)) (0) (k) (l) (w) m n1 L1 (by rw[ja,hr];simp only[List.append_assoc,List.cons_append]) (hI) hD (jY)
  have u4:=fA n
  refine .skip (.seq (.block (.sr ?_)))
  refine .seq (.ay eD rfl ae (.rn [0,1] _ ?_))
  refine .step rfl rfl (.call rfl rfl rfl call167 (by decide) (((w3)).mono ?_))
  rintro _ _ ⟨jm,n',L',mo,cE,hK,rfl,rfl⟩
  refine .rn [3] [] ?_
  refine .done ?_
  refine .cs ?_ ?_<;>intro iz
  ·try simp at iz
   obtain⟨e,rfl⟩:∃e,jm=some e:=by cases jm with|none=>simp at iz|some e=>exact⟨e,rfl⟩
   have gp:=cE.1
   have ju:=cE.2.1
   have nL:=cE.2.2.1
   have nM:=cE.2.2.2.1
   have nN:=cE.2.2.2.2
   refine .ret ?_
   change mD _ _ _ _
   refine CB ((by simp:_=some (fa c i j (some .ret))).trans rfl) ?_
   refine lp.mk (N:=N) (ps:=ps) (dt:=dt) (body:=body) (ab:=ab) (aU:=[]) (R:=fun jm n L=>match jm with|none=>1000≤n∧I (steps c i j) n L|some e=>E e n L) (.inr rfl) (some e) L' ?_ gp (show E e n' L' from hK)
   refine bN.drop (by simp[*]) ?_
   exact bR
  try simp at iz
  obtain rfl:jm=none:=by cases jm with|none=>rfl|some e=>simp at iz
  have gp:=cE.1
  have ju:=cE.2.1
  have nL:=cE.2.2.1
  have nM:=cE.2.2.2.1
  have nN:=cE.2.2.2.2
  refine .skip (.rn ?_)
  refine⟨(n+1,5,(n:Int),0,n',L'),⟨xQ,by simp only;omega,cE,by rw[Ld,← List.append_assoc];exact hK⟩,by simp only;omega,?_⟩
  simp only
  exact(.sub fB bR (by first|exact Nat.le_refl _|omega|(simp;omega)))
 try simp at qJ
 obtain rfl:n=c.g.length:=by omega
 refine .exit (.sr ?_)
 refine .cs ?_ ?_<;>intro qK
 ·try simp at qK
  have eo:j<c.c.length:=by rw[qK] at gn;simpa using gn
  rw[if_pos eo,jE] at ja
  have rK:c.c[j]=cv:=by rw[← jE,List.getD_eq_getElem?_getD,List.getElem?_eq_getElem eo];rfl
  have w3:=Ek c i j hk rM I E su rO cP hY (sG c i j++qH i j (c.t.length - i)++rL i j i++sH i j c.g.length) ([]) (6) (0) (cv) (k) (l) (w) m n1 L1 (ja) (hI) hD (jY)
  refine .ay mC rfl ae (.rn ik _ ?_)
  refine .step rfl rfl (.call rfl rfl rfl call167 (by decide) (((w3)).mono ?_))
  rintro _ _ ⟨jm,n',L',mo,cE,hK,rfl,rfl⟩
  have gp:=cE.1
  have ju:=cE.2.1
  have nL:=cE.2.2.1
  have nM:=cE.2.2.2.1
  have nN:=cE.2.2.2.2
  rcases jm with _|e
  ·refine .done ?_
   change mD _ _ _ _
   refine Eg ((by simp:_=some (fa c i j none)).trans rfl) ?_
   refine lp.mk (N:=N) (ps:=ps) (dt:=dt) (body:=body) (ab:=ab) (aU:=[]) (R:=fun jm n L=>match jm with|none=>1000≤n∧I (steps c i j) n L|some e=>E e n L) (.inl rfl) none L' ?_ gp ⟨by show 1000≤n';omega,?_⟩
   ·refine bN.drop (by simp[*]) ?_
    exact bR
   show I (cr c i j++(lG c i j).filterMap (stepOf c i j)) n' L'
   rw[ja]
   exact hK
  refine .done ?_
  change mD _ _ _ _
  refine CB ((by simp:_=some (fa c i j (some .ret))).trans rfl) ?_
  refine lp.mk (N:=N) (ps:=ps) (dt:=dt) (body:=body) (ab:=ab) (aU:=[]) (R:=fun jm n L=>match jm with|none=>1000≤n∧I (steps c i j) n L|some e=>E e n L) (.inr rfl) (some e) L' ?_ gp (show E e n' L' from hK)
  refine bN.drop (by simp[*]) ?_
  exact bR
 try simp at qK
 have eo:¬j<c.c.length:=by rw[qK] at gn;simpa using gn
 rw[if_neg eo,List.append_nil] at ja
 refine .skip ?_
 change mD _ _ _ _
 refine Eg ((by simp:_=some (fa c i j none)).trans rfl) ?_
 refine lp.mk (N:=N) (ps:=ps) (dt:=dt) (body:=body) (ab:=ab) (aU:=[]) (R:=fun jm n L=>match jm with|none=>1000≤n∧I (steps c i j) n L|some e=>E e n L) (.inl rfl) none L1 ?_ gp ⟨by show 1000≤n1;omega,?_⟩
 ·refine bN.drop (by simp[*]) ?_
  exact bR
 show I (cr c i j++(lG c i j).filterMap (stepOf c i j)) n1 L1
 rw[ja]
 exact hI
end
attribute [local simp] cQ bQ fN pZ ti p7 p9 pw gJ fI
def jw (D:Nat→Nat→Int)(x:aK):Nat→Nat→Int:=bB D x.i x.j (min (D x.i x.j) (D x.i' x.j'+x.n))
def qL (c:aj)(D:Nat→Nat→Int)(q:Nat×Nat):Nat→Nat→Int:=if q.1=0∧q.2=0 then D else (steps c (c.t.length - q.1) (c.c.length - q.2)).foldl jw (bB D (c.t.length - q.1) (c.c.length - q.2) 1099511627776)
def va (c:aj)(a b:Nat):Nat→Nat→Int:=(kC (c.c.length+1) a b).foldl (qL c) (bB (fun _ _=>1099511627776) c.t.length c.c.length 0)
def bwd (c:aj):Nat→Nat→Int:=(places c).foldl (qL c) (bB (fun _ _=>1099511627776) c.t.length c.c.length 0)
theorem z2v (c:aj)(a b:Nat):va c a (b+1)=qL c (va c a b) (a,b):=by unfold va;rw[FV,List.foldl_append];rfl
theorem z8t (c:aj)(a:Nat):va c a (c.c.length+1)=va c (a+1) 0:=by unfold va;rw[FW]
theorem T4 (c:aj):va c (c.t.length+1) 0=bwd c:=by unfold va bwd;rw[Ef]
theorem Lj {D:Nat→Nat→Int}(h:jJ D){i j:Nat}{v:Int}(h0:0≤v)(h1:v≤1099511627776):jJ (bB D i j v):=fun a b=>by
 unfold bB;split
 ·exact⟨h0,h1⟩
 exact h a b
theorem z3t {D:Nat→Nat→Int}(h:jJ D){x:aK}(hn:0≤x.n):jJ (jw D x):=by
 have h1:=h x.i x.j;have h2:=h x.i' x.j'
 exact Lj h (by omega) (by omega)
theorem OB:∀(l:List aK) {D:Nat→Nat→Int},(∀x∈l,0≤x.n)→jJ D→jJ (l.foldl jw D)
 |[],_,_,h=>h
 |x::r,_,hx,h=>OB r (fun y hy=>hx y (List.mem_cons_of_mem _ hy)) (z3t h (hx x List.mem_cons_self))
theorem xbo {c:aj}(hr:Rt c){D:Nat→Nat→Int}(h:jJ D)(q:Nat×Nat):jJ (qL c D q):=by
 unfold qL;split
 ·exact h
 exact OB _ (fun x hx=>(ib hr hx).n0) (Lj h (by decide) (by decide))
theorem T5 {c:aj}(hr:Rt c)(a b:Nat):jJ (va c a b):=by
 have:∀(l:List (Nat×Nat)) (D:Nat→Nat→Int),jJ D→jJ (l.foldl (qL c) D):=by
  intro l
  induction l with
  |nil=>exact fun D h=>h
  |cons q r ih=>exact fun D h=>ih _ (xbo hr h q)
 exact this _ _ (Lj (fun _ _=>⟨by decide,by decide⟩) (by decide) (by decide))
def Kb (c:aj)(a b:Nat)(ps:List (Nat×Nat)):Prop:=∀i j,(i,j)∈ps↔i≤c.t.length∧j≤c.c.length∧(c.t.length - i<a∨(c.t.length - i=a∧c.c.length - j<b)∨(i=c.t.length∧j=c.c.length))
theorem xR (s:Option aq):∃a b d e f:Int,Ea s=[.int .i64 a,.int .i64 b,.int .i64 d,.int .i64 e,.int .i64 f]:=by
 cases s with
 |none=>exact⟨0,0,0,0,0,rfl⟩
 |some s=>exact⟨_,_,_,_,_,rfl⟩
theorem xS (x:aK){a b d e f:Int}(h:Ea x.s=[.int .i64 a,.int .i64 b,.int .i64 d,.int .i64 e,.int .i64 f]):dh x=.agg [.int .i64 x.i,.int .i64 x.j,.int .i64 x.i',.int .i64 x.j',.int .i64 a,.int .i64 b,.int .i64 d,.int .i64 e,.int .i64 f,.int .i64 x.n,.bool x.s.isNone]:=by
 unfold dh;rw[h];rfl
section
variable [bF]
theorem F3 (c:aj)(hk:bl c=0):aN prog 78 [aH c] fun r=>r=iF c.t.length c.c.length:=by
 have bo:=gR hk
 have hC:cR c=(cQ c):=rfl
 unfold aH iF
 rw[hC]
 refine .bT func78 rfl rfl ?_
 refine .sr ?_
 refine .sr ?_
 refine .ret (au ?_)
 exact zk
theorem OC (c:aj)(hk:bl c=0):aN prog 137 [aH c] fun r=>∃ps,(∀i j,(i,j)∈ps↔i≤c.t.length∧j≤c.c.length)∧r=.aC (be ps (bwd c)):=by
 have bo:=gR hk
 have oh:=bo.tl
 have eM:=bo.cl
 have sE:=bo.wc
 have hC:cR c=(cQ c):=rfl
 have zj:IntKind.i64.wrap ((c.t.length:Int)+1)=(c.t.length:Int)+1:=wrap64 (by omega) (by omega)
 have lX:IntKind.i64.wrap ((c.c.length:Int)+1)=(c.c.length:Int)+1:=wrap64 (by omega) (by omega)
 have jx:=F3 c hk
 have ll:=fun i j:Int=>HO c i j
 unfold aH at jx ll ⊢
 unfold iF at jx ll
 have hC':=hC
 rw[hC] at jx ll ⊢
 have km:nJ [.int .i64 c.t.length,.int .i64 c.c.length] [.int .i64 c.t.length,.int .i64 c.c.length] (.int .i64 0) []=some (be [(c.t.length,c.c.length)] (va c 0 0)):=by
  have:=HU (a:=c.t.length) (b:=c.c.length) (D:=fun _ _=>1099511627776) (ps:=[]) (by simp) 0
  exact this
 refine .bT func137 rfl rfl ?_
 refine .sr ?_
 refine .seq (.ay ik rfl ae (.rn [0,1] _ ?_))
 refine .pc rfl rfl rfl rfl rfl call78 (jx) ?_
 refine .rn [3,4,5,6] [] ?_
 refine .done (.seq (.sr ?_))
 refine .block ?_
 refine .dw (fun z:Nat×List (Nat×Nat)=>([(1,.ptr 0 0),(3,.ptr 2 0),(15,.int .i64 ((c.t.length:Int)+1)),(16,.int .i64 z.1)],⟨3,[(2,.box [.aW 1]),(1,.map (be (z.2) (va c z.1 0))),(0,.box (cQ c))]⟩)) (fun z=>z.1≤c.t.length+1∧Kb c z.1 0 z.2) (fun z=>c.t.length+1 - z.1) (0,[(c.t.length,c.c.length)]) ⟨by simp,fun i j=>by simp;omega⟩ bn ?_
 rintro⟨a,ps⟩ ⟨ha,gr⟩
 simp only at ha gr ⊢
 refine .sr ?_
 refine .seq ?_
 refine .cs ?_ ?_<;>intro gT
 ·try simp at gT
  have et:=fA a
  refine .skip (.seq (.block (.sr ?_)))
  refine .sr ?_
  refine .block ?_
  refine .dw (fun z:Nat×List (Nat×Nat)=>([(1,.ptr 0 0),(3,.ptr 2 0),(4,.int .i64 a),(15,.int .i64 ((c.t.length:Int)+1)),(16,.int .i64 a),(22,.int .i64 ((c.c.length:Int)+1)),(23,.int .i64 z.1)],⟨3,[(2,.box [.aW 1]),(1,.map (be (z.2) (va c a z.1))),(0,.box (cQ c))]⟩)) (fun z=>z.1≤c.c.length+1∧Kb c a z.1 z.2) (fun z=>c.c.length+1 - z.1) (0,ps) ⟨by simp,gr⟩ bn ?_
  clear gr
  rintro⟨b,ps⟩ ⟨hb,gr⟩
  simp only at hb gr ⊢
  refine .sr ?_
  refine .seq ?_
  refine .cs ?_ ?_<;>intro pt
  ·try simp at pt
   have qF:=fA b
   have hac:a≤c.t.length:=by omega
   have hbc:b≤c.c.length:=by omega
   obtain⟨i,hi⟩:∃i,c.t.length - a=i:=⟨_,rfl⟩
   obtain⟨j,hj⟩:∃j,c.c.length - b=j:=⟨_,rfl⟩
   have fg:IntKind.i64.wrap ((c.t.length:Int) - (a:Int))=(i:Int):=by rw[wrap64 (by omega) (by omega)];omega
   have xK:IntKind.i64.wrap ((c.c.length:Int) - (b:Int))=(j:Int):=by rw[wrap64 (by omega) (by omega)];omega
   have oY:=z2v c a b
   have hD:=T5 bo a b
   obtain⟨D,HW⟩:∃D,va c a b=D:=⟨_,rfl⟩
   rw[HW] at oY hD ⊢
   have ll:=ll i j
   refine .skip (.seq (.block (.sr ?_)))
   refine .sr ?_
   refine .seq (.seq ?_)
   refine .drawn (ms:=[0,0,2,7]) (W:=[2]) (items:=[.op 0,.op 1,.op 2,.ck 0,.op 3]) rfl ae ae ae ?_
   iterate 2 refine .rx ?_
   refine .wp rfl rfl rfl rfl rfl call78 (jx) ?_
   refine .ck rfl dO ?_
   refine .rx ?_
   refine .done ?_
   refine .cs ?_ ?_<;>intro kO
   ·try simp at kO
    have hz:a=0∧b=0:=by omega
    rw[qL,if_pos hz] at oY
    have hq:Kb c a (b+1) ps:=fun i' j'=>by rw[gr];omega
    clear hz kO
    refine .exit (.rn ?_)
    clear hi hj fg xK
    refine⟨(b+1,ps),⟨by simp only;omega,hq⟩,by simp only;omega,by rw[oY];exact bn⟩
   try simp at kO
   have hz:¬(a=0∧b=0):=by rintro⟨rfl,rfl⟩;rw[← hi,← hj] at kO;simp at kO
   rw[qL,if_neg hz] at oY
   simp only[hi,hj] at oY
   have ox:i≤c.t.length:=by omega
   have nI:j≤c.c.length:=by omega
   have F4:(i,j)∉ps:=fun hh=>by
    have:=(gr i j).1 hh
    omega
   have xU:nJ [.int .i64 i,.int .i64 j] [.int .i64 i,.int .i64 j] (.int .i64 1099511627776) (be ps D)=some (be (ps++[(i,j)]) (bB D i j 1099511627776)):=HU F4 _
   have xV:Kb c a (b+1) (ps++[(i,j)]):=fun i' j'=>by
    rw[List.mem_append,gr,List.mem_singleton,bG]
    omega
   have ju:=Lj hD (i:=i) (j:=j) (v:=1099511627776) (by decide) (by decide)
   obtain⟨qs,T6⟩:∃qs,ps++[(i,j)]=qs:=⟨_,rfl⟩
   obtain⟨D1,eH⟩:∃D1,bB D i j 1099511627776=D1:=⟨_,rfl⟩
   rw[T6] at xU xV
   rw[eH] at xU ju oY
   clear T6 eH HW
   refine .skip (.sr ?_)
   refine .seq (.ay [0,1,2] rfl ae (.rn [0,1] _ ?_))
   refine .pc rfl rfl rfl rfl rfl call79 (ll) ?_
   refine .done (.block ?_)
   refine .rec (aA:=[(1,.ptr 0 0),(3,.ptr 2 0),(4,.int .i64 a),(6,.ptr 3 0),(15,.int .i64 ((c.t.length:Int)+1)),(16,.int .i64 a),(22,.int .i64 ((c.c.length:Int)+1)),(23,.int .i64 b),(45,.func 138 [] [.vp [.int .i64 i,.int .i64 j],.vp (cR c)])]) (aV:=⟨1000,[(3,.box [.int .i64 i,.int .i64 j]),(2,.box [.aW 1]),(1,.map (be (qs) (D1))),(0,.box (cQ c))]⟩) bn ?_
   refine Li c i j _ (fun pre n L=>L=[(3,.box [.int .i64 i,.int .i64 j]),(2,.box [.aW 1]),(1,.map (be (qs) (pre.foldl jw D1))),(0,.box (cQ c))]) (fun _ _ _=>False) hk ox nI rfl rfl (by decide) rfl (fun _ _ _ _ h _=>h) ?_ ?_ (fun _ _ h=>h.elim) (fun _ _ _ h=>h.elim)
   ·skip
    rintro pre x kD n L iA hn rfl
    have hx:x∈steps c i j:=by rw[iA];simp
    have gz:=ib bo hx
    have oX:=gz.fi
    have uh:=gz.fj
    have Ed:=gz.n0
    have jY:=gz.n1
    have T7:=gz.it
    have KH:=gz.jt
    have dy:=gz.vc
    have ec:=gz.vd
    have hon:=gz.on
    obtain⟨m,rfl⟩:∃m,n=m+1000:=⟨n - 1000,by omega⟩
    have Lk:=OB pre (D:=D1) (fun y hy=>(ib bo (show y∈steps c i j by rw[iA];simp[hy])).n0) ju
    obtain⟨Dp,H7⟩:∃Dp,pre.foldl jw D1=Dp:=⟨_,rfl⟩
    have tj:(pre++[x]).foldl jw D1=bB Dp i j (min (Dp i j) (Dp x.i' x.j'+x.n)):=by rw[List.foldl_append,H7];show jw Dp x=_;unfold jw;rw[oX,uh]
    rw[H7] at Lk ⊢
    obtain⟨a0,a1,a2,a3,a4,fU⟩:=xR x.s
    rw[xS x fU,oX,uh]
    have lA:(i,j)∈qs:=(xV i j).2 (by omega)
    have cj:(x.i',x.j')∈qs:=(xV _ _).2 (by omega)
    have kI:kB [.int .i64 i,.int .i64 j] (be qs Dp)=some (some (.int .i64 (Dp i j))):=by
     have:=xJ i j Dp qs
     rw[if_pos lA] at this
     exact this
    have zL:kB [.int .i64 x.i',.int .i64 x.j'] (be qs Dp)=some (some (.int .i64 (Dp x.i' x.j'))):=by
     have:=xJ x.i' x.j' Dp qs
     rw[if_pos cj] at this
     exact this
    have u7:∀v,nJ [.int .i64 i,.int .i64 j] [.int .i64 i,.int .i64 j] (.int .i64 v) (be qs Dp)=some (be qs (bB Dp i j v)):=fun v=>HS lA v
    have h0:=Lk i j
    have h1:=Lk x.i' x.j'
    obtain⟨d0,ov⟩:∃d,Dp i j=d:=⟨_,rfl⟩
    obtain⟨d1,lf⟩:∃d,Dp x.i' x.j'=d:=⟨_,rfl⟩
    rw[ov,lf] at tj
    rw[ov] at kI h0
    rw[lf] at zL h1
    have DY:IntKind.i64.wrap (d1+x.n)=d1+x.n:=wrap64 (by omega) (by omega)
    have nV:(if d1+x.n<d0 then d1+x.n else d0)=min d0 (d1+x.n):=by split<;>omega
    clear hD ju oY gr xV F4 xU iA hx gz Lk oX uh fU
    unfold Ei
    refine .rn ?_
    refine .block ?_
    refine .drawn (ms:=[0,0,0,0,12,0,0,64,224,0,512,2016,4092,8191]) (W:=[13]) (items:=zG) rfl ae ae ae ?_
    iterate 13 refine .rx ?_
    refine .wv ?_
    refine .done ?_
    refine⟨none,[(3,.box [.int .i64 i,.int .i64 j]),(2,.box [.aW 1]),(1,.map (be (qs) (bB Dp i j (min d0 (d1+x.n))))),(0,.box (cQ c))],rfl,bR,lq,?_⟩
    show _=_
    rw[tj]
   skip
   rintro n L hn rfl
   rw[← oY]
   refine .rn ?_
   refine⟨(b+1,qs),⟨by simp only;omega,xV⟩,by simp only;omega,bn⟩
  try simp at pt
  obtain rfl:b=c.c.length+1:=by omega
  refine .exit (.rn ?_)
  refine⟨(a+1,ps),⟨by simp only;omega,fun i' j'=>by rw[gr];omega⟩,by simp only;omega,by rw[← z8t];exact bn⟩
 try simp at gT
 obtain rfl:a=c.t.length+1:=by omega
 rw[T4]
 refine .exit (.sr ?_)
 refine .ret (au ?_)
 exact⟨ps,fun i j=>by rw[gr];omega,rfl⟩
end
def aX (c:aj):Nat→Nat→Int:=fwd c fun _=>true
def Kp (c:aj)(ps:List (Nat×Nat)):Prop:=∀i j,(i,j)∈ps↔i≤c.t.length∧j≤c.c.length
def Ll (c:aj)(ps:List (Nat×Nat)):List PV:=cR c++[.aC (be (places c) (aX c)),.aC (be ps (bwd c)),.int .i64 (aX c c.t.length c.c.length)]
def ve (c:aj)(ps:List (Nat×Nat)):PV:=.agg (Ll c ps)
theorem Lm {c:aj}(hr:Rt c)(p:aK→Bool):jJ (fwd c p):=by rw[← TR];exact TT hr p _ _
theorem T8 {c:aj}(hr:Rt c):jJ (bwd c):=by rw[← T4];exact T5 hr _ _
def jy (c:aj)(x:aK):Bool:=decide (aX c x.i x.j+x.n+bwd c x.i' x.j'=aX c c.t.length c.c.length)
def CC (s:aq)(x:aK):Bool:=decide (x.s=some s)
theorem El {c:aj}{ps:List (Nat×Nat)}(h:Kp c ps){i j:Nat}(hi:i≤c.t.length)(hj:j≤c.c.length)(D:Nat→Nat→Int):kB [.int .i64 i,.int .i64 j] (be ps D)=some (some (.int .i64 (D i j))):=by
 have:=xJ i j D ps
 rw[if_pos ((h i j).2 ⟨hi,hj⟩)] at this
 exact this
theorem H8 (c:aj):Kp c (places c):=fun i j=>uq
section
variable [bF]
theorem OD (x:aK):aN prog 136 [dh x] fun r=>r=.bool true:=by
 obtain⟨a0,a1,a2,a3,a4,fU⟩:=xR x.s
 rw[xS x fU]
 refine .bT func136 rfl rfl ?_
 refine .sr ?_
 refine .sr ?_
 refine .ret (au ?_)
 exact zk
theorem Bd (c:aj)(hk:bl c=0):aN prog 77 [aH c] fun r=>∃ps,Kp c ps∧r=ve c ps:=by
 have bo:=gR hk
 have hC:cR c=(cQ c):=rfl
 have jx:=F3 c hk
 have qf:=HV c (fun _=>true) 136 [] [] hk rfl rfl call136 OD
 have Em:=OC c hk
 have hf:=El (H8 c) (Nat.le_refl _) (Nat.le_refl _) (aX c)
 rw[show fwd c (fun _=>true)=aX c from rfl] at qf
 unfold aH at jx qf Em ⊢
 unfold iF at jx
 rw[hC] at jx qf Em ⊢
 refine .bT func77 rfl rfl ?_
 refine .sr ?_
 refine .seq (.ay [0,1,2] rfl ae (.rn [0] _ ?_))
 refine .pc rfl rfl rfl rfl rfl call135 (qf) ?_
 refine .rn [2] [] ?_
 refine .done (.seq ?_)
 refine .drawn (ms:=[0,0,0,4,0,0,44,124,255,511]) (W:=[3,6,9]) (items:=[.op 0,.op 1,.op 2,.op 4,.op 5,.op 3,.ck 5,.ck 0,.op 6,.ck 0,.op 7,.op 8,.op 9]) rfl ae ae ae ?_
 iterate 5 refine .rx ?_
 refine .wr rfl rfl (by decide) (.pure rfl rfl rfl call137 (by decide) (Em) (by first|rfl|simp[*]) ?_)
 rintro _ ⟨ps,gr,rfl⟩
 refine .ck rfl dO ?_
 refine .ck rfl dO ?_
 refine .wp rfl rfl rfl rfl rfl call78 (jx) ?_
 refine .ck rfl dO ?_
 iterate 2 refine .rx ?_
 refine .wv ?_
 refine .done (.ret (au ?_))
 exact⟨ps,gr,rfl⟩
theorem T9 (c:aj)(ps:List (Nat×Nat))(x:aK)(hk:bl c=0)(gr:Kp c ps)(i j:Nat)(hx:x∈steps c i j)(hi:i≤c.t.length)(hj:j≤c.c.length):aN prog 80 [ve c ps,dh x] fun r=>r=.bool (jy c x):=by
 have bo:=gR hk
 have hC:cR c=(cQ c):=rfl
 obtain⟨a0,a1,a2,a3,a4,fU⟩:=xR x.s
 rw[xS x fU]
 have gz:=ib bo hx
 have h0:=Lm bo (fun _=>true) x.i x.j
 have h1:=T8 bo x.i' x.j'
 have hf:=El (H8 c) (show x.i≤c.t.length by rw[gz.fi];exact hi) (show x.j≤c.c.length by rw[gz.fj];exact hj) (aX c)
 have hb:=El gr gz.it gz.jt (bwd c)
 have Ed:=gz.n0
 have jY:=gz.n1
 unfold jy
 rw[show fwd c (fun _=>true)=aX c from rfl] at h0
 obtain⟨F,hF⟩:∃F,aX c x.i x.j=F:=⟨_,rfl⟩
 obtain⟨B,hB⟩:∃B,bwd c x.i' x.j'=B:=⟨_,rfl⟩
 rw[hF] at h0 hf ⊢
 rw[hB] at h1 hb ⊢
 have zj:IntKind.i64.wrap (F+x.n)=F+x.n:=wrap64 (by omega) (by omega)
 have lX:IntKind.i64.wrap (F+x.n+B)=F+x.n+B:=wrap64 (by omega) (by omega)
 unfold ve Ll
 rw[hC]
 clear hk gr hx gz fU h0 h1
 refine .bT func80 rfl rfl ?_
 refine .sr ?_
 refine .seq ?_
 refine .drawn (ms:=[0,1,0,4,15,0,32,127,0,256,0,1024,3840,8191,0,16384,65535,131071]) (W:=[]) (items:=[.op 0,.op 1,.op 2,.op 3,.op 4,.op 5,.op 6,.op 7,.op 8,.op 9,.op 10,.op 11,.op 12,.op 13,.op 14,.op 15,.op 16,.op 17]) rfl ae ae ae ?_
 iterate 18 refine .rx ?_
 refine .done (.ret (au ?_))
 exact zk
theorem OE (p:aK→Bool)(f:FuncId)(xs ys:List PV)(hx:PV.aF xs=true)(hy:PV.aF ys=true)(dM:∀cs w,(callFunc f cs).run prog w=.ok (.enter f cs) w)(hp:∀x:aK,aN prog f (xs++[dh x]++ys) fun r=>r=.bool (p x))(x:aK):aN prog 140 [dh x,.vp [.func f xs ys]] fun r=>r=.bool (!p x):=by
 obtain⟨a0,a1,a2,a3,a4,fU⟩:=xR x.s
 have xL:=hp x
 rw[xS x fU] at xL ⊢
 have TU:∀vh,b6 vh xs=some xs:=fun vh=>xM vh hx
 have TV:∀vh,b6 vh ys=some ys:=fun vh=>xM vh hy
 clear hp
 refine .bT func140 rfl rfl ?_
 refine .sr ?_
 refine .seq (.ay gQ rfl ae (.rn [0,1] _ ?_))
 refine .step rfl rfl (.pure rfl rfl rfl dM (by decide) (xL) (by first|rfl|simp[*]) ?_)
 rintro _ rfl
 refine .rn [3,4] [] ?_
 refine .done (.ret (au ?_))
 exact zk
theorem H9 (s:aq)(x:aK):aN prog 142 [dh x,.vp [.int .i64 s.k,.int .i64 s.a,.int .i64 s.i,.int .i64 s.l,.int .i64 s.w]] fun r=>r=.bool (CC s x):=by
 refine .bT func142 rfl rfl ?_
 obtain⟨i,j,i',j',n,s0⟩:=x;rcases s0 with _|s0
 ·
  unfold dh Ea CC
  refine .sr ?_
  refine .seq (.ay fM rfl ae (.rn eD _ ?_))
  refine .split (t:=7) rfl (fun c7=>?_) (fun c7=>?_)
  ·try subst c7
   try simp at c7
  try subst c7
  try simp at c7
  refine .rn [4,5,6,7,8,9] [] ?_
  refine .done (.ret (au ?_))
  exact zk
 ·
  unfold dh Ea CC
  have he:decide ((some s0:Option aq)=some s)=(s0.k==s.k&&s0.a==s.a&&s0.i==s.i&&s0.l==s.l&&s0.w==s.w):=by
   obtain⟨a,b,c,d,e⟩:=s
   obtain⟨a',b',c',d',e'⟩:=s0
   simp only[ax,aq.mk.injEq]
   rw[Bool.eq_iff_iff]
   simp[and_assoc]
  simp only[he]
  refine .sr ?_
  refine .seq (.ay fM rfl ae (.rn eD _ ?_))
  refine .split (t:=7) rfl (fun c7=>?_) (fun c7=>?_)
  ·try subst c7
   try simp at c7
   refine .rn [4,5,6,7,8,9] [] ?_
   refine .done (.ret (au ?_))
   exact zk
  try subst c7
  try simp at c7
theorem OF (c:aj)(ps:List (Nat×Nat))(p:aK→Bool)(f:FuncId)(xs ys:List PV)(hk:bl c=0)(hx:PV.aF xs=true)(hy:PV.aF ys=true)(dM:∀cs w,(callFunc f cs).run prog w=.ok (.enter f cs) w)(hp:∀x:aK,aN prog f (xs++[dh x]++ys) fun r=>r=.bool (p x)):aN prog 83 [ve c ps,.func f xs ys] fun r=>r=.bx [.int .i64 (fwd c (fun x=>!p x) c.t.length c.c.length - aX c c.t.length c.c.length),.bool (decide (fwd c (fun x=>!p x) c.t.length c.c.length<1099511627776))]:=by
 have bo:=gR hk
 have hC:cR c=(cQ c):=rfl
 have jx:=F3 c hk
 have qf:=HV c (fun x=>!p x) 140 [] [.vp [.func f xs ys]] hk rfl (by simp[PV.aF,PV.aG]) call140 (fun x=>OE p f xs ys hx hy dM hp x)
 have hf:=El (H8 c) (Nat.le_refl _) (Nat.le_refl _) (fwd c fun x=>!p x)
 have h0:=Lm bo (fun x=>!p x) c.t.length c.c.length
 have h1:=Lm bo (fun _=>true) c.t.length c.c.length
 rw[show fwd c (fun _=>true)=aX c from rfl] at h1
 have TU:∀vh,b6 vh xs=some xs:=fun vh=>xM vh hx
 have TV:∀vh,b6 vh ys=some ys:=fun vh=>xM vh hy
 obtain⟨G,hG⟩:∃G,fwd c (fun x=>!p x)=G:=⟨_,rfl⟩
 rw[hG] at qf hf h0 ⊢
 obtain⟨d,hd⟩:∃d,G c.t.length c.c.length=d:=⟨_,rfl⟩
 rw[hd] at hf h0 ⊢
 obtain⟨e,he⟩:∃e,aX c c.t.length c.c.length=e:=⟨_,rfl⟩
 rw[he] at h1
 have hw:IntKind.i64.wrap (d - e)=d - e:=wrap64 (by omega) (by omega)
 unfold ve Ll
 rw[he]
 unfold aH at jx qf
 unfold iF at jx
 rw[hC] at jx qf ⊢
 clear hk hp hd hG he h0 h1
 refine .bT func83 rfl rfl ?_
 refine .sr ?_
 refine .seq ?_
 refine .drawn (ms:=[0,1,0,7,0,16,63,127,255]) (W:=[3,6]) (items:=[.op 0,.op 1,.op 2,.op 4,.op 5,.op 3,.ck 5,.op 6,.op 7,.op 8]) rfl ae ae ae ?_
 iterate 5 refine .rx ?_
 refine .wr rfl rfl (by decide) (.Ln rfl rfl rfl call135 (by decide) (by first|(simp<;>rfl)|(simp[*]<;>rfl)|(simp[*];done)) (qf) ?_)
 rintro _ rfl
 refine .ck rfl dO ?_
 refine .wp rfl rfl rfl rfl rfl call78 (jx) ?_
 iterate 2 refine .rx ?_
 refine .done (.sr ?_)
 refine .ret (au ?_)
 exact zk
end
def qg (c:aj):List aK:=(graph c).filter (jy c)
theorem Ua {i M:Nat}(h:i<M):∃r,List.range M=List.range i++i::r:=by
 obtain⟨d,rfl⟩:∃d,M=i+1+d:=⟨M - i - 1,by omega⟩
 clear h
 induction d with
 |zero=>exact⟨[],by rw[Nat.add_zero,List.range_succ]⟩
 |succ d ih=>obtain⟨r,hr⟩:=ih;exact⟨r++[i+1+d],by rw[← Nat.add_assoc,List.range_succ,hr];simp⟩
theorem OG (c:aj){i j:Nat}(hi:i≤c.t.length)(hj:j≤c.c.length):∃r,places c=kC (c.c.length+1) i j++(i,j)::r:=by
 obtain⟨r1,h1⟩:=Ua (show i<c.t.length+1 by omega)
 obtain⟨r2,h2⟩:=Ua (show j<c.c.length+1 by omega)
 have hp:places c=(List.range (c.t.length+1)).flatMap (mW (c.c.length+1)):=rfl
 refine⟨r2.map (fun j=>(i,j))++r1.flatMap (mW (c.c.length+1)),?_⟩
 rw[hp,h1,List.flatMap_append,List.flatMap_cons]
 have h3:mW (c.c.length+1) i=mW j i++(i,j)::r2.map fun j=>(i,j):=by unfold mW;rw[h2,List.map_append];rfl
 rw[h3]
 unfold kC
 simp
theorem zty (c:aj){i j:Nat}(hi:i≤c.t.length)(hj:j≤c.c.length){pre kD:List aK}{x:aK}(hs:steps c i j=pre++x::kD)(hx:jy c x=true):∃r,qg c=ur c (jy c) i j++pre.filter (jy c)++x::r:=by
 obtain⟨r,hr⟩:=OG c hi hj
 unfold qg graph ur
 rw[hr,List.flatMap_append,List.flatMap_cons,List.filter_append,List.filter_append,hs,List.filter_append,List.filter_cons,if_pos hx]
 exact⟨kD.filter (jy c)++(r.flatMap fun p=>steps c p.1 p.2).filter (jy c),by simp only[List.append_assoc,List.cons_append]⟩
def D9 (L:bu):Prop:=bt 900 L=none∧bt 901 L=none
variable [bF] in
theorem p81 (c:aj)(ps:List (Nat×Nat))(hk:bl c=0)(gr:Kp c ps)(f:FuncId)(xs ys:List PV)(dM:∀cs w,(callFunc f cs).run prog w=.ok (.enter f cs) w)(L0:bu)(J:List aK→Nat→bu→Prop)(h0:J [] 900 L0)
  (cP:∀pre n n' L,J pre n L→n≤n'→J pre n' L)
  (rP:∀pre x kD n L,qg c=pre++x::kD→900≤n→J pre n L→Lo prog f (xs++[dh x]++ys) n L fun _ n' L'=>J (pre++[x]) n' L')
  (bJ:∀pre n L,J pre n L→900≤n→D9 L→∃L',J pre 1000 L'∧D9 L'∧∀i j:Nat,Wk 900 [(2,.ptr 900 0),(3,.ptr 901 0),(4,.int .i64 i),(11,.int .i64 ((c.t.length:Int)+1)),(12,.int .i64 i),(19,.int .i64 ((c.c.length:Int)+1)),(20,.int .i64 j)] ⟨n,(901,.box [.func f xs ys])::(900,.box (bQ c (.aC (be (places c) (aX c))) (.aC (be ps (bwd c))) (.int .i64 (aX c c.t.length c.c.length))))::L⟩ [(2,.ptr 900 0),(3,.ptr 901 0),(4,.int .i64 i),(11,.int .i64 ((c.t.length:Int)+1)),(12,.int .i64 i),(19,.int .i64 ((c.c.length:Int)+1)),(20,.int .i64 j)] ⟨1000,(901,.box [.func f xs ys])::(900,.box (bQ c (.aC (be (places c) (aX c))) (.aC (be ps (bwd c))) (.int .i64 (aX c c.t.length c.c.length))))::L'⟩) :
  dP prog 81 [ve c ps,.func f xs ys] ⟨900,L0⟩ fun v ao=>∃L',bN L' ao.bq∧J (qg c) ao.next L':=by
 have bo:=gR hk
 have oh:=bo.tl
 have eM:=bo.cl
 have hC:cR c=(cQ c):=rfl
 have zj:IntKind.i64.wrap ((c.t.length:Int)+1)=(c.t.length:Int)+1:=wrap64 (by omega) (by omega)
 have lX:IntKind.i64.wrap ((c.c.length:Int)+1)=(c.c.length:Int)+1:=wrap64 (by omega) (by omega)
 have ll:=fun i j:Nat=>HO c i j
 have tq:=fun (x:aK) i j hx hi hj=>T9 c ps x hk gr i j hx hi hj
 unfold ve Ll at tq ⊢
 unfold aH iF at ll
 rw[hC] at ll tq ⊢
 refine dP.F2 fun kI=>?_
 have mE:D9 L0:=⟨kI _ (by omega),kI _ (by omega)⟩
 have Ox:∀x,cZ 900 x L0=L0:=fun x=>wj mE.1
 have T3:∀x,cZ 901 x L0=L0:=fun x=>wj mE.2
 clear kI
 refine .bT func81 rfl rfl ?_
 refine .sr ?_
 refine .sr ?_
 refine .block ?_
 refine .H6 (fun z:Nat×bu=>([(2,.ptr 900 0),(3,.ptr 901 0),(11,.int .i64 ((c.t.length:Int)+1)),(12,.int .i64 z.1)],⟨1000,(901,.box [.func f xs ys])::(900,.box (bQ c (.aC (be (places c) (aX c))) (.aC (be ps (bwd c))) (.int .i64 (aX c c.t.length c.c.length))))::z.2⟩)) (fun z=>z.1≤c.t.length+1∧D9 z.2∧J (ur c (jy c) z.1 0) 1000 z.2) (fun z=>c.t.length+1 - z.1) (0,L0) ⟨by simp,mE,cP _ _ _ _ h0 (by omega)⟩ (.sub fB bR (by first|exact Nat.le_refl _|omega|(simp;done)|(simp;omega))) ?_
 clear mE Ox T3 h0
 rintro⟨i,L1⟩ ⟨hi,mE,hJ⟩
 simp only at hi mE hJ ⊢
 have ov:=mE.1
 have lf:=mE.2
 refine .sr ?_
 refine .seq ?_
 refine .cs ?_ ?_<;>intro jz
 ·try simp at jz
  have et:=fA i
  have ox:i≤c.t.length:=by omega
  refine .skip (.seq (.block (.sr ?_)))
  refine .sr ?_
  refine .block ?_
  refine .H6 (fun z:Nat×bu=>([(2,.ptr 900 0),(3,.ptr 901 0),(4,.int .i64 i),(11,.int .i64 ((c.t.length:Int)+1)),(12,.int .i64 i),(19,.int .i64 ((c.c.length:Int)+1)),(20,.int .i64 z.1)],⟨1000,(901,.box [.func f xs ys])::(900,.box (bQ c (.aC (be (places c) (aX c))) (.aC (be ps (bwd c))) (.int .i64 (aX c c.t.length c.c.length))))::z.2⟩)) (fun z=>z.1≤c.c.length+1∧D9 z.2∧J (ur c (jy c) i z.1) 1000 z.2) (fun z=>c.c.length+1 - z.1) (0,L1) ⟨by simp,mE,hJ⟩ (.sub fB bR (by first|exact Nat.le_refl _|omega|(simp;done)|(simp;omega))) ?_
  clear mE ov lf hJ
  rintro⟨j,L1⟩ ⟨hj,mE,hJ⟩
  simp only at hj mE hJ ⊢
  have ov:=mE.1
  have lf:=mE.2
  refine .sr ?_
  refine .seq ?_
  refine .cs ?_ ?_<;>intro dm
  ·try simp at dm
   have qF:=fA j
   have nI:j≤c.c.length:=by omega
   have ll:=ll i j
   refine .skip (.seq (.block (.sr ?_)))
   refine .seq (.ay kg rfl ae (.rn gQ _ ?_))
   refine .pc rfl rfl rfl rfl rfl call79 (ll) ?_
   refine .done (.block ?_)
   refine .wk (aA:=(28,.func 138 [] [.vp [.int .i64 i,.int .i64 j],.vp (cR c)])::[(2,.ptr 900 0),(3,.ptr 901 0),(4,.int .i64 i),(11,.int .i64 ((c.t.length:Int)+1)),(12,.int .i64 i),(19,.int .i64 ((c.c.length:Int)+1)),(20,.int .i64 j)]) (aV:=⟨1000,(901,.box [.func f xs ys])::(900,.box (bQ c (.aC (be (places c) (aX c))) (.aC (be ps (bwd c))) (.int .i64 (aX c c.t.length c.c.length))))::L1⟩) (.sub fB bR (by first|exact Nat.le_refl _|omega|(simp;done)|(simp;omega))) ?_
   refine Li c i j _ (fun pre n L=>∃Lw,L=(901,.box [.func f xs ys])::(900,.box (bQ c (.aC (be (places c) (aX c))) (.aC (be ps (bwd c))) (.int .i64 (aX c c.t.length c.c.length))))::Lw∧D9 Lw∧J (ur c (jy c) i j++pre.filter (jy c)) n Lw) (fun _ _ _=>False) hk ox nI ⟨L1,rfl,mE,by simpa using hJ⟩ rfl (by decide) rfl (fun pre n n' L ⟨Lw,h1,h2,h3⟩ h=>⟨Lw,h1,h2,cP _ _ _ _ h3 h⟩) ?_ ?_ (fun _ _ h=>h.elim) (fun _ _ _ h=>h.elim)
   ·skip
    clear mE ov lf hJ
    rintro pre x kD n _ iA hn ⟨Lw,rfl,mE,hJ⟩
    have hx:x∈steps c i j:=by rw[iA];simp
    have tq:=tq x i j hx ox nI
    have xW:=fun ht:jy c x=true=>zty c ox nI iA ht
    have En:(pre++[x]).filter (jy c)=pre.filter (jy c)++if jy c x=true then [x] else []:=by rw[List.filter_append,List.filter_cons,List.filter_nil]
    obtain⟨m,rfl⟩:∃m,n=m+1000:=⟨n - 1000,by omega⟩
    refine VW.F2 fun hf=>?_
    have DG:bt (m+1000) Lw=none:=xP (xP (hf _ (Nat.le_refl _)))
    have ov:=mE.1
    have lf:=mE.2
    have qpn:∀x,cZ (m+1000) x Lw=Lw:=fun x=>wj DG
    obtain⟨a0,a1,a2,a3,a4,fU⟩:=xR x.s
    have Lq:∀r,qg c=ur c (jy c) i j++pre.filter (jy c)++x::r→_:=fun r hr=>rP _ x r (m+1001) Lw hr (by omega) (cP _ _ _ _ hJ (by omega))
    rw[xS x fU] at tq Lq ⊢
    obtain⟨tb,Ia⟩:∃b,jy c x=b:=⟨_,rfl⟩
    rw[Ia] at tq xW En
    clear hf iA hx fU rP bJ
    refine .rn ?_
    refine .block (.seq (.ay [0,1,2] rfl ae (.rn [0,1] _ ?_)))
    refine .pc rfl rfl rfl rfl rfl call80 (tq) ?_
    refine .done ?_
    refine .cs ?_ ?_<;>intro dX
    ·try simp at dX
     obtain⟨r,hr⟩:=xW dX
     have Lq:=(Lq r hr).OH (S:=[(m+1000,.box [.int .i64 x.i,.int .i64 x.j,.int .i64 x.i',.int .i64 x.j',.int .i64 a0,.int .i64 a1,.int .i64 a2,.int .i64 a3,.int .i64 a4,.int .i64 x.n,.bool x.s.isNone]),(901,.box [.func f xs ys]),(900,.box (bQ c (.aC (be (places c) (aX c))) (.aC (be ps (bwd c))) (.int .i64 (aX c c.t.length c.c.length))))]) Ej
     refine .ay [0,1,2] rfl ae (.rn [0,1] _ ?_)
     refine .step rfl rfl (.call rfl rfl rfl dM (by decide) (((Lq)).mono ?_))
     rintro v _ ⟨n',L',mo,ic,hK,rfl⟩
     refine .done ?_
     refine⟨none,(901,.box [.func f xs ys])::(900,.box (bQ c (.aC (be (places c) (aX c))) (.aC (be ps (bwd c))) (.int .i64 (aX c c.t.length c.c.length))))::L',rfl,?_,?_,?_⟩
     ·have e0:bt (m+1000) L'=none:=ic _ (by omega) DG
      exact bN.skip (by simp[*]) (bN.refl _)
     ·refine jZ.gV rfl (jZ.gV rfl ?_)
      intro q hq Cd
      exact ic q (by omega) (xP (xP Cd))
     show ∃Lw,_=_∧_
     exact⟨L',rfl,⟨ic _ (by omega) ov,ic _ (by omega) lf⟩,by rw[En,if_pos dX,← List.append_assoc];exact hK⟩
    try simp at dX
    refine .skip ?_
    refine⟨none,(901,.box [.func f xs ys])::(900,.box (bQ c (.aC (be (places c) (aX c))) (.aC (be ps (bwd c))) (.int .i64 (aX c c.t.length c.c.length))))::Lw,rfl,?_,jZ.refl _ _,?_⟩
    ·exact bN.skip (by simp[*]) (bN.refl _)
    show ∃Lw,_=_∧_
    exact⟨Lw,rfl,mE,by rw[En,if_neg (by rw[dX];simp),List.append_nil];exact cP _ _ _ _ hJ (by simp)⟩
   skip
   clear mE ov lf hJ
   rintro n _ hn ⟨Lw,rfl,mE,hJ⟩
   obtain⟨L2,Ub,rm,uX⟩:=bJ _ n Lw hJ (by omega) mE
   rw[← z4k] at Ub
   refine .wk (.trans (.sub (aA:=[(2,.ptr 900 0),(3,.ptr 901 0),(4,.int .i64 i),(11,.int .i64 ((c.t.length:Int)+1)),(12,.int .i64 i),(19,.int .i64 ((c.c.length:Int)+1)),(20,.int .i64 j)]) fB (bN.refl _) (Nat.le_refl _)) (uX i j)) ?_
   refine .rn ?_
   refine⟨(j+1,L2),⟨by simp only;omega,rm,Ub⟩,by simp only;omega,(.sub fB bR (by first|exact Nat.le_refl _|omega|(simp;done)|(simp;omega)))⟩
  try simp at dm
  obtain rfl:j=c.c.length+1:=by omega
  refine .exit (.rn ?_)
  refine⟨(i+1,L1),⟨by simp only;omega,mE,by simp only[← z9n];exact hJ⟩,by simp only;omega,(.sub fB bR (by first|exact Nat.le_refl _|omega|(simp;done)|(simp;omega)))⟩
 try simp at jz
 obtain rfl:i=c.t.length+1:=by omega
 refine .exit ?_
 exact⟨_,rfl,L1,bN.skip lf (bN.skip ov (bN.refl _)),by rw[zy2] at hJ;exact hJ⟩
theorem uu (c:aj)(ps:List (Nat×Nat)):ve c ps=.agg (bQ c (.aC (be (places c) (aX c))) (.aC (be ps (bwd c))) (.int .i64 (aX c c.t.length c.c.length))):=rfl
def rQ (c:aj)(s:aq):Option Int:=match aJ c s with
 |some (n,i',w)=>if hasB c s.i.toNat w then some (aX c s.a.toNat s.i.toNat+n+bwd c i' (s.i.toNat+w.length) - aX c c.t.length c.c.length) else none
 |none=>none
def nO (c:aj)(s:aq):Int:=fwd c (fun x=>!CC s x) c.t.length c.c.length
theorem Uc {c:aj}{j:Nat}{l:List Int}(h:hasB c j l=true):j+l.length≤c.c.length:=by unfold hasB at h;rw[bS,decide_eq_true_eq] at h;exact h.1
theorem Ud {c:aj}{s:aq}{n:Int}{i':Nat}{w:List Int}(h:aJ c s=some (n,i',w)):0≤s.a∧s.a≤(c.t.length:Int)∧0≤s.i:=by
 unfold aJ at h
 split at h
 ·rename_i hh;exact hh
 cases h
theorem Ue {c:aj}(hr:Rt c):jJ (aX c):=Lm hr _
theorem xdv (c:aj)(s:aq):bl c≠0∨(bl c=0∧aJ c s=none∧rQ c s=none)∨(bl c=0∧∃n i' w,aJ c s=some (n,i',w)∧hasB c s.i.toNat w=false∧rQ c s=none)∨
  (bl c=0∧∃n i' w,aJ c s=some (n,i',w)∧hasB c s.i.toNat w=true∧rQ c s=some (aX c s.a.toNat s.i.toNat+n+bwd c i' (s.i.toNat+w.length) - aX c c.t.length c.c.length)):=by
 by_cases hk:bl c=0
 ·refine .inr ?_
  unfold rQ
  rcases hd:aJ c s with _|⟨n,i',w⟩
  ·exact .inl ⟨hk,rfl,rfl⟩
  refine .inr ?_
  cases hb:hasB c s.i.toNat w
  ·exact .inl ⟨hk,n,i',w,rfl,hb,by simp[hb]⟩
  exact .inr ⟨hk,n,i',w,rfl,hb,by simp[hb]⟩
 exact .inl hk
section
variable [bF]
theorem Ib (c:aj)(hB:BC c):aN prog 43 [aH c] fun r=>r=.bx [.int .i64 (if bl c=0 then aX c c.t.length c.c.length else 0),.int .i64 (bl c)]:=by
 have ct:=sB c hB
 have fY:=Bd c
 have hC:cR c=(cQ c):=rfl
 obtain⟨e,he⟩:∃e,bl c=e:=⟨_,rfl⟩
 rw[he] at ct fY ⊢
 unfold aH at ct fY ⊢
 rw[hC] at ct fY ⊢
 refine .bT func43 rfl rfl ?_
 refine .sr ?_
 refine .seq (.seq (.ay [0,1,2] rfl ae (.rn [0] _ ?_)))
 refine .pc rfl rfl rfl rfl rfl call55 (ct) ?_
 refine .rn [2] [] ?_
 refine .done (.sr ?_)
 refine .cs ?_ ?_<;>intro c8
 ·try simp at c8
  refine .sr ?_
  refine .ret (au ?_)
  exact zk
 try simp at c8
 subst c8
 refine .skip (.seq (.ay gQ rfl ae (.rn [0] _ ?_)))
 refine .step rfl rfl (.pure rfl rfl rfl call77 (by decide) (fY rfl) (by first|rfl|simp[*]) ?_)
 rintro _ ⟨ps,gr,rfl⟩
 rw[uu]
 refine .rn [2,3,4] [] ?_
 refine .done (.ret (au ?_))
 exact zk
theorem Uf (s:aq):aN prog 89 [encS s] fun r=>r=.func 142 [] [.vp [.int .i64 s.k,.int .i64 s.a,.int .i64 s.i,.int .i64 s.l,.int .i64 s.w]]:=by
 unfold encS
 refine .bT func89 rfl rfl ?_
 refine .sr ?_
 refine .sr ?_
 refine .ret (au ?_)
 exact zk
theorem Ug (c:aj)(s:aq)(hB:BC c):aN prog 30 [aH c,encS s] fun r=>r=.bx [.int .i64 (if bl c=0 then (rQ c s).getD 0 else 0),.int .i64 (if bl c=0 then (if rQ c s=none then 5 else 0) else bl c)]:=by
 have ct:=sB c hB
 have fY:=Bd c
 have cK:=FP c s
 have hC:cR c=(cQ c):=rfl
 have hE:encS s=.agg [.int .i64 s.k,.int .i64 s.a,.int .i64 s.i,.int .i64 s.l,.int .i64 s.w]:=rfl
 unfold aH at ct fY cK ⊢
 rw[hE] at cK ⊢
 rw[hC] at ct fY cK ⊢
 refine .bT func30 rfl rfl ?_
 rcases xdv c s with hk|⟨hk,hd,hm⟩|⟨hk,n,i',w,hd,hb,hm⟩|⟨hk,n,i',w,hd,hb,hm⟩
 ·
  rw[if_neg hk,if_neg hk]
  obtain⟨e,he⟩:∃e,bl c=e:=⟨_,rfl⟩
  rw[he] at ct hk ⊢
  refine .sr ?_
  refine .seq (.seq (.ay [0,1,2] rfl ae (.rn [0] _ ?_)))
  refine .pc rfl rfl rfl rfl rfl call55 (ct) ?_
  refine .rn [2] [] ?_
  refine .done (.sr ?_)
  refine .cs ?_ ?_<;>intro cI
  ·try simp at cI
   refine .sr ?_
   refine .ret (au ?_)
   exact zk
  try simp at cI
  exact absurd cI hk
 ·
  rw[if_pos hk,if_pos hk,hm,if_pos rfl]
  rw[hk] at ct
  have cK:=cK hk
  rw[A3 hd] at cK
  unfold iF at cK
  refine .sr ?_
  refine .seq (.seq (.ay [0,1,2] rfl ae (.rn [0] _ ?_)))
  refine .pc rfl rfl rfl rfl rfl call55 (ct) ?_
  refine .rn [2] [] ?_
  refine .done (.sr ?_)
  refine .cs ?_ ?_<;>intro cI
  ·try simp at cI
  try simp at cI
  refine .skip (.seq (.ay jq rfl ae (.rn [0,1] _ ?_)))
  refine .pc rfl rfl rfl rfl rfl call95 (cK) ?_
  refine .rn [3,4,5,6,7,8,9,10,11,12] [] ?_
  refine .done (.seq (.seq (.ay fM rfl ae ?_)))
  refine .rn [0,1,2] _ ?_
  refine .split (t:=27) rfl (fun eV=>?_) (fun eV=>?_)
  ·try subst eV
   try simp at eV
   refine .rn [3,4,5,6,7,8,9] [] ?_
   refine .done (.eA rfl (.sr ?_))
   refine .ret (au ?_)
   exact zk
  try subst eV
  try simp at eV
 ·
  rw[if_pos hk,if_pos hk,hm,if_pos rfl]
  rw[hk] at ct
  have cK:=cK hk
  rw[zD hd] at cK
  unfold iF at cK
  have bo:=gR hk
  have oT:=Ud hd
  have ud:=(kN bo hd).2.2.2.2.2
  have lH:=u5 c w s.i.toNat bo.cl (by omega)
  rw[hb,Int.toNat_of_nonneg oT.2.2] at lH
  unfold aH at lH
  rw[hC] at lH
  refine .sr ?_
  refine .seq (.seq (.ay [0,1,2] rfl ae (.rn [0] _ ?_)))
  refine .pc rfl rfl rfl rfl rfl call55 (ct) ?_
  refine .rn [2] [] ?_
  refine .done (.sr ?_)
  refine .cs ?_ ?_<;>intro cI
  ·try simp at cI
  try simp at cI
  refine .skip (.seq (.ay jq rfl ae (.rn [0,1] _ ?_)))
  refine .pc rfl rfl rfl rfl rfl call95 (cK) ?_
  refine .rn [3,4,5,6,7,8,9,10,11,12] [] ?_
  refine .done (.seq (.seq (.ay fM rfl ae ?_)))
  refine .rn [0,1,2] _ ?_
  refine .split (t:=27) rfl (fun eV=>?_) (fun eV=>?_)
  ·try subst eV
   try simp at eV
  try subst eV
  try simp at eV
  refine .rn [3,4,5,6] _ ?_
  refine .pc rfl rfl rfl rfl rfl call96 (lH) ?_
  refine .rn [8,9] [] ?_
  refine .done ?_
  refine .cs ?_ ?_<;>intro pA
  ·try simp at pA
   refine .sr ?_
   refine .ret (au ?_)
   exact zk
  try simp at pA
 ·
  rw[if_pos hk,if_pos hk,hm,if_neg (by simp)]
  rw[hk] at ct
  have cK:=cK hk
  rw[zD hd] at cK
  unfold iF at cK
  have bo:=gR hk
  have oT:=Ud hd
  have iA:=kN bo hd
  have ud:=iA.2.2.2.2.2
  have OI:=iA.2.2.2.1
  have hn:=iA.1
  have lH:=u5 c w s.i.toNat bo.cl (by omega)
  rw[hb,Int.toNat_of_nonneg oT.2.2] at lH
  unfold aH at lH
  rw[hC] at lH
  have hle:=Uc hb
  have eM:=bo.cl
  obtain⟨i,hi⟩:∃i,s.a.toNat=i:=⟨_,rfl⟩
  obtain⟨j,hj⟩:∃j,s.i.toNat=j:=⟨_,rfl⟩
  obtain⟨j1,eo⟩:∃j1,j+w.length=j1:=⟨_,rfl⟩
  have qG:s.a=(i:Int):=by omega
  have Ls:s.i=(j:Int):=by omega
  have xK:IntKind.i64.wrap (s.i+w.length)=(j1:Int):=by rw[Ls,wrap64 (by omega) (by omega)];omega
  rw[xK] at cK
  rw[hi,hj,eo]
  rw[hj,eo] at hle
  have fY:=fY hk
  have mu:=Ue bo c.t.length c.c.length
  have kI:=Ue bo i j
  have hb0:=T8 bo i' j1
  have hf:=El (H8 c) (show i≤c.t.length by omega) (show j≤c.c.length by omega) (aX c)
  have OJ:=fun (ps:List (Nat×Nat)) (gr:Kp c ps)=>El gr OI hle (bwd c)
  obtain⟨F,hF⟩:∃F,aX c i j=F:=⟨_,rfl⟩
  obtain⟨B,OK⟩:∃B,bwd c i' j1=B:=⟨_,rfl⟩
  obtain⟨Z,hZ⟩:∃Z,aX c c.t.length c.c.length=Z:=⟨_,rfl⟩
  rw[hF] at hf kI ⊢
  rw[OK] at hb0 ⊢
  simp only[OK] at OJ
  rw[hZ] at mu ⊢
  have zj:IntKind.i64.wrap (F+n)=F+n:=wrap64 (by omega) (by omega)
  have lX:IntKind.i64.wrap (F+n+B)=F+n+B:=wrap64 (by omega) (by omega)
  have et:IntKind.i64.wrap (F+n+B - Z)=F+n+B - Z:=wrap64 (by omega) (by omega)
  rw[qG,Ls] at cK ⊢
  rw[Ls] at lH
  clear hd hm ud hi hj eo xK qG Ls hF OK iA oT hb hE
  refine .sr ?_
  refine .seq (.seq (.ay [0,1,2] rfl ae (.rn [0] _ ?_)))
  refine .pc rfl rfl rfl rfl rfl call55 (ct) ?_
  refine .rn [2] [] ?_
  refine .done (.sr ?_)
  refine .cs ?_ ?_<;>intro cI
  ·try simp at cI
  try simp at cI
  refine .skip (.seq (.ay jq rfl ae (.rn [0,1] _ ?_)))
  refine .pc rfl rfl rfl rfl rfl call95 (cK) ?_
  refine .rn [3,4,5,6,7,8,9,10,11,12] [] ?_
  refine .done (.seq (.seq (.ay fM rfl ae ?_)))
  refine .rn [0,1,2] _ ?_
  refine .split (t:=27) rfl (fun eV=>?_) (fun eV=>?_)
  ·try subst eV
   try simp at eV
  try subst eV
  try simp at eV
  refine .rn [3,4,5,6] _ ?_
  refine .pc rfl rfl rfl rfl rfl call96 (lH) ?_
  refine .rn [8,9] [] ?_
  refine .done ?_
  refine .cs ?_ ?_<;>intro pA
  ·try simp at pA
  try simp at pA
  refine .skip (.seq (.ay eD rfl ae (.rn [0] _ ?_)))
  refine .step rfl rfl (.pure rfl rfl rfl call77 (by decide) (fY) (by first|rfl|simp[*]) ?_)
  rintro _ ⟨ps,gr,rfl⟩
  have OJ:=OJ ps gr
  rw[uu,hZ]
  refine .rn [2,3] [] ?_
  refine .done (.seq ?_)
  refine .drawn (ms:=[0,1,0,4,0,16,60,127,0,511,0,1024,0,7168,16383,0,32768,131071,262143,524287]) (W:=[]) (items:=HL) rfl ae ae ae ?_
  iterate 20 refine .rx ?_
  refine .done (.ret (au ?_))
  exact zk
theorem Uh (c:aj)(s:aq)(hB:BC c):aN prog 32 [aH c,encS s] fun r=>r=.bx [.int .i64 (if bl c=0 then (if nO c s<1099511627776 then nO c s - aX c c.t.length c.c.length else 0) else 0),.int .i64 (if bl c=0 then (if nO c s<1099511627776 then 0 else 5) else bl c)]:=by
 have ct:=sB c hB
 have fY:=Bd c
 have Ic:=Uf s
 have qM:=fun ps hk=>OF c ps (CC s) 142 [] [.vp [.int .i64 s.k,.int .i64 s.a,.int .i64 s.i,.int .i64 s.l,.int .i64 s.w]] hk rfl (by simp[PV.aF,PV.aG]) call142 (fun x=>H9 s x)
 have hC:cR c=(cQ c):=rfl
 have hE:encS s=.agg [.int .i64 s.k,.int .i64 s.a,.int .i64 s.i,.int .i64 s.l,.int .i64 s.w]:=rfl
 simp only[show fwd c (fun x=>!CC s x) c.t.length c.c.length=nO c s from rfl,uu] at qM
 obtain⟨wo,sK⟩:∃w,nO c s=w:=⟨_,rfl⟩
 simp only[sK] at qM ⊢
 obtain⟨e,he⟩:∃e,bl c=e:=⟨_,rfl⟩
 obtain⟨lt,aP⟩:∃b,decide (wo<1099511627776)=b:=⟨_,rfl⟩
 rw[he] at ct fY qM ⊢
 simp only[aP] at qM
 unfold aH at ct fY ⊢
 rw[hE] at Ic ⊢
 rw[hC] at ct fY ⊢
 clear hE
 refine .bT func32 rfl rfl ?_
 refine .sr ?_
 refine .seq (.seq (.ay [0,1,2] rfl ae (.rn [0] _ ?_)))
 refine .pc rfl rfl rfl rfl rfl call55 (ct) ?_
 refine .rn [2] [] ?_
 refine .done (.sr ?_)
 refine .cs ?_ ?_<;>intro wm
 ·try simp at wm
  refine .sr ?_
  refine .ret (au ?_)
  simp[wm]
 try simp at wm
 subst wm
 refine .skip (.seq ?_)
 refine .drawn (ms:=[0,1,0,7,15,31,63,63,127,511]) (W:=[1,3,4]) (items:=[.op 0,.op 2,.op 1,.ck 2,.op 3,.op 4,.op 5,.op 6,.op 7,.op 8,.op 9]) rfl ae ae ae ?_
 iterate 2 refine .rx ?_
 refine .wr rfl rfl (by decide) (.pure rfl rfl rfl call77 (by decide) (fY rfl) (by first|rfl|simp[*]) ?_)
 rintro _ ⟨ps,gr,rfl⟩
 have qM:=qM ps rfl
 rw[uu]
 refine .ck rfl dO ?_
 refine .wp rfl rfl rfl rfl rfl call89 (Ic) ?_
 refine .wp rfl rfl rfl rfl rfl call83 (qM) ?_
 iterate 5 refine .rx ?_
 refine .done (.seq (.sr ?_))
 refine .cs ?_ ?_<;>intro fS
 ·try simp at fS
  refine .sr ?_
  refine .ret (au ?_)
  simp[fS] at aP;simp[show ¬wo<1099511627776 by omega]
 try simp at fS
 refine .skip (.sr ?_)
 refine .ret (au ?_)
 simp[fS] at aP;simp[aP]
theorem p84 (i:Nat)(x:aK):aN prog 84 [dh x,.vp [.int .i64 i]] fun r=>r=.bool (decide (x.s=none∧x.i=i)):=by
 obtain⟨a0,a1,a2,a3,a4,fU⟩:=xR x.s
 rw[xS x fU]
 obtain⟨b,hb⟩:∃b,x.s.isNone=b:=⟨_,rfl⟩
 have cT:x.s=none↔b=true:=by rw[← hb];cases x.s<;>simp
 rw[hb]
 simp only[cT]
 clear hb cT fU
 refine .bT func84 rfl rfl ?_
 refine .sr ?_
 refine .seq (.ay fM rfl ae (.rn [0,1,2] _ ?_))
 refine .split (t:=6) rfl (fun c6=>?_) (fun c6=>?_)
 ·try subst c6
  try simp at c6
  refine .rn [3,4,5,6,7,8,9] [] ?_
  refine .done (.ret (au ?_))
  show PV.bool _=PV.bool _
  congr 1
  rw[Bool.eq_iff_iff]
  simp
  omega
 try subst c6
 try simp at c6
 refine .rn [3,4,5,6,7,8,9] [] ?_
 refine .done (.ret (au ?_))
 rfl
theorem p88 (c:aj)(ps:List (Nat×Nat))(hk:bl c=0)(i j i' j':Nat)(n:Int)(s:aq):aN prog 88 [ve c ps,dh ⟨i,j,i',j',n,some s⟩] fun r=>r=.bool (Bool.or (!decide (nO c s<1099511627776)) (decide (0<nO c s - aX c c.t.length c.c.length))):=by
 have Ic:=Uf s
 have qM:=OF c ps (CC s) 142 [] [.vp [.int .i64 s.k,.int .i64 s.a,.int .i64 s.i,.int .i64 s.l,.int .i64 s.w]] hk rfl (by simp[PV.aF,PV.aG]) call142 (fun x=>H9 s x)
 have hE:encS s=.agg [.int .i64 s.k,.int .i64 s.a,.int .i64 s.i,.int .i64 s.l,.int .i64 s.w]:=rfl
 rw[show fwd c (fun x=>!CC s x) c.t.length c.c.length=nO c s from rfl] at qM
 obtain⟨wo,sK⟩:∃w,nO c s=w:=⟨_,rfl⟩
 obtain⟨z,hz⟩:∃w,aX c c.t.length c.c.length=w:=⟨_,rfl⟩
 obtain⟨lt,aP⟩:∃b,decide (wo<1099511627776)=b:=⟨_,rfl⟩
 rw[uu] at qM ⊢
 rw[sK,hz,aP] at qM ⊢
 rw[hE] at Ic
 unfold dh Ea
 clear hE aP sK
 refine .bT func88 rfl rfl ?_
 refine .sr ?_
 refine .seq ?_
 refine .drawn (ms:=[0,0,2,6,15,31,63,63,127,511]) (W:=[3,4]) (items:=[.op 0,.op 1,.op 2,.op 3,.ck 0,.op 4,.op 5,.op 6,.op 7,.op 8,.op 9]) rfl ae ae ae ?_
 iterate 3 refine .rx ?_
 refine .wp rfl rfl rfl rfl rfl call89 (Ic) ?_
 refine .ck rfl dO ?_
 refine .wp rfl rfl rfl rfl rfl call83 (qM) ?_
 iterate 5 refine .rx ?_
 refine .done (.seq (.ay ik rfl ae ?_))
 refine .rn [0,1,2] _ ?_
 refine .split (t:=17) rfl (fun gT=>?_) (fun gT=>?_)
 ·try subst gT
  try simp at gT
  refine .rn [3,4,5,6] [] ?_
  refine .done (.ret (au ?_))
  exact zk
 try subst gT
 try simp at gT
 refine .rn [3,4,5,6] [] ?_
 refine .done (.ret (au ?_))
 exact zk
theorem p94 (c:aj)(ps:List (Nat×Nat))(x:aK):aN prog 94 [ve c ps,dh x] fun r=>r=.bool true:=by
 obtain⟨a0,a1,a2,a3,a4,fU⟩:=xR x.s
 rw[xS x fU,uu]
 refine .bT func94 rfl rfl ?_
 refine .sr ?_
 refine .sr ?_
 refine .ret (au ?_)
 exact zk
theorem Be (c:aj)(ps:List (Nat×Nat))(hk:bl c=0)(gr:Kp c ps)(f:FuncId)(xs ys:List PV)(dM:∀cs w,(callFunc f cs).run prog w=.ok (.enter f cs) w)(L0:bu)(J:List aK→Nat→bu→Prop)(h0:J [] 900 L0)
  (cP:∀pre n n' L,J pre n L→n≤n'→J pre n' L)
  (rP:∀pre x kD n L,qg c=pre++x::kD→900≤n→J pre n L→Lo prog f (xs++[dh x]++ys) n L fun _ n' L'=>J (pre++[x]) n' L')
  (bJ:∀pre n L,J pre n L→900≤n→D9 L→∃L',J pre 1000 L'∧D9 L'∧∀i j:Nat,Wk 900 [(2,.ptr 900 0),(3,.ptr 901 0),(4,.int .i64 i),(11,.int .i64 ((c.t.length:Int)+1)),(12,.int .i64 i),(19,.int .i64 ((c.c.length:Int)+1)),(20,.int .i64 j)] ⟨n,(901,.box [.func f xs ys])::(900,.box (bQ c (.aC (be (places c) (aX c))) (.aC (be ps (bwd c))) (.int .i64 (aX c c.t.length c.c.length))))::L⟩ [(2,.ptr 900 0),(3,.ptr 901 0),(4,.int .i64 i),(11,.int .i64 ((c.t.length:Int)+1)),(12,.int .i64 i),(19,.int .i64 ((c.c.length:Int)+1)),(20,.int .i64 j)] ⟨1000,(901,.box [.func f xs ys])::(900,.box (bQ c (.aC (be (places c) (aX c))) (.aC (be ps (bwd c))) (.int .i64 (aX c c.t.length c.c.length))))::L'⟩) :
  dP prog 81 [ve c ps,.func f xs ys] ⟨900,L0⟩ fun v ao=>∃n L',J (qg c) n L'∧ao=⟨n,L'⟩:=
 (p81 c ps hk gr f xs ys dM L0 J h0 cP rP bJ).post fun v cn ⟨L',h1,h2⟩=>⟨⟨cn.next,L'⟩,h1,Nat.le_refl _,_,L',h2,rfl⟩
end
def tt (D:Nat→Nat→Int)(x:aK):Nat→Nat→Int:=bB D x.i' x.j' (min 1073741824 (D x.i' x.j'+D x.i x.j))
def oy:Nat→Nat→Int:=bB (fun _ _=>0) 0 0 1
def xX (c:aj):Int:=(qg c).foldl tt oy c.t.length c.c.length
def Z0 (ks:List (Nat×Nat))(D:Nat→Nat→Int):Prop:=(∀i j,(i,j)∉ks→D i j=0)∧∀i j,0≤D i j∧D i j≤1073741824
theorem OL {ks:List (Nat×Nat)}{D:Nat→Nat→Int}(h:Z0 ks D)(i j:Nat):(∃d,D i j=d∧0≤d∧d≤1073741824∧kB [.int .i64 i,.int .i64 j] (be ks D)=some (some (.int .i64 d)))∨(D i j=0∧kB [.int .i64 i,.int .i64 j] (be ks D)=some none):=by
 have hf:=xJ i j D ks
 by_cases hm:(i,j)∈ks
 ·rw[if_pos hm] at hf;exact .inl ⟨D i j,rfl,(h.2 i j).1,(h.2 i j).2,hf⟩
 rw[if_neg hm] at hf;exact .inr ⟨h.1 i j hm,hf⟩
theorem Lt {ks:List (Nat×Nat)}{D:Nat→Nat→Int}(h:Z0 ks D)(i j:Nat){v:Int}(h0:0≤v)(h1:v≤1073741824):∃tu,Z0 tu (bB D i j v)∧nJ [.int .i64 i,.int .i64 j] [.int .i64 i,.int .i64 j] (.int .i64 v) (be ks D)=some (be tu (bB D i j v)):=by
 have hb:∀a b,0≤bB D i j v a b∧bB D i j v a b≤1073741824:=fun a b=>by
  unfold bB;split
  ·exact⟨h0,h1⟩
  exact h.2 a b
 by_cases hm:(i,j)∈ks
 ·refine⟨ks,⟨fun a b iL=>?_,hb⟩,HS hm v⟩
  unfold bB;split
  ·rename_i hh;exact absurd (by rw[hh.1,hh.2];exact hm) iL
  exact h.1 a b iL
 refine⟨ks++[(i,j)],⟨fun a b iL=>?_,hb⟩,HU hm v⟩
 rw[List.mem_append,List.mem_singleton,bG,not_or] at iL
 unfold bB;rw[if_neg iL.2];exact h.1 a b iL.1
section
variable [bF]
theorem OM (c:aj)(n:Nat)(ks:List (Nat×Nat))(D:Nat→Nat→Int)(x:aK)(hn:900≤n)(hz:Z0 ks D):dP prog 106 [dh x,.ptr 2 0] ⟨n,[(2,.box [.aW 1]),(1,.map (be (ks) (D))),(0,.box (cQ c))]⟩ fun v ao=>∃tu,Z0 tu (tt D x)∧bN [(2,.box [.aW 1]),(1,.map (be (tu) (tt D x))),(0,.box (cQ c))] ao.bq∧n≤ao.next:=by
 obtain⟨a0,a1,a2,a3,a4,fU⟩:=xR x.s
 rw[xS x fU]
 obtain⟨m,rfl⟩:∃m,n=m+900:=⟨n - 900,by omega⟩
 have ja:tt D x=bB D x.i' x.j' (min 1073741824 (D x.i' x.j'+D x.i x.j)):=rfl
 clear fU
 refine .bT func106 rfl rfl ?_
 rcases OL hz x.i' x.j' with⟨d0,e0,uv,h01,kI⟩|⟨e0,kI⟩<;>rcases OL hz x.i x.j with⟨d1,e1,wq,ON,zL⟩|⟨e1,zL⟩
 ·
  rw[e0,e1] at ja
  have hm:(if d0+d1<1073741824 then d0+d1 else 1073741824)=min 1073741824 (d0+d1):=by split<;>omega
  have hw:IntKind.i64.wrap (d0+d1)=d0+d1:=wrap64 (by omega) (by omega)
  obtain⟨tu,kG,u7⟩:=Lt hz x.i' x.j' (v:=min 1073741824 (d0+d1)) (by omega) (by omega)
  rw[← ja] at kG
  refine .sr ?_
  refine .drawn (ms:=[0,0,2,0,0,16,56,0,0,256,896,2040,4088,8191]) (W:=[13]) (items:=zG) rfl ae ae ae ?_
  iterate 13 refine .rx ?_
  refine .wv ?_
  refine .done ?_
  refine⟨_,iT,tu,kG,?_,by simp⟩
  rw[ja]
  exact bR
 ·
  rw[e0,e1,Int.add_zero] at ja
  have hm:(if d0<1073741824 then d0 else 1073741824)=min 1073741824 d0:=by split<;>omega
  have hw:IntKind.i64.wrap d0=d0:=wrap64 (by omega) (by omega)
  obtain⟨tu,kG,u7⟩:=Lt hz x.i' x.j' (v:=min 1073741824 d0) (by omega) (by omega)
  rw[← ja] at kG
  refine .sr ?_
  refine .drawn (ms:=[0,0,2,0,0,16,56,0,0,256,896,2040,4088,8191]) (W:=[13]) (items:=zG) rfl ae ae ae ?_
  iterate 13 refine .rx ?_
  refine .wv ?_
  refine .done ?_
  refine⟨_,iT,tu,kG,?_,by simp⟩
  rw[ja]
  exact bR
 ·
  rw[e0,e1,Int.zero_add] at ja
  have hm:(if d1<1073741824 then d1 else 1073741824)=min 1073741824 d1:=by split<;>omega
  have hw:IntKind.i64.wrap d1=d1:=wrap64 (by omega) (by omega)
  obtain⟨tu,kG,u7⟩:=Lt hz x.i' x.j' (v:=min 1073741824 d1) (by omega) (by omega)
  rw[← ja] at kG
  refine .sr ?_
  refine .drawn (ms:=[0,0,2,0,0,16,56,0,0,256,896,2040,4088,8191]) (W:=[13]) (items:=zG) rfl ae ae ae ?_
  iterate 13 refine .rx ?_
  refine .wv ?_
  refine .done ?_
  refine⟨_,iT,tu,kG,?_,by simp⟩
  rw[ja]
  exact bR
 ·
  rw[e0,e1] at ja
  have hm:min (1073741824:Int) (0+0)=0:=by decide
  have hw:IntKind.i64.wrap 0=0:=by decide
  rw[hm] at ja
  obtain⟨tu,kG,u7⟩:=Lt hz x.i' x.j' (v:=0) (by omega) (by omega)
  rw[← ja] at kG
  refine .sr ?_
  refine .drawn (ms:=[0,0,2,0,0,16,56,0,0,256,896,2040,4088,8191]) (W:=[13]) (items:=zG) rfl ae ae ae ?_
  iterate 13 refine .rx ?_
  refine .wv ?_
  refine .done ?_
  refine⟨_,iT,tu,kG,?_,by simp⟩
  rw[ja]
  exact bR
theorem Ui (c:aj)(hB:BC c):aN prog 48 [aH c] fun r=>r=.bx [.int .i64 (if bl c=0 then xX c else 0),.int .i64 (bl c)]:=by
 have ct:=sB c hB
 have fY:=Bd c
 have jx:=F3 c
 have hC:cR c=(cQ c):=rfl
 obtain⟨e,he⟩:∃e,bl c=e:=⟨_,rfl⟩
 have dz:=he
 rw[he] at ct fY jx ⊢
 unfold aH at ct fY jx ⊢
 unfold iF at jx
 rw[hC] at ct fY jx ⊢
 have km:nJ [.int .i64 0,.int .i64 0] [.int .i64 0,.int .i64 0] (.int .i64 1) []=some (be [(0,0)] oy):=HU (a:=0) (b:=0) (D:=fun _ _=>0) (ps:=[]) (by simp) 1
 have hZ0:Z0 [(0,0)] oy:=⟨fun i j h=>by
  unfold oy bB
  rw[if_neg (fun hh=>h (by rw[hh.1,hh.2];simp))],fun i j=>by unfold oy bB;split<;>simp⟩
 refine .bT func48 rfl rfl ?_
 refine .sr ?_
 refine .seq (.seq (.ay [0,1,2] rfl ae (.rn [0] _ ?_)))
 refine .pc rfl rfl rfl rfl rfl call55 (ct) ?_
 refine .rn [2] [] ?_
 refine .done (.sr ?_)
 refine .cs ?_ ?_<;>intro c9
 ·try simp at c9
  refine .sr ?_
  refine .ret (au ?_)
  exact zk
 try simp at c9
 subst c9
 have jx:=jx rfl
 refine .skip (.sr ?_)
 refine .seq (.ay eD rfl ae (.rn [0] _ ?_))
 refine .step rfl rfl (.pure rfl rfl rfl call77 (by decide) (fY rfl) (by first|rfl|simp[*]) ?_)
 rintro _ ⟨ps,gr,rfl⟩
 have tz:=Be c ps dz gr 106 [] [.ptr 2 0] call106 [(2,.box [.aW 1]),(1,.map (be ([(0,0)]) (oy))),(0,.box (cQ c))] (fun pre n L=>∃ks,Z0 ks (pre.foldl tt oy)∧L=[(2,.box [.aW 1]),(1,.map (be (ks) (pre.foldl tt oy))),(0,.box (cQ c))]) ⟨[(0,0)],hZ0,rfl⟩ (fun _ _ _ _ h _=>h) (fun pre x kD n L iA hn ⟨ks,hz,hL⟩=>by
 subst hL
 exact(OM c n ks _ x hn hz).mono fun v ao ⟨tu,h1,h2,h3⟩=>⟨_,h2,h3,lq,tu,by rw[List.foldl_append];exact h1,by rw[List.foldl_append];rfl⟩) (fun pre n L ⟨ks,hz,hL⟩ hn hd=>by
 subst hL
 exact⟨_,⟨ks,hz,rfl⟩,⟨rfl,rfl⟩,fun i j=>Rec.wk bn⟩)
 rw[uu] at tz ⊢
 refine .rn [2] _ ?_
 refine .step rfl rfl (.vf (aA:=[(1,.ptr 0 0),(5,.ptr 2 0),(15,.agg (bQ c (.aC (be (places c) (aX c))) (.aC (be ps (bwd c))) (.int .i64 (aX c c.t.length c.c.length)))),(16,.func 106 [] [.ptr 2 0])]) (aV:=⟨900,[(2,.box [.aW 1]),(1,.map (be ([(0,0)]) (oy))),(0,.box (cQ c))]⟩) bn (.call rfl rfl rfl call81 (by decide) (((tz)).mono ?_)))
 rintro _ _ ⟨n,L,⟨ks,hz,rfl⟩,rfl⟩
 obtain⟨D,hD⟩:∃D,(qg c).foldl tt oy=D:=⟨_,rfl⟩
 have jE:xX c=D c.t.length c.c.length:=by unfold xX;rw[hD]
 rw[hD] at hz ⊢
 rw[jE]
 have Ie:=OL hz c.t.length c.c.length
 clear tz
 refine .done (.seq ?_)
 refine .drawn (ms:=[0,0,2,7,15,31]) (W:=[2]) (items:=Uj) rfl ae ae ae ?_
 iterate 2 refine .rx ?_
 refine .wp rfl rfl rfl rfl rfl call78 (jx) ?_
 rcases Ie with⟨d,e,h0,h1,hf⟩|⟨e,hf⟩
 ·skip
  refine .ck rfl dO ?_
  iterate 3 refine .rx ?_
  refine .done (.ret (au ?_))
  rw[e];rfl
 skip
 refine .ck rfl dO ?_
 iterate 3 refine .rx ?_
 refine .done (.ret (au ?_))
 rw[e];rfl
end
def Eo (i0:Int)(q:Int×Int)(x:aK):Int×Int:=if (x.i:Int)<i0∧i0≤(x.i':Int) then (min q.1 x.j',max q.2 x.j') else q
def Ep (c:aj)(i0:Int):Int×Int:=(qg c).foldl (Eo i0) ((c.c.length:Int),0)
def vg (c:aj)(i0:Int):(Int×Int)×Int:=if bl c≠0 then ((0,0),bl c) else if ¬(0≤i0∧i0≤(c.t.length:Int)) then ((0,0),1) else if i0=0 then ((0,0),0) else (Ep c i0,0)
section
variable [bF]
theorem p86 (c:aj)(n:Nat)(i0:Int)(q:Int×Int)(x:aK)(hn:900≤n):dP prog 86 [dh x,.ptr 1 0,.ptr 3 0] ⟨n,[(3,.box [.int .i64 (q.1),.int .i64 (q.2)]),(2,.box [.int .i64 0,.int .i64 0]),(1,.box [.int .i64 i0]),(0,.box (cQ c))]⟩ fun v ao=>bN [(3,.box [.int .i64 ((Eo i0 q x).1),.int .i64 ((Eo i0 q x).2)]),(2,.box [.int .i64 0,.int .i64 0]),(1,.box [.int .i64 i0]),(0,.box (cQ c))] ao.bq∧n≤ao.next:=by
 obtain⟨a0,a1,a2,a3,a4,fU⟩:=xR x.s
 rw[xS x fU]
 obtain⟨m,rfl⟩:∃m,n=m+900:=⟨n - 900,by omega⟩
 obtain⟨lo,hi⟩:=q
 have En:Eo i0 (lo,hi) x=if (x.i:Int)<i0∧i0≤(x.i':Int) then (min lo x.j',max hi x.j') else (lo,hi):=rfl
 obtain⟨e0,dz⟩:∃b,decide ((x.i:Int)<i0)=b:=⟨_,rfl⟩
 obtain⟨e1,gn⟩:∃b,decide (i0≤(x.i':Int))=b:=⟨_,rfl⟩
 have lA:(if (x.j':Int)<lo then (x.j':Int) else lo)=min lo x.j':=by split<;>omega
 have cj:(if hi<(x.j':Int) then (x.j':Int) else hi)=max hi x.j':=by split<;>omega
 clear fU
 refine .bT func86 rfl rfl ?_
 refine .sr ?_
 refine .seq (.ay xD rfl ae (.rn kg _ ?_))
 refine .split (t:=9) rfl (fun c9=>?_) (fun c9=>?_)
 ·try subst c9
  try simp at c9
  refine .rn [6,7,8,9,10,11] [] ?_
  refine .done ?_
  refine .cs ?_ ?_<;>intro cI
  ·try simp at cI
   refine .rn ?_
   subst cI
   refine⟨_,iT,?_,by simp⟩
   rw[En,if_pos ⟨by simpa using dz,by simpa using gn⟩]
   exact bR
  try simp at cI
  refine .skip ?_
  subst cI
  refine⟨_,iT,?_,by simp⟩
  rw[En,if_neg (fun hh=>by simp[hh.2] at gn)]
  exact bR
 try subst c9
 try simp at c9
 refine .rn [6,7,8,9,10,11] [] ?_
 refine .done (.fD rfl (.skip ?_))
 refine⟨_,iT,?_,by simp⟩
 rw[En,if_neg (fun hh=>by simp[hh.1] at dz)]
 exact bR
theorem p24 (c:aj)(i0:Int)(hB:BC c):aN prog 24 [aH c,.int .i64 i0] fun r=>r=.bx [.agg [.int .i64 (vg c i0).1.1,.int .i64 (vg c i0).1.2],.int .i64 (vg c i0).2]:=by
 have ct:=sB c hB
 have fY:=Bd c
 have kh:=xz i0 0 c.t.length
 have hC:cR c=(cQ c):=rfl
 obtain⟨e,he⟩:∃e,bl c=e:=⟨_,rfl⟩
 have dz:=he
 obtain⟨wi,fg⟩:∃b,(decide (0≤i0)&&decide (i0≤(c.t.length:Int)))=b:=⟨_,rfl⟩
 rw[fg] at kh
 have hv:vg c i0=if e≠0 then ((0,0),e) else if ¬(0≤i0∧i0≤(c.t.length:Int)) then ((0,0),1) else if i0=0 then ((0,0),0) else (Ep c i0,0):=by unfold vg;rw[he]
 rw[he] at ct fY
 unfold aH at ct fY ⊢
 rw[hC] at ct fY ⊢
 refine .bT func24 rfl rfl ?_
 refine .sr ?_
 refine .seq (.seq (.ay [0,1,2] rfl ae (.rn [0] _ ?_)))
 refine .pc rfl rfl rfl rfl rfl call55 (ct) ?_
 refine .rn [2] [] ?_
 refine .done (.sr ?_)
 refine .cs ?_ ?_<;>intro lI
 ·try simp at lI
  rw[if_pos lI] at hv
  refine .sr ?_
  refine .ret (au ?_)
  exact zk
 try simp at lI
 subst lI
 rw[if_neg (by simp)] at hv
 refine .skip (.seq (.seq (.ay kg rfl ae (.rn eD _ ?_))))
 refine .pc rfl rfl rfl rfl rfl call85 (kh) ?_
 refine .rn [5] [] ?_
 refine .done ?_
 refine .cs ?_ ?_<;>intro iU
 ·try simp at iU
  have dx:¬(0≤i0∧i0≤(c.t.length:Int)):=fun hh=>by rw[iU] at fg;simp[hh.1,hh.2] at fg
  rw[if_pos dx] at hv
  refine .sr ?_
  refine .ret (au ?_)
  exact zk
 try simp at iU
 have dx:0≤i0∧i0≤(c.t.length:Int):=by rw[iU] at fg;simpa using fg
 rw[if_neg (by simp[dx])] at hv
 refine .skip (.seq (.sr ?_))
 refine .cs ?_ ?_<;>intro wg
 ·try simp at wg
  rw[if_pos wg] at hv
  refine .sr ?_
  refine .ret (au ?_)
  exact zk
 try simp at wg
 rw[if_neg wg] at hv
 refine .skip (.sr ?_)
 refine .seq (.ay eD rfl ae (.rn [0] _ ?_))
 refine .step rfl rfl (.pure rfl rfl rfl call77 (by decide) (fY rfl) (by first|rfl|simp[*]) ?_)
 rintro _ ⟨ps,gr,rfl⟩
 have tz:=Be c ps dz gr 86 [] [.ptr 1 0,.ptr 3 0] call86 [(3,.box [.int .i64 ((c.c.length:Int)),.int .i64 (0)]),(2,.box [.int .i64 0,.int .i64 0]),(1,.box [.int .i64 i0]),(0,.box (cQ c))] (fun pre n L=>L=[(3,.box [.int .i64 ((pre.foldl (Eo i0) ((c.c.length:Int),0)).1),.int .i64 ((pre.foldl (Eo i0) ((c.c.length:Int),0)).2)]),(2,.box [.int .i64 0,.int .i64 0]),(1,.box [.int .i64 i0]),(0,.box (cQ c))]) rfl (fun _ _ _ _ h _=>h) (fun pre x kD n L iA hn hL=>by
 subst hL
 exact(p86 c n i0 _ x hn).mono fun v ao ⟨h2,h3⟩=>⟨_,h2,h3,lq,by rw[List.foldl_append];rfl⟩) (fun pre n L hL hn hd=>by
 subst hL
 exact⟨_,rfl,⟨rfl,rfl⟩,fun i j=>Rec.wk (.mk [] [] If Ig rfl rfl rfl)⟩)
 rw[uu] at tz ⊢
 refine .rn [2] _ ?_
 refine .step rfl rfl (.vf (aA:=[(2,.ptr 0 0),(3,.ptr 1 0),(4,.ptr 2 0),(7,.ptr 3 0),(29,.agg (bQ c (.aC (be (places c) (aX c))) (.aC (be ps (bwd c))) (.int .i64 (aX c c.t.length c.c.length)))),(30,.func 86 [] [.ptr 1 0,.ptr 3 0])]) (aV:=⟨900,[(3,.box [.int .i64 ((c.c.length:Int)),.int .i64 (0)]),(2,.box [.int .i64 0,.int .i64 0]),(1,.box [.int .i64 i0]),(0,.box (cQ c))]⟩) (.mk [] [] If Ig rfl rfl rfl) (.call rfl rfl rfl call81 (by decide) (((tz)).mono ?_)))
 rintro _ _ ⟨n,L,rfl,rfl⟩
 obtain⟨q,hq⟩:∃q,(qg c).foldl (Eo i0) ((c.c.length:Int),0)=q:=⟨_,rfl⟩
 have jE:Ep c i0=q:=hq
 rw[hq]
 rw[jE] at hv
 obtain⟨lo,hi⟩:=q
 clear tz hq
 refine .done (.sr ?_)
 refine .ret (au ?_)
 exact zk
end
end Go.Am.Sl
end
