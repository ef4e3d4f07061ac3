/-
 What is used in the proof of a statement (part SlC); no condition.
-/
import Derived.Test.YthnmgbgmlhackaaGreatDoorSlZ
import Derived.Test.YthnmgbgmlhackaaGreatDoorVm2
import Derived.Test.YthnmgbgmlhackaaGreatDoorSlT
import Derived.Test.YthnmgbgmlhackaaGreatDoorSlB
import Derived.Test.YthnmgbgmlhackaaGreatDoorSlA
set_option linter.all false
set_option maxHeartbeats 40000000
set_option maxRecDepth 100000
section
namespace Go.Am.Sl
open Go Go.Am Go.Proofs Tryz
attribute [local simp] de fQ lz dz dN jD af.back b6 dG iO bm Nat.testBit_eq_decide_div_mod_eq ct gf jB vO kN dX kO gE cJ jR jQ kK dY kL j9 jq ly j8 kM kF kC kG kD kE kH kI jM di ig dd kP jS ka kQ kR jL ls lu dW jC dy dx dA iL dK jY jO jP gX kz a7 j7 dw bA bC ja af.get af.alloc af.put af.drop af.empty bq cg gd gR fe cp chunk List.range List.range.loop iP lA jr bI bG PV.aD PV.az PV.b8 PV.dv eu dZ kc PV.one PV.ids PV.bT fJ beq_eq lQ l9
attribute [local simp] cQ bQ cw jU ef dD
attribute [local simp ↓ high] mG ma
theorem VU (c:aj):cu c=(cQ c):=rfl
noncomputable abbrev gk (c:aj) (i j:Int) (x:Option Code):aO:=yZ f138 0 [(1,.vp [.int .i64 i,.int .i64 j]),(2,.vp (cu c)),(3,.ptr 1001 0),(52,.func 166 [] [.vp [.int .i64 i,.int .i64 j],.vp (cu c)])] x
def wN (c:aj)(i j:Nat)(s:ak)(n:Nat)(L:bt)(K:JM→Nat→bt→Prop)(jm:JM)(n':Nat)(L':bt):Prop:=match stepOf c i j s with
 |some x=>K jm n' L'
 |none=>jm=none∧L'=L
variable [bE] in
theorem xks (c:aj)(i j:Nat)(k l w k0 l0 w0:Int)(m n:Nat)(L:bt)(hk:aN c=0)(hj:j≤48)(N0:Nat)(ps:Array Tmp)(eh body:Code)(ed:bf)(K:JM→Nat→bt→Prop)(qu:ps.size=1)(ra:ps.toList.all (Nat.blt · N0)=true)(hn:m+1005≤n)
  (FE:bq 1000 L=none) (y2:bq 1001 L=none) (y3:bq (m+1002) L=none) (hL3:bq (m+1003) L=none) (VV:bq (m+1004) L=none)
  (Ce:∀i,n≤i→bq i L=none) (hY:∀x,stepOf c i j ⟨k,i,j,l,w⟩=some x→∀n1,n≤n1→FF prog N0 ps eh body ed n1 L (dO x) K):eN prog 167 [.int .i64 k,.int .i64 l,.int .i64 w,.ptr (m+1004) 0,.ptr (m+1003) 0] ⟨n,(m+1004,.box [.int .i64 k0,.int .i64 i,.int .i64 j,.int .i64 l0,.int .i64 w0])::(m+1003,.box [.cm (m+1002)])::(m+1002,gk c i j none)::(1001,.box [.cm 1000])::(1000,.loop N0 ps eh body ed none)::L⟩
  fun v aq=>∃(jm:JM) (n':Nat) (L':bt),n≤n'∧me n L L'∧wN c i j ⟨k,i,j,l,w⟩ n L K jm n' L'∧v=.bool jm.isNone∧aq=⟨n',(m+1004,.box [.int .i64 k,.int .i64 i,.int .i64 j,.int .i64 l,.int .i64 w])::(m+1003,.box [.cm (m+1002)])::(m+1002,gk c i j (bif jm.isNone then none else some .ret))::(1001,.box [.cm 1000])::(1000,.loop N0 ps eh body ed jm.code)::L'⟩:=by
 have aP:=fC hk
 have fx:=aP.cl
 have dq:=Hs c ⟨k,i,j,l,w⟩ hk
 have FA:=VI c i j ⟨k,i,j,l,w⟩
 have hE:encS ⟨k,i,j,l,w⟩=.agg [.int .i64 k,.int .i64 i,.int .i64 j,.int .i64 l,.int .i64 w]:=rfl
 have hC:=VU c
 rw[hE] at dq
 unfold aA at dq
 have qd:gd (m+1002) L=L:=MZ y3
 have qp:∀x,cg (m+1004) x L=L:=fun x=>xU VV
 have hN:∀d,d≤1004→(n=m+d)=False:=fun d hd=>by simp;omega
 have hN':∀d,d≤1004→(m+d=n)=False:=fun d hd=>by simp;omega
 have hM:∀d,d≤1004→(n=d)=False:=fun d hd=>by simp;omega
 have se:∀d,d≤1004→(d=n)=False:=fun d hd=>by simp;omega
 have qn:∀x,cg n x L=L:=fun x=>xU (Ce _ (Nat.le_refl _))
 have qn1:∀x,cg (n+1) x L=L:=fun x=>xU (Ce _ (by omega))
 refine .bJ func167 rfl rfl ?_
 rcases FA with⟨hd,cS⟩|⟨n1,i',wr,hd,hb,cS⟩|⟨n1,i',wr,hd,hb,cS⟩
 ·
  rw[B5 hd] at dq
  unfold jT at dq
  refine .sr ?_
  refine .sr ?_
  refine .seq (.ar dQ rfl ae (.rn [0,1] _ ?_))
  refine .step rfl rfl (.yield rfl rfl rfl ((by simp:_=some (gk c i j none)).trans rfl) rfl (by decide) rfl ?_)
  refine .rn ?_
  refine .block (.seq (.ar kf rfl ae (.rn [0,1] _ ?_)))
  refine .pc rfl rfl rfl rfl rfl call95 (dq) ?_
  refine .rn [3,4,5,6,7,8,9,10,11,12] [] ?_
  refine .done (.seq (.ar qB rfl ae ?_))
  refine .rn [0,1] _ ?_
  refine .split (t:=63) rfl (fun iS=>?_) (fun iS=>?_)
  ·try subst iS
   try simp at iS
  try subst iS
  try simp at iS
  refine .rn [2,3,4,5,6,7,8,9,10,11,12,13,14,15,16,17] [] ?_
  refine .done (.gI rfl (.skip ?_))
  change cq _ _ _ _ _ _ _ _
  refine .rn [3] [] ?_
  refine .done ?_
  refine .wk (aF:=[(8,.bool true)]) (aZ:=⟨n+2,(m+1004,.box [.int .i64 k,.int .i64 i,.int .i64 j,.int .i64 l,.int .i64 w])::(m+1003,.box [.cm (m+1002)])::(m+1002,gk c i j none)::(1001,.box [.cm 1000])::(1000,.loop N0 ps eh body ed none)::L⟩) (.sub gF bU (by first|exact Nat.le_refl _|omega|(simp;omega))) ?_
  refine .ret ?_
  refine⟨_,jF,none,n+2,L,by omega,me.refl _ _,?_,rfl,rfl⟩
  unfold wN
  rw[cS]
  exact⟨rfl,rfl⟩
 ·
  rw[AU hd] at dq
  unfold jT at dq
  have qV:=(nI aP hd).2.2.2.2.2
  have n4:=wL c wr j fx (by omega)
  rw[hb] at n4
  unfold aA at n4
  refine .sr ?_
  refine .sr ?_
  refine .seq (.ar dQ rfl ae (.rn [0,1] _ ?_))
  refine .step rfl rfl (.yield rfl rfl rfl ((by simp:_=some (gk c i j none)).trans rfl) rfl (by decide) rfl ?_)
  refine .rn ?_
  refine .block (.seq (.ar kf rfl ae (.rn [0,1] _ ?_)))
  refine .pc rfl rfl rfl rfl rfl call95 (dq) ?_
  refine .rn [3,4,5,6,7,8,9,10,11,12] [] ?_
  refine .done (.seq (.ar qB rfl ae ?_))
  refine .rn [0,1] _ ?_
  refine .split (t:=63) rfl (fun iS=>?_) (fun iS=>?_)
  ·try subst iS
   try simp at iS
   refine .rn [2,3,4,5] _ ?_
   refine .pc rfl rfl rfl rfl rfl call96 (n4) ?_
   refine .rn [7,8] _ ?_
   refine .split (t:=70) rfl (fun iT=>?_) (fun iT=>?_)
   ·try subst iT
    try simp at iT
   try subst iT
   try simp at iT
   refine .rn [9,10,11,12,13,14,15,16,17] [] ?_
   refine .done (.gI rfl (.skip ?_))
   change cq _ _ _ _ _ _ _ _
   refine .rn [3] [] ?_
   refine .done ?_
   refine .wk (aF:=[(8,.bool true)]) (aZ:=⟨n+2,(m+1004,.box [.int .i64 k,.int .i64 i,.int .i64 j,.int .i64 l,.int .i64 w])::(m+1003,.box [.cm (m+1002)])::(m+1002,gk c i j none)::(1001,.box [.cm 1000])::(1000,.loop N0 ps eh body ed none)::L⟩) (.sub gF bU (by first|exact Nat.le_refl _|omega|(simp;omega))) ?_
   refine .ret ?_
   refine⟨_,jF,none,n+2,L,by omega,me.refl _ _,?_,rfl,rfl⟩
   unfold wN
   rw[cS]
   exact⟨rfl,rfl⟩
  try subst iS
  try simp at iS
 ·
  rw[AU hd] at dq
  unfold jT at dq
  have gZ:=nI aP hd
  have qV:=gZ.2.2.2.2.2
  have n4:=wL c wr j fx (by omega)
  have fh:j+wr.length≤c.c.length:=by unfold hasB at hb;rw[bW,decide_eq_true_eq] at hb;exact hb.1
  rw[hb] at n4
  unfold aA at n4
  obtain⟨j1,FB⟩:∃j1,j+wr.length=j1:=⟨_,rfl⟩
  have y0:IntKind.i64.wrap ((j:Int)+(wr.length:Int))=(j1:Int):=by rw[wrap64 (by omega) (by omega)];omega
  rw[FB] at fh cS
  simp only[y0] at dq
  have JD:=hY _ cS (n+2) (by omega)
  have Cd:dO ⟨i,j,i',j1,n1,some ⟨k,i,j,l,w⟩⟩=.agg [.int .i64 i,.int .i64 j,.int .i64 i',.int .i64 j1,.int .i64 k,.int .i64 i,.int .i64 j,.int .i64 l,.int .i64 w,.int .i64 n1,.bool false]:=rfl
  rw[Cd] at JD
  clear y0 hE hb hd gZ qV Cd hY
  refine .sr ?_
  refine .sr ?_
  refine .seq (.ar dQ rfl ae (.rn [0,1] _ ?_))
  refine .step rfl rfl (.yield rfl rfl rfl ((by simp:_=some (gk c i j none)).trans rfl) rfl (by decide) rfl ?_)
  refine .rn ?_
  refine .block (.seq (.ar kf rfl ae (.rn [0,1] _ ?_)))
  refine .pc rfl rfl rfl rfl rfl call95 (dq) ?_
  refine .rn [3,4,5,6,7,8,9,10,11,12] [] ?_
  refine .done (.seq (.ar qB rfl ae ?_))
  refine .rn [0,1] _ ?_
  refine .split (t:=63) rfl (fun iS=>?_) (fun iS=>?_)
  ·try subst iS
   try simp at iS
   refine .rn [2,3,4,5] _ ?_
   refine .pc rfl rfl rfl rfl rfl call96 (n4) ?_
   refine .rn [7,8] _ ?_
   refine .split (t:=70) rfl (fun iT=>?_) (fun iT=>?_)
   ·try subst iT
    try simp at iT
    refine .rn [9,10,11,12,13,14] _ ?_
    refine .step rfl rfl (.wk (aZ:=⟨n+2,(m+1004,.box [.int .i64 k,.int .i64 i,.int .i64 j,.int .i64 l,.int .i64 w])::(m+1003,.box [.cm (m+1002)])::(1001,.box [.cm 1000])::(1000,.loop N0 ps eh body ed none)::L⟩) (.sub (lF.refl _) bU (Nat.le_refl _)) (.VX (S:=[(m+1004,.box [.int .i64 k,.int .i64 i,.int .i64 j,.int .i64 l,.int .i64 w]),(m+1003,.box [.cm (m+1002)]),(1001,.box [.cm 1000]),(1000,.loop N0 ps eh body ed none)]) rfl (by first|rfl|simp[*]) (by first|rfl|(simp[*];done)) (by simp) qu.symm ra (by decide) FG JD ?_))
    rintro jm n' L' oO ju tS hK
    have ju:=ju.mono (show n≤n+2 by omega)
    have yaw:bq 1000 L'=none:=ju _ (by omega) FE
    have yax:bq 1001 L'=none:=ju _ (by omega) y2
    have yay:bq (m+1002) L'=none:=ju _ (by omega) y3
    have yaz:bq (m+1003) L'=none:=ju _ (by omega) hL3
    have Qe:bq (m+1004) L'=none:=ju _ (by omega) VV
    have qp':∀x,cg (m+1004) x L'=L':=fun x=>xU Qe
    change cq _ _ _ _ _ _ _ ⟨n',(1000,.loop N0 ps eh body ed jm.code)::(m+1004,.box [.int .i64 k,.int .i64 i,.int .i64 j,.int .i64 l,.int .i64 w])::(m+1003,.box [.cm (m+1002)])::(1001,.box [.cm 1000])::L'⟩
    refine .rn [16,17] [] ?_
    refine .done ?_
    refine .cs ?_ ?_<;>intro qh
    ·try simp at qh
     obtain⟨je,rfl⟩:∃je,jm=some je:=by cases jm with|none=>simp at qh|some je=>exact⟨je,rfl⟩
     refine .ret ?_
     change cq _ _ _ _ _ _ _ _
     refine .rn [3] [] ?_
     refine .done ?_
     refine .wk (aF:=[(8,.bool false)]) (aZ:=⟨n',(m+1004,.box [.int .i64 k,.int .i64 i,.int .i64 j,.int .i64 l,.int .i64 w])::(m+1003,.box [.cm (m+1002)])::(m+1002,gk c i j (some .ret))::(1001,.box [.cm 1000])::(1000,.loop N0 ps eh body ed (JM.code (some je)))::L'⟩) (.sub gF bU (by first|exact Nat.le_refl _|omega|(simp;omega))) ?_
     refine .ret ?_
     refine⟨_,jF,some je,n',L',by omega,ju,?_,rfl,rfl⟩
     unfold wN
     rw[cS]
     exact hK
    try simp at qh
    obtain rfl:jm=none:=by cases jm with|none=>rfl|some je=>simp at qh
    refine .skip ?_
    change cq _ _ _ _ _ _ _ _
    refine .rn [3] [] ?_
    refine .done ?_
    refine .wk (aF:=[(8,.bool true)]) (aZ:=⟨n',(m+1004,.box [.int .i64 k,.int .i64 i,.int .i64 j,.int .i64 l,.int .i64 w])::(m+1003,.box [.cm (m+1002)])::(m+1002,gk c i j none)::(1001,.box [.cm 1000])::(1000,.loop N0 ps eh body ed none)::L'⟩) (.sub gF bU (by first|exact Nat.le_refl _|omega|(simp;omega))) ?_
    refine .ret ?_
    refine⟨_,jF,none,n',L',by omega,ju,?_,rfl,rfl⟩
    unfold wN
    rw[cS]
    exact hK
   try subst iT
   try simp at iT
  try subst iS
  try simp at iS
theorem z2p (i j:Nat){n T:Nat}(h:n<T):∃r,sq i j T=sq i j n++⟨3,i,j,(n:Int)+1,0⟩::r:=by
 obtain⟨d,rfl⟩:∃d,T=n+1+d:=⟨T - n - 1,by omega⟩
 clear h
 induction d with
 |zero=>exact⟨[],by rw[Nat.add_zero,MV];rfl⟩
 |succ d ih=>obtain⟨r,hr⟩:=ih;exact⟨r++[⟨3,i,j,(n+1+d+1:Nat),0⟩],by rw[← Nat.add_assoc,MV,hr];simp⟩
theorem z0p (i j:Nat){n T:Nat}(h:n<T):∃r,tg i j T=tg i j n++⟨4,i,j,(n:Int)+1,0⟩::r:=by
 obtain⟨d,rfl⟩:∃d,T=n+1+d:=⟨T - n - 1,by omega⟩
 clear h
 induction d with
 |zero=>exact⟨[],by rw[Nat.add_zero,MW];rfl⟩
 |succ d ih=>obtain⟨r,hr⟩:=ih;exact⟨r++[⟨4,i,j,(n+1+d+1:Nat),0⟩],by rw[← Nat.add_assoc,MW,hr];simp⟩
theorem z3f (i j:Nat){n T:Nat}(h:n<T):∃r,ua i j T=ua i j n++⟨5,i,j,(n:Int),0⟩::r:=by
 obtain⟨d,rfl⟩:∃d,T=n+1+d:=⟨T - n - 1,by omega⟩
 clear h
 induction d with
 |zero=>exact⟨[],by rw[Nat.add_zero,MX]⟩
 |succ d ih=>obtain⟨r,hr⟩:=ih;exact⟨r++[⟨5,i,j,(n+1+d:Nat),0⟩],by rw[← Nat.add_assoc,MX,hr];simp⟩
def Dj (m:Nat)(L:bt):Prop:=bq 1000 L=none∧bq 1001 L=none∧bq (m+1002) L=none∧bq (m+1003) L=none∧bq (m+1004) L=none
theorem Dj.new {m n:Nat}{L L':bt}(h:Dj m L)(hn:m+1005≤n)(hw:me n L L'):Dj m L':=⟨hw _ (by omega) h.1,hw _ (by omega) h.2.1,hw _ (by omega) h.2.2.1,hw _ (by omega) h.2.2.2.1,hw _ (by omega) h.2.2.2.2⟩
section
variable [bE]
theorem FH {N:Nat}{ah:bf}{ps:Array Tmp}{eh body:Code}(c:aj)(i j:Nat)(hk:aN c=0)(hj:j≤48)(I:List ay→Nat→bt→Prop)(E:Option Nat→Nat→bt→Prop)(qu:ps.size=1)(ra:ps.toList.all (Nat.blt · N)=true)(du:∀pre n n' L,I pre n L→n≤n'→I pre n' L)
  (hY:∀pre x mX n L,steps c i j=pre++x::mX→1000≤n→I pre n L→FF prog N ps eh body ah n L (dO x) fun jm n' L'=>match jm with|none=>I (pre++[x]) n' L'|some e=>E e n' L')
  (done rest:List ak) (k l w k0 l0 w0:Int) (m n:Nat) (L:bt) (gZ:nZ c i j=done++⟨k,i,j,l,w⟩::rest) (hC:I (cO c i j++done.filterMap (stepOf c i j)) n L) (hD:Dj m L) (hn:m+1005≤n) :
  eN prog 167 [.int .i64 k,.int .i64 l,.int .i64 w,.ptr (m+1004) 0,.ptr (m+1003) 0] ⟨n,(m+1004,.box [.int .i64 k0,.int .i64 i,.int .i64 j,.int .i64 l0,.int .i64 w0])::(m+1003,.box [.cm (m+1002)])::(m+1002,gk c i j none)::(1001,.box [.cm 1000])::(1000,.loop N ps eh body ah none)::L⟩
   fun v aq=>∃(jm:JM) (n':Nat) (L':bt),n≤n'∧Dj m L'∧(match jm with|none=>I (cO c i j++(done++[(⟨k,i,j,l,w⟩:ak)]).filterMap (stepOf c i j)) n' L'|some e=>E e n' L')∧v=.bool jm.isNone∧aq=⟨n',(m+1004,.box [.int .i64 k,.int .i64 i,.int .i64 j,.int .i64 l,.int .i64 w])::(m+1003,.box [.cm (m+1002)])::(m+1002,gk c i j (bif jm.isNone then none else some .ret))::(1001,.box [.cm 1000])::(1000,.loop N ps eh body ah jm.code)::L'⟩:=by
 refine eN.HE fun hf=>?_
 have Ce:∀q,n≤q→bq q L=none:=fun q hq=>y4 (y4 (y4 (y4 (y4 (hf q hq)))))
 refine(xks c i j k l w k0 l0 w0 m n L hk hj N ps eh body ah (fun jm n' L'=>match jm with|none=>I (cO c i j++(done++[(⟨k,i,j,l,w⟩:ak)]).filterMap (stepOf c i j)) n' L'|some e=>E e n' L') qu ra hn hD.1 hD.2.1 hD.2.2.1 hD.2.2.2.1 hD.2.2.2.2 Ce (fun x hx n1 iA=>?_)).mono ?_
 ·have h1:=hY (cO c i j++done.filterMap (stepOf c i j)) x (rest.filterMap (stepOf c i j)) n1 L (by
   show cO c i j++_=_
   rw[gZ,List.filterMap_append,List.filterMap_cons,hx]
   simp) (by omega) (du _ _ _ _ hC iA)
  have h2:cO c i j++(done++[(⟨k,i,j,l,w⟩:ak)]).filterMap (stepOf c i j)=cO c i j++done.filterMap (stepOf c i j)++[x]:=by
   rw[List.filterMap_append,List.filterMap_cons,hx,List.append_assoc];rfl
  rw[h2]
  exact h1
 rintro v aq ⟨jm,n',L',h1,h2,h3,h4,h5⟩
 refine⟨jm,n',L',h1,hD.new hn h2,?_,h4,h5⟩
 unfold wN at h3
 cases cS:stepOf c i j ⟨k,i,j,l,w⟩ with
 |some x=>rw[cS] at h3;exact h3
 |none=>
  rw[cS] at h3
  obtain⟨rfl,rfl⟩:=h3
  rw[List.filterMap_append,List.filterMap_cons,cS]
  simp only[List.filterMap_nil,List.append_nil]
  exact du _ _ _ _ hC h1
theorem M1 {N b:Nat}{Q:kU}{ah:bf}{g0:Operand}{ps:Array Tmp}{eh body:Code}(c:aj)(i j:Nat)(L0:bt)(I:List ay→Nat→bt→Prop)(E:Option Nat→Nat→bt→Prop)(hk:aN c=0)(oU:i≤c.t.length)(qg:j≤c.c.length)(h0:I [] 1000 L0)(qu:ps.size=1)(ra:ps.toList.all (Nat.blt · N)=true)
  (hg:ct ah g0=some (.func 138 [] [.vp [.int .i64 i,.int .i64 j],.vp (cu c)])) (du:∀pre n n' L,I pre n L→n≤n'→I pre n' L)
  (hY:∀pre x mX n L,steps c i j=pre++x::mX→1000≤n→I pre n L→FF prog N ps eh body ah n L (dO x) fun jm n' L'=>match jm with|none=>I (pre++[x]) n' L'|some e=>E e n' L')
  (hN:∀n L,1000≤n→I (steps c i j) n L→Q .normal ah ⟨n,L⟩) (hR:∀n L,E none n L→Q .ret ah ⟨n,L⟩) (hX:∀id n L,E (some id) n L→Q (.exit id) ah ⟨n,L⟩):VW prog N b (.rangeFunc g0 ps eh body) Q ah ⟨1000,L0⟩:=by
 have aP:=fC hk
 have nY:=aP.tl
 have fx:=aP.cl
 have tX:=aP.yV
 have th:j≤48:=by omega
 have hC:=VU c
 have uT:=Jr c i j
 unfold aA jT at uT
 obtain⟨e0,bR⟩:∃b,decide (i<c.t.length)=b:=⟨_,rfl⟩
 obtain⟨e1,jV⟩:∃b,decide (j<c.c.length)=b:=⟨_,rfl⟩
 obtain⟨cv,jn⟩:∃v,c.c.getD j 0=v:=⟨_,rfl⟩
 obtain⟨tv,rL⟩:∃v,c.t.getD i 0=v:=⟨_,rfl⟩
 have iY:=VH c i j
 have gy:=iQ i
 have y0:=iQ j
 refine .HE fun nj=>?_
 have FE:bq 1000 L0=none:=nj _ (by omega)
 have y2:bq 1001 L0=none:=nj _ (by omega)
 have Qf:∀x,cg 1001 x L0=L0:=fun x=>xU y2
 refine .rangeFunc hg call138 func138 rfl rfl rfl ?_
 refine .Qg (N:=N) (ps:=ps) (eh:=eh) (body:=body) (R:=fun jm n L=>match jm with|none=>1000≤n∧I (steps c i j) n L|some e=>E e n L) (fun n L h=>hN n L h.1 h.2) (fun n L h=>hR n L h) (fun id n L h=>hX id n L h) ?_
 refine .sr ?_
 refine .VY (fun z:Nat×bt=>([(1,.vp [.int .i64 i,.int .i64 j]),(2,.vp (cu c)),(3,.ptr 1001 0)],⟨z.1,(1001,.box [.cm 1000])::(1000,.loop N ps eh body ah none)::z.2⟩)) (fun z=>1002≤z.1∧bq 1000 z.2=none∧bq 1001 z.2=none∧I (cO c i j) z.1 z.2) ?_ ?_
 ·skip
  refine .seq ?_
  refine .drawn (ms:=[0,1,0,4,12,31,63,127,255,127,639,1663,4095,8191,16383,32767,65535,32767,163839,524287,1048575,32767,2129919,32767,8421375,31490047,65044479,134217727,268435455]) (W:=[]) (items:=HC) rfl ae ae ae ?_
  iterate 7 refine .rx ?_
  refine .split (t:=15) rfl (fun dj=>?_) (fun dj=>?_)
  ·try subst dj
   try simp at dj
   iterate 8 refine .rx ?_
   refine .split (t:=23) rfl (fun hP=>?_) (fun hP=>?_)
   ·try subst hP
    try simp at hP
    have A0:i<c.t.length:=by simpa using bR
    have fh:j<c.c.length:=by simpa using jV
    have HD:c.t[i]=tv:=by rw[← rL,List.getD_eq_getElem?_getD,List.getElem?_eq_getElem A0];rfl
    have hgc:c.c[j]=cv:=by rw[← jn,List.getD_eq_getElem?_getD,List.getElem?_eq_getElem fh];rfl
    iterate 14 refine .rx ?_
    refine .done ?_
    refine .cs ?_ ?_<;>intro oB
    ·try simp at oB
     have qx:cO c i j=[⟨i,j,i+1,j+1,0,none⟩]:=by unfold cO;rw[if_pos ⟨A0,fh,by rw[rL,jn];exact oB⟩]
     have JD:=hY [] ⟨i,j,i+1,j+1,0,none⟩ ((nZ c i j).filterMap (stepOf c i j)) 1002 L0 (by show cO c i j++_=_;rw[qx];rfl) (by omega) (du _ _ _ _ h0 (by omega))
     have Cd:dO ⟨i,j,i+1,j+1,0,none⟩=.agg [.int .i64 i,.int .i64 j,.int .i64 ((i:Int)+1),.int .i64 ((j:Int)+1),.int .i64 0,.int .i64 0,.int .i64 0,.int .i64 0,.int .i64 0,.int .i64 0,.bool true]:=rfl
     rw[Cd] at JD
     refine .seq (.ar qz rfl ae (.rn gh _ ?_))
     refine .step rfl rfl (.VX (S:=[(1001,.box [.cm 1000]),(1000,.loop N ps eh body ah none)]) rfl (by first|rfl|simp[*]) (by first|rfl|(simp[*];done)) rfl qu.symm ra (by decide) FG JD ?_)
     rintro jm n' L' oO ju tS hK
     have iR:bq 1000 L'=none:=ju _ (by omega) FE
     have lE:bq 1001 L'=none:=ju _ (by omega) y2
     change cq _ _ _ _ _ _ _ ⟨n',(1000,.loop N ps eh body ah jm.code)::(1001,.box [.cm 1000])::L'⟩
     refine .rn [11] [] ?_
     refine .done ?_
     refine .cs ?_ ?_<;>intro rM
     ·try simp at rM
      obtain⟨e,rfl⟩:∃e,jm=some e:=by cases jm with|none=>simp at rM|some e=>exact⟨e,rfl⟩
      refine .ret ?_
      refine nL.mk (N:=N) (ps:=ps) (eh:=eh) (body:=body) (ah:=ah) (aY:=[]) (R:=fun jm n L=>match jm with|none=>1000≤n∧I (steps c i j) n L|some e=>E e n L) (.inr rfl) (some e) L' ?_ iR (show E e n' L' from hK)
      exact bU
     try simp at rM
     obtain rfl:jm=none:=by cases jm with|none=>rfl|some e=>simp at rM
     refine .skip ?_
     refine⟨(n',L'),⟨oO,iR,lE,by rw[qx];exact hK⟩,(.sub gF bU (by first|exact Nat.le_refl _|omega|(simp;omega)))⟩
    try simp at oB
    have qx:cO c i j=[]:=by unfold cO;rw[if_neg (fun hh=>oB (by rw[← rL,← jn];exact hh.2.2))]
    refine .skip ?_
    refine⟨(1002,L0),⟨by simp,FE,y2,by rw[qx];exact du _ _ _ _ h0 (by omega)⟩,(.sub gF bU (by first|exact Nat.le_refl _|omega|(simp;omega)))⟩
   try subst hP
   try simp at hP
   have qx:cO c i j=[]:=by unfold cO;rw[if_neg (fun hh=>by simp[hh.2.1] at jV)]
   iterate 13 refine .ux ?_
   refine .rx ?_
   refine .done (.gI rfl (.skip ?_))
   refine⟨(1002,L0),⟨by simp,FE,y2,by rw[qx];exact du _ _ _ _ h0 (by omega)⟩,(.sub gF bU (by first|exact Nat.le_refl _|omega|(simp;omega)))⟩
  try subst dj
  try simp at dj
  have qx:cO c i j=[]:=by unfold cO;rw[if_neg (fun hh=>by simp[hh.1] at bR)]
  iterate 6 refine .ux ?_
  iterate 2 refine .rx ?_
  iterate 13 refine .ux ?_
  refine .rx ?_
  refine .done (.gI rfl (.skip ?_))
  refine⟨(1002,L0),⟨by simp,FE,y2,by rw[qx];exact du _ _ _ _ h0 (by omega)⟩,(.sub gF bU (by first|exact Nat.le_refl _|omega|(simp;omega)))⟩
 skip
 rintro⟨n1,L1⟩ ⟨iA,HF,nK,Qh⟩
 simp only at iA HF nK Qh ⊢
 obtain⟨m,rfl⟩:∃m,n1=m+1002:=⟨n1 - 1002,by omega⟩
 clear nj FE y2 Qf h0
 refine .HE fun hf=>?_
 have Ce:∀q,m+1002≤q→bq q L1=none:=fun q hq=>y4 (y4 (hf q hq))
 have iR:=HF
 have lE:=nK
 have oC:bq (m+1002) L1=none:=Ce _ (by omega)
 have qi:bq (m+1003) L1=none:=Ce _ (by omega)
 have qj:bq (m+1004) L1=none:=Ce _ (by omega)
 have hD:Dj m L1:=⟨iR,lE,oC,qi,qj⟩
 have VZ:∀x,cg (m+1002) x L1=L1:=fun x=>xU oC
 have qp2:∀x,cg (m+1003) x L1=L1:=fun x=>xU qi
 have qp3:∀x,cg (m+1004) x L1=L1:=fun x=>xU qj
 clear hf Ce
 refine .seq (.ar [0,1,2] rfl ae (.rn [0,1] _ ?_))
 refine .pc rfl rfl rfl rfl rfl call139 (uT) ?_
 refine .done (.block ?_)
 refine .wk (aF:=[(1,.vp [.int .i64 i,.int .i64 j]),(2,.vp (cu c)),(3,.ptr 1001 0),(52,.func 166 [] [.vp [.int .i64 i,.int .i64 j],.vp (cu c)])]) (aZ:=⟨m+1002,(1001,.box [.cm 1000])::(1000,.loop N ps eh body ah none)::L1⟩) (.sub gF bU (by first|exact Nat.le_refl _|omega|(simp;omega))) ?_
 refine .rangeFunc rfl call166 func166 rfl rfl rfl ?_
 refine .sr ?_
 refine .sr ?_
 refine .sr ?_
 refine .VY (fun z:Nat×bt=>([(1,.vp [.int .i64 i,.int .i64 j]),(2,.vp (cu c)),(5,.func 167 [] [.ptr (m+1004) 0,.ptr (m+1003) 0])],⟨z.1,(m+1004,.box [.int .i64 2,.int .i64 i,.int .i64 j,.int .i64 0,.int .i64 0])::(m+1003,.box [.cm (m+1002)])::(m+1002,gk c i j none)::(1001,.box [.cm 1000])::(1000,.loop N ps eh body ah none)::z.2⟩)) (fun z=>m+1005≤z.1∧Dj m z.2∧I (cO c i j++(tZ c i j).filterMap (stepOf c i j)) z.1 z.2) ?_ ?_
 ·skip
  refine .seq ?_
  refine .wk (aF:=[(1,.vp [.int .i64 i,.int .i64 j]),(2,.vp (cu c)),(5,.func 167 [] [.ptr (m+1004) 0,.ptr (m+1003) 0])]) (aZ:=⟨m+1005,(m+1004,.box [.int .i64 0,.int .i64 i,.int .i64 j,.int .i64 0,.int .i64 0])::(m+1003,.box [.cm (m+1002)])::(m+1002,gk c i j none)::(1001,.box [.cm 1000])::(1000,.loop N ps eh body ah none)::L1⟩) (.sub gF bU (by first|exact Nat.le_refl _|omega|(simp;omega))) ?_
  refine .ar JC rfl ae (.rn gT _ ?_)
  refine .split (t:=21) rfl (fun e8=>?_) (fun e8=>?_)
  ·try subst e8
   try simp at e8
   have fh:j<c.c.length:=by simpa using jV
   have qf:c.c[j]=cv:=by rw[← jn,List.getD_eq_getElem?_getD,List.getElem?_eq_getElem fh];rfl
   have hA:tZ c i j=[⟨1,i,j,0,cv⟩,⟨2,i,j,0,0⟩]:=by unfold tZ;rw[if_pos fh,jn];rfl
   have w1:=FH c i j hk th I E qu ra du hY ([]) (⟨2,i,j,0,0⟩::(sq i j (c.t.length - i)++tg i j i++ua i j c.g.length++(if j<c.c.length then [⟨6,i,j,0,c.c.getD j 0⟩] else []))) (1) (0) (cv) (0) (0) (0) m (m+1005) L1 (by rw[iY,hA];simp) (by simpa using du _ _ (m+1005) _ Qh (by omega)) hD (Nat.le_refl _)
   refine .rn [7,8,9,10,11,12,13] _ ?_
   refine .step rfl rfl (.call rfl rfl rfl call167 (by decide) (((w1)).mono ?_))
   rintro _ _ ⟨jm,n',L',oO,dc,hK,rfl,rfl⟩
   refine .rn [15,16,17] _ ?_
   refine .split (t:=32) rfl (fun ft=>?_) (fun ft=>?_)
   ·try subst ft
    try simp at ft
    obtain⟨e,rfl⟩:∃e,jm=some e:=by cases jm with|none=>simp at ft|some e=>exact⟨e,rfl⟩
    have iR:=dc.1
    have lE:=dc.2.1
    have oC:=dc.2.2.1
    have qi:=dc.2.2.2.1
    have qj:=dc.2.2.2.2
    refine .rn [18,19,20,21] [] ?_
    refine .done (.dR rfl (.ret ?_))
    change oV _ _ _ _
    refine DO ((by simp:_=some (gk c i j (some .ret))).trans rfl) ?_
    refine nL.mk (N:=N) (ps:=ps) (eh:=eh) (body:=body) (ah:=ah) (aY:=[]) (R:=fun jm n L=>match jm with|none=>1000≤n∧I (steps c i j) n L|some e=>E e n L) (.inr rfl) (some e) L' ?_ iR (show E e n' L' from hK)
    refine bV.drop (by simp[*]) ?_
    exact bU
   try subst ft
   try simp at ft
   obtain rfl:jm=none:=by cases jm with|none=>rfl|some e=>simp at ft
   have iR:=dc.1
   have lE:=dc.2.1
   have oC:=dc.2.2.1
   have qi:=dc.2.2.2.1
   have qj:=dc.2.2.2.2
   have w2:=FH c i j hk th I E qu ra du hY ([⟨1,i,j,0,cv⟩]) (sq i j (c.t.length - i)++tg i j i++ua i j c.g.length++(if j<c.c.length then [⟨6,i,j,0,c.c.getD j 0⟩] else [])) (2) (0) (0) (1) (0) (cv) m n' L' (by rw[iY,hA];simp) (hK) dc (by omega)
   clear hK
   refine .rn [18] _ ?_
   refine .step rfl rfl (.call rfl rfl rfl call167 (by decide) (((w2)).mono ?_))
   rintro _ _ ⟨jm,n',L',oO,dc,hK,rfl,rfl⟩
   refine .rn [20,21] [] ?_
   refine .done ?_
   refine .cs ?_ ?_<;>intro gJ
   ·try simp at gJ
    obtain⟨e,rfl⟩:∃e,jm=some e:=by cases jm with|none=>simp at gJ|some e=>exact⟨e,rfl⟩
    have iR:=dc.1
    have lE:=dc.2.1
    have oC:=dc.2.2.1
    have qi:=dc.2.2.2.1
    have qj:=dc.2.2.2.2
    refine .ret ?_
    change oV _ _ _ _
    refine DO ((by simp:_=some (gk c i j (some .ret))).trans rfl) ?_
    refine nL.mk (N:=N) (ps:=ps) (eh:=eh) (body:=body) (ah:=ah) (aY:=[]) (R:=fun jm n L=>match jm with|none=>1000≤n∧I (steps c i j) n L|some e=>E e n L) (.inr rfl) (some e) L' ?_ iR (show E e n' L' from hK)
    refine bV.drop (by simp[*]) ?_
    exact bU
   try simp at gJ
   obtain rfl:jm=none:=by cases jm with|none=>rfl|some e=>simp at gJ
   have iR:=dc.1
   have lE:=dc.2.1
   have oC:=dc.2.2.1
   have qi:=dc.2.2.2.1
   have qj:=dc.2.2.2.2
   refine .skip ?_
   refine⟨(n',L'),⟨by simp only;omega,dc,by rw[hA];exact hK⟩,(.sub gF bU (by first|exact Nat.le_refl _|omega|(simp;omega)))⟩
  try subst e8
  try simp at e8
  have fh:¬j<c.c.length:=by simpa using jV
  have hA:tZ c i j=[⟨2,i,j,0,0⟩]:=by unfold tZ;rw[if_neg fh];rfl
  have w2:=FH c i j hk th I E qu ra du hY ([]) (sq i j (c.t.length - i)++tg i j i++ua i j c.g.length++(if j<c.c.length then [⟨6,i,j,0,c.c.getD j 0⟩] else [])) (2) (0) (0) (0) (0) (0) m (m+1005) L1 (by rw[iY,hA];simp) (by simpa using du _ _ (m+1005) _ Qh (by omega)) hD (Nat.le_refl _)
  refine .rn [7,8,9,10,11,12,13,14,15,16,17,18] _ ?_
  refine .step rfl rfl (.call rfl rfl rfl call167 (by decide) (((w2)).mono ?_))
  rintro _ _ ⟨jm,n',L',oO,dc,hK,rfl,rfl⟩
  refine .rn [20,21] [] ?_
  refine .done ?_
  refine .cs ?_ ?_<;>intro gJ
  ·try simp at gJ
   obtain⟨e,rfl⟩:∃e,jm=some e:=by cases jm with|none=>simp at gJ|some e=>exact⟨e,rfl⟩
   have iR:=dc.1
   have lE:=dc.2.1
   have oC:=dc.2.2.1
   have qi:=dc.2.2.2.1
   have qj:=dc.2.2.2.2
   refine .ret ?_
   change oV _ _ _ _
   refine DO ((by simp:_=some (gk c i j (some .ret))).trans rfl) ?_
   refine nL.mk (N:=N) (ps:=ps) (eh:=eh) (body:=body) (ah:=ah) (aY:=[]) (R:=fun jm n L=>match jm with|none=>1000≤n∧I (steps c i j) n L|some e=>E e n L) (.inr rfl) (some e) L' ?_ iR (show E e n' L' from hK)
   refine bV.drop (by simp[*]) ?_
   exact bU
  try simp at gJ
  obtain rfl:jm=none:=by cases jm with|none=>rfl|some e=>simp at gJ
  have iR:=dc.1
  have lE:=dc.2.1
  have oC:=dc.2.2.1
  have qi:=dc.2.2.2.1
  have qj:=dc.2.2.2.2
  refine .skip ?_
  refine⟨(n',L'),⟨by simp only;omega,dc,by rw[hA];exact hK⟩,(.sub gF bU (by first|exact Nat.le_refl _|omega|(simp;omega)))⟩
 skip
 rintro⟨n1,L1⟩ ⟨iA,hD,hI⟩
 simp only at iA hD hI ⊢
 have iR:=hD.1
 have lE:=hD.2.1
 have oC:=hD.2.2.1
 have qi:=hD.2.2.2.1
 have qj:=hD.2.2.2.2
 have DM:IntKind.i64.wrap ((c.t.length:Int) - (i:Int))=(c.t.length:Int) - (i:Int):=wrap64 (by omega) (by omega)
 refine .seq (.sr ?_)
 refine .block ?_
 refine .JE (fun z:Nat×Int×Int×Int×Nat×bt=>([(1,.vp [.int .i64 i,.int .i64 j]),(2,.vp (cu c)),(5,.func 167 [] [.ptr (m+1004) 0,.ptr (m+1003) 0]),(6,.int .i64 ((z.1:Int)+1))],⟨z.2.2.2.2.1,(m+1004,.box [.int .i64 z.2.1,.int .i64 i,.int .i64 j,.int .i64 z.2.2.1,.int .i64 z.2.2.2.1])::(m+1003,.box [.cm (m+1002)])::(m+1002,gk c i j none)::(1001,.box [.cm 1000])::(1000,.loop N ps eh body ah none)::z.2.2.2.2.2⟩)) (fun z=>z.1≤c.t.length - i∧m+1005≤z.2.2.2.2.1∧Dj m z.2.2.2.2.2∧I (cO c i j++(tZ c i j++sq i j z.1).filterMap (stepOf c i j)) z.2.2.2.2.1 z.2.2.2.2.2) (fun z=>c.t.length - i - z.1) (0,2,0,0,n1,L1) ⟨Nat.zero_le _,iA,hD,by simpa[sq] using hI⟩ (.sub gF bU (by first|exact Nat.le_refl _|omega|(simp;omega))) ?_
 clear hI hD iA iR lE oC qi qj
 rintro⟨n,k,l,w,n1,L1⟩ ⟨hn,iA,hD,hI⟩
 simp only at hn iA hD hI ⊢
 have iR:=hD.1
 have lE:=hD.2.1
 have oC:=hD.2.2.1
 have qi:=hD.2.2.2.1
 have qj:=hD.2.2.2.2
 refine .seq (.sr ?_)
 refine .cs ?_ ?_<;>intro qC
 ·try simp at qC
  have pE:n<c.t.length - i:=by omega
  obtain⟨r,hr⟩:=z2p i j pE
  have w3:=FH c i j hk th I E qu ra du hY (tZ c i j++sq i j n) (r++(tg i j i++(ua i j c.g.length++(if j<c.c.length then [⟨6,i,j,0,c.c.getD j 0⟩] else [])))) (3) ((n:Int)+1) (0) (k) (l) (w) m n1 L1 (by rw[iY,hr];simp only[List.append_assoc,List.cons_append]) (hI) hD (iA)
  have qA:IntKind.i64.wrap ((n:Int)+1+1)=(n:Int)+1+1:=wrap64 (by omega) (by omega)
  refine .skip (.seq (.block (.seq (.ar dQ rfl ae (.rn [0,1] _ ?_)))))
  refine .step rfl rfl (.call rfl rfl rfl call167 (by decide) (((w3)).mono ?_))
  rintro _ _ ⟨jm,n',L',oO,dc,hK,rfl,rfl⟩
  refine .rn [3] [] ?_
  refine .done ?_
  refine .cs ?_ ?_<;>intro ti
  ·try simp at ti
   obtain⟨e,rfl⟩:∃e,jm=some e:=by cases jm with|none=>simp at ti|some e=>exact⟨e,rfl⟩
   have iR:=dc.1
   have lE:=dc.2.1
   have oC:=dc.2.2.1
   have qi:=dc.2.2.2.1
   have qj:=dc.2.2.2.2
   refine .ret ?_
   change oV _ _ _ _
   refine DO ((by simp:_=some (gk c i j (some .ret))).trans rfl) ?_
   refine nL.mk (N:=N) (ps:=ps) (eh:=eh) (body:=body) (ah:=ah) (aY:=[]) (R:=fun jm n L=>match jm with|none=>1000≤n∧I (steps c i j) n L|some e=>E e n L) (.inr rfl) (some e) L' ?_ iR (show E e n' L' from hK)
   refine bV.drop (by simp[*]) ?_
   exact bU
  try simp at ti
  obtain rfl:jm=none:=by cases jm with|none=>rfl|some e=>simp at ti
  have iR:=dc.1
  have lE:=dc.2.1
  have oC:=dc.2.2.1
  have qi:=dc.2.2.2.1
  have qj:=dc.2.2.2.2
  refine .skip (.rn ?_)
  refine⟨(n+1,3,(n:Int)+1,0,n',L'),⟨pE,by simp only;omega,dc,by rw[MV,← List.append_assoc];exact hK⟩,by simp only;omega,?_⟩
  simp only
  exact(.sub gF bU (by first|exact Nat.le_refl _|omega|(simp;omega)))
 try simp at qC
 obtain rfl:n=c.t.length - i:=by omega
 refine .exit (.seq (.sr ?_))
 refine .block ?_
 refine .JE (fun z:Nat×Int×Int×Int×Nat×bt=>([(1,.vp [.int .i64 i,.int .i64 j]),(2,.vp (cu c)),(5,.func 167 [] [.ptr (m+1004) 0,.ptr (m+1003) 0]),(7,.int .i64 ((z.1:Int)+1))],⟨z.2.2.2.2.1,(m+1004,.box [.int .i64 z.2.1,.int .i64 i,.int .i64 j,.int .i64 z.2.2.1,.int .i64 z.2.2.2.1])::(m+1003,.box [.cm (m+1002)])::(m+1002,gk c i j none)::(1001,.box [.cm 1000])::(1000,.loop N ps eh body ah none)::z.2.2.2.2.2⟩)) (fun z=>z.1≤i∧m+1005≤z.2.2.2.2.1∧Dj m z.2.2.2.2.2∧I (cO c i j++(tZ c i j++sq i j (c.t.length - i)++tg i j z.1).filterMap (stepOf c i j)) z.2.2.2.2.1 z.2.2.2.2.2) (fun z=>i - z.1) (0,k,l,w,n1,L1) ⟨Nat.zero_le _,iA,hD,by simpa[tg] using hI⟩ (.sub gF bU (by first|exact Nat.le_refl _|omega|(simp;omega))) ?_
 clear hI hD iA iR lE oC qi qj
 rintro⟨n,k,l,w,n1,L1⟩ ⟨hn,iA,hD,hI⟩
 simp only at hn iA hD hI ⊢
 have iR:=hD.1
 have lE:=hD.2.1
 have oC:=hD.2.2.1
 have qi:=hD.2.2.2.1
 have qj:=hD.2.2.2.2
 refine .seq (.sr ?_)
 refine .cs ?_ ?_<;>intro nv
 ·try simp at nv
  have pE:n<i:=by omega
  obtain⟨r,hr⟩:=z0p i j pE
  have w3:=FH c i j hk th I E qu ra du hY (tZ c i j++sq i j (c.t.length - i)++tg i j n) (r++(ua i j c.g.length++(if j<c.c.length then [⟨6,i,j,0,c.c.getD j 0⟩] else []))) (4) ((n:Int)+1) (0) (k) (l) (w) m n1 L1 (by rw[iY,hr];simp only[List.append_assoc,List.cons_append]) (hI) hD (iA)
  have qA:IntKind.i64.wrap ((n:Int)+1+1)=(n:Int)+1+1:=wrap64 (by omega) (by omega)
  refine .skip (.seq (.block (.seq (.ar dQ rfl ae (.rn [0,1] _ ?_)))))
  refine .step rfl rfl (.call rfl rfl rfl call167 (by decide) (((w3)).mono ?_))
  rintro _ _ ⟨jm,n',L',oO,dc,hK,rfl,rfl⟩
  refine .rn [3] [] ?_
  refine .done ?_
  refine .cs ?_ ?_<;>intro gu
  ·try simp at gu
   obtain⟨e,rfl⟩:∃e,jm=some e:=by cases jm with|none=>simp at gu|some e=>exact⟨e,rfl⟩
   have iR:=dc.1
   have lE:=dc.2.1
   have oC:=dc.2.2.1
   have qi:=dc.2.2.2.1
   have qj:=dc.2.2.2.2
   refine .ret ?_
   change oV _ _ _ _
   refine DO ((by simp:_=some (gk c i j (some .ret))).trans rfl) ?_
   refine nL.mk (N:=N) (ps:=ps) (eh:=eh) (body:=body) (ah:=ah) (aY:=[]) (R:=fun jm n L=>match jm with|none=>1000≤n∧I (steps c i j) n L|some e=>E e n L) (.inr rfl) (some e) L' ?_ iR (show E e n' L' from hK)
   refine bV.drop (by simp[*]) ?_
   exact bU
  try simp at gu
  obtain rfl:jm=none:=by cases jm with|none=>rfl|some e=>simp at gu
  have iR:=dc.1
  have lE:=dc.2.1
  have oC:=dc.2.2.1
  have qi:=dc.2.2.2.1
  have qj:=dc.2.2.2.2
  refine .skip (.rn ?_)
  refine⟨(n+1,4,(n:Int)+1,0,n',L'),⟨pE,by simp only;omega,dc,by rw[MW,← List.append_assoc];exact hK⟩,by simp only;omega,?_⟩
  simp only
  exact(.sub gF bU (by first|exact Nat.le_refl _|omega|(simp;omega)))
 try simp at nv
 obtain rfl:i=n:=by omega
 refine .exit (.seq (.sr ?_))
 refine .block ?_
 refine .JE (fun z:Nat×Int×Int×Int×Nat×bt=>([(1,.vp [.int .i64 i,.int .i64 j]),(2,.vp (cu c)),(5,.func 167 [] [.ptr (m+1004) 0,.ptr (m+1003) 0]),(63,.int .i64 c.g.length),(64,.int .i64 z.1)],⟨z.2.2.2.2.1,(m+1004,.box [.int .i64 z.2.1,.int .i64 i,.int .i64 j,.int .i64 z.2.2.1,.int .i64 z.2.2.2.1])::(m+1003,.box [.cm (m+1002)])::(m+1002,gk c i j none)::(1001,.box [.cm 1000])::(1000,.loop N ps eh body ah none)::z.2.2.2.2.2⟩)) (fun z=>z.1≤c.g.length∧m+1005≤z.2.2.2.2.1∧Dj m z.2.2.2.2.2∧I (cO c i j++(tZ c i j++sq i j (c.t.length - i)++tg i j i++ua i j z.1).filterMap (stepOf c i j)) z.2.2.2.2.1 z.2.2.2.2.2) (fun z=>c.g.length - z.1) (0,k,l,w,n1,L1) ⟨Nat.zero_le _,iA,hD,by simpa[ua] using hI⟩ (.sub gF bU (by first|exact Nat.le_refl _|omega|(simp;omega))) ?_
 clear hI hD iA iR lE oC qi qj
 rintro⟨n,k,l,w,n1,L1⟩ ⟨hn,iA,hD,hI⟩
 simp only at hn iA hD hI ⊢
 have iR:=hD.1
 have lE:=hD.2.1
 have oC:=hD.2.2.1
 have qi:=hD.2.2.2.1
 have qj:=hD.2.2.2.2
 refine .sr ?_
 refine .seq ?_
 refine .cs ?_ ?_<;>intro xS
 ·try simp at xS
  have pE:n<c.g.length:=by simpa using xS
  obtain⟨r,hr⟩:=z3f i j pE
  have w3:=FH c i j hk th I E qu ra du hY (tZ c i j++sq i j (c.t.length - i)++tg i j i++ua i j n) (r++(if j<c.c.length then [⟨6,i,j,0,c.c.getD j 0⟩] else [])) (5) ((n:Int)) (0) (k) (l) (w) m n1 L1 (by rw[iY,hr];simp only[List.append_assoc,List.cons_append]) (hI) hD (iA)
  have qA:=iQ n
  refine .skip (.seq (.block (.sr ?_)))
  refine .seq (.ar dQ rfl ae (.rn [0,1] _ ?_))
  refine .step rfl rfl (.call rfl rfl rfl call167 (by decide) (((w3)).mono ?_))
  rintro _ _ ⟨jm,n',L',oO,dc,hK,rfl,rfl⟩
  refine .rn [3] [] ?_
  refine .done ?_
  refine .cs ?_ ?_<;>intro iT
  ·try simp at iT
   obtain⟨e,rfl⟩:∃e,jm=some e:=by cases jm with|none=>simp at iT|some e=>exact⟨e,rfl⟩
   have iR:=dc.1
   have lE:=dc.2.1
   have oC:=dc.2.2.1
   have qi:=dc.2.2.2.1
   have qj:=dc.2.2.2.2
   refine .ret ?_
   change oV _ _ _ _
   refine DO ((by simp:_=some (gk c i j (some .ret))).trans rfl) ?_
   refine nL.mk (N:=N) (ps:=ps) (eh:=eh) (body:=body) (ah:=ah) (aY:=[]) (R:=fun jm n L=>match jm with|none=>1000≤n∧I (steps c i j) n L|some e=>E e n L) (.inr rfl) (some e) L' ?_ iR (show E e n' L' from hK)
   refine bV.drop (by simp[*]) ?_
   exact bU
  try simp at iT
  obtain rfl:jm=none:=by cases jm with|none=>rfl|some e=>simp at iT
  have iR:=dc.1
  have lE:=dc.2.1
  have oC:=dc.2.2.1
  have qi:=dc.2.2.2.1
  have qj:=dc.2.2.2.2
  refine .skip (.rn ?_)
  refine⟨(n+1,5,(n:Int),0,n',L'),⟨pE,by simp only;omega,dc,by rw[MX,← List.append_assoc];exact hK⟩,by simp only;omega,?_⟩
  simp only
  exact(.sub gF bU (by first|exact Nat.le_refl _|omega|(simp;omega)))
 try simp at xS
 obtain rfl:n=c.g.length:=by omega
 refine .exit (.sr ?_)
 refine .cs ?_ ?_<;>intro uV
 ·try simp at uV
  have fh:j<c.c.length:=by rw[uV] at jV;simpa using jV
  rw[if_pos fh,jn] at iY
  have qf:c.c[j]=cv:=by rw[← jn,List.getD_eq_getElem?_getD,List.getElem?_eq_getElem fh];rfl
  have w3:=FH c i j hk th I E qu ra du hY (tZ c i j++sq i j (c.t.length - i)++tg i j i++ua i j c.g.length) ([]) (6) (0) (cv) (k) (l) (w) m n1 L1 (iY) (hI) hD (iA)
  refine .ar js rfl ae (.rn gT _ ?_)
  refine .step rfl rfl (.call rfl rfl rfl call167 (by decide) (((w3)).mono ?_))
  rintro _ _ ⟨jm,n',L',oO,dc,hK,rfl,rfl⟩
  have iR:=dc.1
  have lE:=dc.2.1
  have oC:=dc.2.2.1
  have qi:=dc.2.2.2.1
  have qj:=dc.2.2.2.2
  rcases jm with _|e
  ·refine .done ?_
   change oV _ _ _ _
   refine FD ((by simp:_=some (gk c i j none)).trans rfl) ?_
   refine nL.mk (N:=N) (ps:=ps) (eh:=eh) (body:=body) (ah:=ah) (aY:=[]) (R:=fun jm n L=>match jm with|none=>1000≤n∧I (steps c i j) n L|some e=>E e n L) (.inl rfl) none L' ?_ iR ⟨by show 1000≤n';omega,?_⟩
   ·refine bV.drop (by simp[*]) ?_
    exact bU
   show I (cO c i j++(nZ c i j).filterMap (stepOf c i j)) n' L'
   rw[iY]
   exact hK
  refine .done ?_
  change oV _ _ _ _
  refine DO ((by simp:_=some (gk c i j (some .ret))).trans rfl) ?_
  refine nL.mk (N:=N) (ps:=ps) (eh:=eh) (body:=body) (ah:=ah) (aY:=[]) (R:=fun jm n L=>match jm with|none=>1000≤n∧I (steps c i j) n L|some e=>E e n L) (.inr rfl) (some e) L' ?_ iR (show E e n' L' from hK)
  refine bV.drop (by simp[*]) ?_
  exact bU
 try simp at uV
 have fh:¬j<c.c.length:=by rw[uV] at jV;simpa using jV
 rw[if_neg fh,List.append_nil] at iY
 refine .skip ?_
 change oV _ _ _ _
 refine FD ((by simp:_=some (gk c i j none)).trans rfl) ?_
 refine nL.mk (N:=N) (ps:=ps) (eh:=eh) (body:=body) (ah:=ah) (aY:=[]) (R:=fun jm n L=>match jm with|none=>1000≤n∧I (steps c i j) n L|some e=>E e n L) (.inl rfl) none L1 ?_ iR ⟨by show 1000≤n1;omega,?_⟩
 ·refine bV.drop (by simp[*]) ?_
  exact bU
 show I (cO c i j++(nZ c i j).filterMap (stepOf c i j)) n1 L1
 rw[iY]
 exact hI
end
attribute [local simp] cQ bQ cw jU lD jE jN jc ef dD
def fT (D:Nat→Nat→Int)(x:ay):Nat→Nat→Int:=bh D x.i x.j (min (D x.i x.j) (D x.i' x.j'+x.n))
def ss (c:aj)(D:Nat→Nat→Int)(q:Nat×Nat):Nat→Nat→Int:=if q.1=0∧q.2=0 then D else (steps c (c.t.length - q.1) (c.c.length - q.2)).foldl fT (bh D (c.t.length - q.1) (c.c.length - q.2) 1099511627776)
def wO (c:aj)(a b:Nat):Nat→Nat→Int:=(mI (c.c.length+1) a b).foldl (ss c) (bh (fun _ _=>1099511627776) c.t.length c.c.length 0)
def bwd (c:aj):Nat→Nat→Int:=(places c).foldl (ss c) (bh (fun _ _=>1099511627776) c.t.length c.c.length 0)
theorem z6u (c:aj)(a b:Nat):wO c a (b+1)=ss c (wO c a b) (a,b):=by unfold wO;rw[Jw,List.foldl_append];rfl
theorem xbc (c:aj)(a:Nat):wO c a (c.c.length+1)=wO c (a+1) 0:=by unfold wO;rw[Jx]
theorem V0 (c:aj):wO c (c.t.length+1) 0=bwd c:=by unfold wO bwd;rw[Hx]
theorem M2 {D:Nat→Nat→Int}(h:lT D){i j:Nat}{v:Int}(h0:0≤v)(h1:v≤1099511627776):lT (bh D i j v):=fun a b=>by
 unfold bh;split
 ·exact⟨h0,h1⟩
 exact h a b
theorem z5o {D:Nat→Nat→Int}(h:lT D){x:ay}(hn:0≤x.n):lT (fT D x):=by
 have h1:=h x.i x.j;have h2:=h x.i' x.j'
 exact M2 h (by omega) (by omega)
theorem Qi:∀(l:List ay) {D:Nat→Nat→Int},(∀x∈l,0≤x.n)→lT D→lT (l.foldl fT D)
 |[],_,_,h=>h
 |x::r,_,hx,h=>Qi r (fun y hy=>hx y (List.mem_cons_of_mem _ hy)) (z5o h (hx x List.mem_cons_self))
theorem xax {c:aj}(hr:Rt c){D:Nat→Nat→Int}(h:lT D)(q:Nat×Nat):lT (ss c D q):=by
 unfold ss;split
 ·exact h
 exact Qi _ (fun x hx=>(iz hr hx).n0) (M2 h (by decide) (by decide))
theorem V4 {c:aj}(hr:Rt c)(a b:Nat):lT (wO c a b):=by
 have:∀(l:List (Nat×Nat)) (D:Nat→Nat→Int),lT D→lT (l.foldl (ss c) D):=by
  intro l
  induction l with
  |nil=>exact fun D h=>h
  |cons q r ih=>exact fun D h=>ih _ (xax hr h q)
 exact this _ _ (M2 (fun _ _=>⟨by decide,by decide⟩) (by decide) (by decide))
def Kb (c:aj)(a b:Nat)(ps:List (Nat×Nat)):Prop:=∀i j,(i,j)∈ps↔i≤c.t.length∧j≤c.c.length∧(c.t.length - i<a∨(c.t.length - i=a∧c.c.length - j<b)∨(i=c.t.length∧j=c.c.length))
theorem y5 (s:Option ak):∃a b d e f:Int,Fx s=[.int .i64 a,.int .i64 b,.int .i64 d,.int .i64 e,.int .i64 f]:=by
 cases s with
 |none=>exact⟨0,0,0,0,0,rfl⟩
 |some s=>exact⟨_,_,_,_,_,rfl⟩
theorem y6 (x:ay){a b d e f:Int}(h:Fx x.s=[.int .i64 a,.int .i64 b,.int .i64 d,.int .i64 e,.int .i64 f]):dO x=.agg [.int .i64 x.i,.int .i64 x.j,.int .i64 x.i',.int .i64 x.j',.int .i64 a,.int .i64 b,.int .i64 d,.int .i64 e,.int .i64 f,.int .i64 x.n,.bool x.s.isNone]:=by
 unfold dO;rw[h];rfl
section
variable [bE]
theorem JF (c:aj)(hk:aN c=0):aI prog 78 [aA c] fun r=>r=jT c.t.length c.c.length:=by
 have aP:=fC hk
 have hC:cu c=(cQ c):=rfl
 unfold aA jT
 rw[hC]
 refine .bJ func78 rfl rfl ?_
 refine .sr ?_
 refine .sr ?_
 refine .ret (ax ?_)
 exact zk
theorem Qj (c:aj)(hk:aN c=0):aI prog 137 [aA c] fun r=>∃ps,(∀i j,(i,j)∈ps↔i≤c.t.length∧j≤c.c.length)∧r=.aG (aR ps (bwd c)):=by
 have aP:=fC hk
 have nY:=aP.tl
 have fx:=aP.cl
 have tX:=aP.yV
 have hC:cu c=(cQ c):=rfl
 have xB:IntKind.i64.wrap ((c.t.length:Int)+1)=(c.t.length:Int)+1:=wrap64 (by omega) (by omega)
 have lr:IntKind.i64.wrap ((c.c.length:Int)+1)=(c.c.length:Int)+1:=wrap64 (by omega) (by omega)
 have nM:=JF c hk
 have nJ:=fun i j:Int=>Jq c i j
 unfold aA at nM nJ ⊢
 unfold jT at nM nJ
 have hC':=hC
 rw[hC] at nM nJ ⊢
 have mW:rO [.int .i64 c.t.length,.int .i64 c.c.length] [.int .i64 c.t.length,.int .i64 c.c.length] (.int .i64 0) []=some (aR [(c.t.length,c.c.length)] (wO c 0 0)):=by
  have:=Hy (a:=c.t.length) (b:=c.c.length) (D:=fun _ _=>1099511627776) (ps:=[]) (by simp) 0
  exact this
 refine .bJ func137 rfl rfl ?_
 refine .sr ?_
 refine .seq (.ar gT rfl ae (.rn [0,1] _ ?_))
 refine .pc rfl rfl rfl rfl rfl call78 (nM) ?_
 refine .rn [3,4,5,6] [] ?_
 refine .done (.seq (.sr ?_))
 refine .block ?_
 refine .cZ (fun z:Nat×List (Nat×Nat)=>([(1,.ptr 0 0),(3,.ptr 2 0),(15,.int .i64 ((c.t.length:Int)+1)),(16,.int .i64 z.1)],⟨3,[(2,.box [.a6 1]),(1,.map (aR (z.2) (wO c z.1 0))),(0,.box (cQ c))]⟩)) (fun z=>z.1≤c.t.length+1∧Kb c z.1 0 z.2) (fun z=>c.t.length+1 - z.1) (0,[(c.t.length,c.c.length)]) ⟨by simp,fun i j=>by simp;omega⟩ aX ?_
 rintro⟨a,ps⟩ ⟨ha,iG⟩
 simp only at ha iG ⊢
 refine .sr ?_
 refine .seq ?_
 refine .cs ?_ ?_<;>intro iB
 ·try simp at iB
  have cR:=iQ a
  refine .skip (.seq (.block (.sr ?_)))
  refine .sr ?_
  refine .block ?_
  refine .cZ (fun z:Nat×List (Nat×Nat)=>([(1,.ptr 0 0),(3,.ptr 2 0),(4,.int .i64 a),(15,.int .i64 ((c.t.length:Int)+1)),(16,.int .i64 a),(22,.int .i64 ((c.c.length:Int)+1)),(23,.int .i64 z.1)],⟨3,[(2,.box [.a6 1]),(1,.map (aR (z.2) (wO c a z.1))),(0,.box (cQ c))]⟩)) (fun z=>z.1≤c.c.length+1∧Kb c a z.1 z.2) (fun z=>c.c.length+1 - z.1) (0,ps) ⟨by simp,iG⟩ aX ?_
  clear iG
  rintro⟨b,ps⟩ ⟨hb,iG⟩
  simp only at hb iG ⊢
  refine .sr ?_
  refine .seq ?_
  refine .cs ?_ ?_<;>intro mb
  ·try simp at mb
   have sh:=iQ b
   have hac:a≤c.t.length:=by omega
   have hbc:b≤c.c.length:=by omega
   obtain⟨i,hi⟩:∃i,c.t.length - a=i:=⟨_,rfl⟩
   obtain⟨j,hj⟩:∃j,c.c.length - b=j:=⟨_,rfl⟩
   have gy:IntKind.i64.wrap ((c.t.length:Int) - (a:Int))=(i:Int):=by rw[wrap64 (by omega) (by omega)];omega
   have y0:IntKind.i64.wrap ((c.c.length:Int) - (b:Int))=(j:Int):=by rw[wrap64 (by omega) (by omega)];omega
   have dp:=z6u c a b
   have hD:=V4 aP a b
   obtain⟨D,xR⟩:∃D,wO c a b=D:=⟨_,rfl⟩
   rw[xR] at dp hD ⊢
   have nJ:=nJ i j
   refine .skip (.seq (.block (.sr ?_)))
   refine .sr ?_
   refine .seq (.seq ?_)
   refine .drawn (ms:=[0,0,2,7]) (W:=[2]) (items:=[.op 0,.op 1,.op 2,.ck 0,.op 3]) rfl ae ae ae ?_
   iterate 2 refine .rx ?_
   refine .wp rfl rfl rfl rfl rfl call78 (nM) ?_
   refine .ck rfl eQ ?_
   refine .rx ?_
   refine .done ?_
   refine .cs ?_ ?_<;>intro jW
   ·try simp at jW
    have hz:a=0∧b=0:=by omega
    rw[ss,if_pos hz] at dp
    have hq:Kb c a (b+1) ps:=fun i' j'=>by rw[iG];omega
    clear hz jW
    refine .exit (.rn ?_)
    clear hi hj gy y0
    refine⟨(b+1,ps),⟨by simp only;omega,hq⟩,by simp only;omega,by rw[dp];exact aX⟩
   try simp at jW
   have hz:¬(a=0∧b=0):=by rintro⟨rfl,rfl⟩;rw[← hi,← hj] at jW;simp at jW
   rw[ss,if_neg hz] at dp
   simp only[hi,hj] at dp
   have oU:i≤c.t.length:=by omega
   have qg:j≤c.c.length:=by omega
   have HG:(i,j)∉ps:=fun hh=>by
    have:=(iG i j).1 hh
    omega
   have y7:rO [.int .i64 i,.int .i64 j] [.int .i64 i,.int .i64 j] (.int .i64 1099511627776) (aR ps D)=some (aR (ps++[(i,j)]) (bh D i j 1099511627776)):=Hy HG _
   have y8:Kb c a (b+1) (ps++[(i,j)]):=fun i' j'=>by
    rw[List.mem_append,iG,List.mem_singleton,bO]
    omega
   have lE:=M2 hD (i:=i) (j:=j) (v:=1099511627776) (by decide) (by decide)
   obtain⟨qs,V5⟩:∃qs,ps++[(i,j)]=qs:=⟨_,rfl⟩
   obtain⟨D1,fM⟩:∃D1,bh D i j 1099511627776=D1:=⟨_,rfl⟩
   rw[V5] at y7 y8
   rw[fM] at y7 lE dp
   clear V5 fM xR
   refine .skip (.sr ?_)
   refine .seq (.ar [0,1,2] rfl ae (.rn [0,1] _ ?_))
   refine .pc rfl rfl rfl rfl rfl call79 (nJ) ?_
   refine .done (.block ?_)
   refine .rec (aF:=[(1,.ptr 0 0),(3,.ptr 2 0),(4,.int .i64 a),(6,.ptr 3 0),(15,.int .i64 ((c.t.length:Int)+1)),(16,.int .i64 a),(22,.int .i64 ((c.c.length:Int)+1)),(23,.int .i64 b),(45,.func 138 [] [.vp [.int .i64 i,.int .i64 j],.vp (cu c)])]) (aZ:=⟨1000,[(3,.box [.int .i64 i,.int .i64 j]),(2,.box [.a6 1]),(1,.map (aR (qs) (D1))),(0,.box (cQ c))]⟩) aX ?_
   refine M1 c i j _ (fun pre n L=>L=[(3,.box [.int .i64 i,.int .i64 j]),(2,.box [.a6 1]),(1,.map (aR (qs) (pre.foldl fT D1))),(0,.box (cQ c))]) (fun _ _ _=>False) hk oU qg rfl rfl (by decide) rfl (fun _ _ _ _ h _=>h) ?_ ?_ (fun _ _ h=>h.elim) (fun _ _ _ h=>h.elim)
   ·skip
    rintro pre x mX n L gZ hn rfl
    have hx:x∈steps c i j:=by rw[gZ];simp
    have iM:=iz aP hx
    have rE:=iM.fi
    have wx:=iM.fj
    have DN:=iM.n0
    have iA:=iM.n1
    have V6:=iM.it
    have Mt:=iM.jt
    have cE:=iM.wP
    have eV:=iM.vL
    have hon:=iM.on
    obtain⟨m,rfl⟩:∃m,n=m+1000:=⟨n - 1000,by omega⟩
    have M3:=Qi pre (D:=D1) (fun y hy=>(iz aP (show y∈steps c i j by rw[gZ];simp[hy])).n0) lE
    obtain⟨Dp,JG⟩:∃Dp,pre.foldl fT D1=Dp:=⟨_,rfl⟩
    have uR:(pre++[x]).foldl fT D1=bh Dp i j (min (Dp i j) (Dp x.i' x.j'+x.n)):=by rw[List.foldl_append,JG];show fT Dp x=_;unfold fT;rw[rE,wx]
    rw[JG] at M3 ⊢
    obtain⟨a0,a1,a2,a3,a4,fP⟩:=y5 x.s
    rw[y6 x fP,rE,wx]
    have nR:(i,j)∈qs:=(y8 i j).2 (by omega)
    have b7:(x.i',x.j')∈qs:=(y8 _ _).2 (by omega)
    have nj:mH [.int .i64 i,.int .i64 j] (aR qs Dp)=some (some (.int .i64 (Dp i j))):=by
     have:=xP i j Dp qs
     rw[if_pos nR] at this
     exact this
    have uQ:mH [.int .i64 x.i',.int .i64 x.j'] (aR qs Dp)=some (some (.int .i64 (Dp x.i' x.j'))):=by
     have:=xP x.i' x.j' Dp qs
     rw[if_pos b7] at this
     exact this
    have rN:∀v,rO [.int .i64 i,.int .i64 j] [.int .i64 i,.int .i64 j] (.int .i64 v) (aR qs Dp)=some (aR qs (bh Dp i j v)):=fun v=>Hw nR v
    have h0:=M3 i j
    have h1:=M3 x.i' x.j'
    obtain⟨d0,n3⟩:∃d,Dp i j=d:=⟨_,rfl⟩
    obtain⟨d1,mB⟩:∃d,Dp x.i' x.j'=d:=⟨_,rfl⟩
    rw[n3,mB] at uR
    rw[n3] at nj h0
    rw[mB] at uQ h1
    have Ft:IntKind.i64.wrap (d1+x.n)=d1+x.n:=wrap64 (by omega) (by omega)
    have rG:(if d1+x.n<d0 then d1+x.n else d0)=min d0 (d1+x.n):=by split<;>omega
    clear hD lE dp iG y8 HG y7 gZ hx iM M3 rE wx fP
    unfold FF
    refine .rn ?_
    refine .block ?_
    refine .drawn (ms:=[0,0,0,0,12,0,0,64,224,0,512,2016,4092,8191]) (W:=[13]) (items:=xO) rfl ae ae ae ?_
    iterate 13 refine .rx ?_
    refine .wv ?_
    refine .done ?_
    refine⟨none,[(3,.box [.int .i64 i,.int .i64 j]),(2,.box [.a6 1]),(1,.map (aR (qs) (bh Dp i j (min d0 (d1+x.n))))),(0,.box (cQ c))],rfl,bU,mY,?_⟩
    show _=_
    rw[uR]
   skip
   rintro n L hn rfl
   rw[← dp]
   refine .rn ?_
   refine⟨(b+1,qs),⟨by simp only;omega,y8⟩,by simp only;omega,aX⟩
  try simp at mb
  obtain rfl:b=c.c.length+1:=by omega
  refine .exit (.rn ?_)
  refine⟨(a+1,ps),⟨by simp only;omega,fun i' j'=>by rw[iG];omega⟩,by simp only;omega,by rw[← xbc];exact aX⟩
 try simp at iB
 obtain rfl:a=c.t.length+1:=by omega
 rw[V0]
 refine .exit (.sr ?_)
 refine .ret (ax ?_)
 exact⟨ps,fun i j=>by rw[iG];omega,rfl⟩
end
def aS (c:aj):Nat→Nat→Int:=fwd c fun _=>true
def Kp (c:aj)(ps:List (Nat×Nat)):Prop:=∀i j,(i,j)∈ps↔i≤c.t.length∧j≤c.c.length
def M4 (c:aj)(ps:List (Nat×Nat)):List PV:=cu c++[.aG (aR (places c) (aS c)),.aG (aR ps (bwd c)),.int .i64 (aS c c.t.length c.c.length)]
def wQ (c:aj)(ps:List (Nat×Nat)):PV:=.agg (M4 c ps)
theorem JH {c:aj}(hr:Rt c)(p:ay→Bool):lT (fwd c p):=by rw[← VL];exact VN hr p _ _
theorem V7 {c:aj}(hr:Rt c):lT (bwd c):=by rw[← V0];exact V4 hr _ _
def iH (c:aj)(x:ay):Bool:=decide (aS c x.i x.j+x.n+bwd c x.i' x.j'=aS c c.t.length c.c.length)
def kV (s:ak)(x:ay):Bool:=decide (x.s=some s)
theorem FI {c:aj}{ps:List (Nat×Nat)}(h:Kp c ps){i j:Nat}(hi:i≤c.t.length)(hj:j≤c.c.length)(D:Nat→Nat→Int):mH [.int .i64 i,.int .i64 j] (aR ps D)=some (some (.int .i64 (D i j))):=by
 have:=xP i j D ps
 rw[if_pos ((h i j).2 ⟨hi,hj⟩)] at this
 exact this
theorem JI (c:aj):Kp c (places c):=fun i j=>xQ
section
variable [bE]
theorem Qk (x:ay):aI prog 136 [dO x] fun r=>r=.bool true:=by
 obtain⟨a0,a1,a2,a3,a4,fP⟩:=y5 x.s
 rw[y6 x fP]
 refine .bJ func136 rfl rfl ?_
 refine .sr ?_
 refine .sr ?_
 refine .ret (ax ?_)
 exact zk
theorem DP (c:aj)(hk:aN c=0):aI prog 77 [aA c] fun r=>∃ps,Kp c ps∧r=wQ c ps:=by
 have aP:=fC hk
 have hC:cu c=(cQ c):=rfl
 have nM:=JF c hk
 have rP:=Jy c (fun _=>true) 136 [] [] hk rfl rfl call136 Qk
 have FJ:=Qj c hk
 have hf:=FI (JI c) (Nat.le_refl _) (Nat.le_refl _) (aS c)
 rw[show fwd c (fun _=>true)=aS c from rfl] at rP
 unfold aA at nM rP FJ ⊢
 unfold jT at nM
 rw[hC] at nM rP FJ ⊢
 refine .bJ func77 rfl rfl ?_
 refine .sr ?_
 refine .seq (.ar [0,1,2] rfl ae (.rn [0] _ ?_))
 refine .pc rfl rfl rfl rfl rfl call135 (rP) ?_
 refine .rn [2] [] ?_
 refine .done (.seq ?_)
 refine .drawn (ms:=[0,0,0,4,0,0,44,124,255,511]) (W:=[3,6,9]) (items:=[.op 0,.op 1,.op 2,.op 4,.op 5,.op 3,.ck 5,.ck 0,.op 6,.ck 0,.op 7,.op 8,.op 9]) rfl ae ae ae ?_
 iterate 5 refine .rx ?_
 refine .wr rfl rfl (by decide) (.pure rfl rfl rfl call137 (by decide) (FJ) (by first|rfl|simp[*]) ?_)
 rintro _ ⟨ps,iG,rfl⟩
 refine .ck rfl eQ ?_
 refine .ck rfl eQ ?_
 refine .wp rfl rfl rfl rfl rfl call78 (nM) ?_
 refine .ck rfl eQ ?_
 iterate 2 refine .rx ?_
 refine .wv ?_
 refine .done (.ret (ax ?_))
 exact⟨ps,iG,rfl⟩
theorem V8 (c:aj)(ps:List (Nat×Nat))(x:ay)(hk:aN c=0)(iG:Kp c ps)(i j:Nat)(hx:x∈steps c i j)(hi:i≤c.t.length)(hj:j≤c.c.length):aI prog 80 [wQ c ps,dO x] fun r=>r=.bool (iH c x):=by
 have aP:=fC hk
 have hC:cu c=(cQ c):=rfl
 obtain⟨a0,a1,a2,a3,a4,fP⟩:=y5 x.s
 rw[y6 x fP]
 have iM:=iz aP hx
 have h0:=JH aP (fun _=>true) x.i x.j
 have h1:=V7 aP x.i' x.j'
 have hf:=FI (JI c) (show x.i≤c.t.length by rw[iM.fi];exact hi) (show x.j≤c.c.length by rw[iM.fj];exact hj) (aS c)
 have hb:=FI iG iM.it iM.jt (bwd c)
 have DN:=iM.n0
 have iA:=iM.n1
 unfold iH
 rw[show fwd c (fun _=>true)=aS c from rfl] at h0
 obtain⟨F,hF⟩:∃F,aS c x.i x.j=F:=⟨_,rfl⟩
 obtain⟨B,hB⟩:∃B,bwd c x.i' x.j'=B:=⟨_,rfl⟩
 rw[hF] at h0 hf ⊢
 rw[hB] at h1 hb ⊢
 have xB:IntKind.i64.wrap (F+x.n)=F+x.n:=wrap64 (by omega) (by omega)
 have lr:IntKind.i64.wrap (F+x.n+B)=F+x.n+B:=wrap64 (by omega) (by omega)
 unfold wQ M4
 rw[hC]
 clear hk iG hx iM fP h0 h1
 refine .bJ func80 rfl rfl ?_
 refine .sr ?_
 refine .seq ?_
 refine .drawn (ms:=[0,1,0,4,15,0,32,127,0,256,0,1024,3840,8191,0,16384,65535,131071]) (W:=[]) (items:=[.op 0,.op 1,.op 2,.op 3,.op 4,.op 5,.op 6,.op 7,.op 8,.op 9,.op 10,.op 11,.op 12,.op 13,.op 14,.op 15,.op 16,.op 17]) rfl ae ae ae ?_
 iterate 18 refine .rx ?_
 refine .done (.ret (ax ?_))
 exact zk
theorem Ql (p:ay→Bool)(f:FuncId)(xs ys:List PV)(hx:PV.az xs=true)(hy:PV.az ys=true)(eD:∀cs w,(callFunc f cs).run prog w=.ok (.enter f cs) w)(hp:∀x:ay,aI prog f (xs++[dO x]++ys) fun r=>r=.bool (p x))(x:ay):aI prog 140 [dO x,.vp [.func f xs ys]] fun r=>r=.bool (!p x):=by
 obtain⟨a0,a1,a2,a3,a4,fP⟩:=y5 x.s
 have ub:=hp x
 rw[y6 x fP] at ub ⊢
 have VO:∀vh,bG vh xs=some xs:=fun vh=>y1 vh hx
 have VP:∀vh,bG vh ys=some ys:=fun vh=>y1 vh hy
 clear hp
 refine .bJ func140 rfl rfl ?_
 refine .sr ?_
 refine .seq (.ar fR rfl ae (.rn [0,1] _ ?_))
 refine .step rfl rfl (.pure rfl rfl rfl eD (by decide) (ub) (by first|rfl|simp[*]) ?_)
 rintro _ rfl
 refine .rn [3,4] [] ?_
 refine .done (.ret (ax ?_))
 exact zk
theorem JJ (s:ak)(x:ay):aI prog 142 [dO x,.vp [.int .i64 s.k,.int .i64 s.a,.int .i64 s.i,.int .i64 s.l,.int .i64 s.w]] fun r=>r=.bool (kV s x):=by
 refine .bJ func142 rfl rfl ?_
 obtain⟨i,j,i',j',n,s0⟩:=x;rcases s0 with _|s0
 ·
  unfold dO Fx kV
  refine .sr ?_
  refine .seq (.ar gh rfl ae (.rn dQ _ ?_))
  refine .split (t:=7) rfl (fun c7=>?_) (fun c7=>?_)
  ·try subst c7
   try simp at c7
  try subst c7
  try simp at c7
  refine .rn [4,5,6,7,8,9] [] ?_
  refine .done (.ret (ax ?_))
  exact zk
 ·
  unfold dO Fx kV
  have he:decide ((some s0:Option ak)=some s)=(s0.k==s.k&&s0.a==s.a&&s0.i==s.i&&s0.l==s.l&&s0.w==s.w):=by
   obtain⟨a,b,c,d,e⟩:=s
   obtain⟨a',b',c',d',e'⟩:=s0
   simp only[aB,ak.mk.injEq]
   rw[Bool.eq_iff_iff]
   simp[and_assoc]
  simp only[he]
  refine .sr ?_
  refine .seq (.ar gh rfl ae (.rn dQ _ ?_))
  refine .split (t:=7) rfl (fun c7=>?_) (fun c7=>?_)
  ·try subst c7
   try simp at c7
   refine .rn [4,5,6,7,8,9] [] ?_
   refine .done (.ret (ax ?_))
   exact zk
  try subst c7
  try simp at c7
theorem Qm (c:aj)(ps:List (Nat×Nat))(p:ay→Bool)(f:FuncId)(xs ys:List PV)(hk:aN c=0)(hx:PV.az xs=true)(hy:PV.az ys=true)(eD:∀cs w,(callFunc f cs).run prog w=.ok (.enter f cs) w)(hp:∀x:ay,aI prog f (xs++[dO x]++ys) fun r=>r=.bool (p x)):aI prog 83 [wQ c ps,.func f xs ys] fun r=>r=.bz [.int .i64 (fwd c (fun x=>!p x) c.t.length c.c.length - aS c c.t.length c.c.length),.bool (decide (fwd c (fun x=>!p x) c.t.length c.c.length<1099511627776))]:=by
 have aP:=fC hk
 have hC:cu c=(cQ c):=rfl
 have nM:=JF c hk
 have rP:=Jy c (fun x=>!p x) 140 [] [.vp [.func f xs ys]] hk rfl (by simp[PV.az,PV.aD]) call140 (fun x=>Ql p f xs ys hx hy eD hp x)
 have hf:=FI (JI c) (Nat.le_refl _) (Nat.le_refl _) (fwd c fun x=>!p x)
 have h0:=JH aP (fun x=>!p x) c.t.length c.c.length
 have h1:=JH aP (fun _=>true) c.t.length c.c.length
 rw[show fwd c (fun _=>true)=aS c from rfl] at h1
 have VO:∀vh,bG vh xs=some xs:=fun vh=>y1 vh hx
 have VP:∀vh,bG vh ys=some ys:=fun vh=>y1 vh hy
 obtain⟨G,hG⟩:∃G,fwd c (fun x=>!p x)=G:=⟨_,rfl⟩
 rw[hG] at rP hf h0 ⊢
 obtain⟨d,hd⟩:∃d,G c.t.length c.c.length=d:=⟨_,rfl⟩
 rw[hd] at hf h0 ⊢
 obtain⟨e,he⟩:∃e,aS c c.t.length c.c.length=e:=⟨_,rfl⟩
 rw[he] at h1
 have hw:IntKind.i64.wrap (d - e)=d - e:=wrap64 (by omega) (by omega)
 unfold wQ M4
 rw[he]
 unfold aA at nM rP
 unfold jT at nM
 rw[hC] at nM rP ⊢
 clear hk hp hd hG he h0 h1
 refine .bJ func83 rfl rfl ?_
 refine .sr ?_
 refine .seq ?_
 refine .drawn (ms:=[0,1,0,7,0,16,63,127,255]) (W:=[3,6]) (items:=[.op 0,.op 1,.op 2,.op 4,.op 5,.op 3,.ck 5,.op 6,.op 7,.op 8]) rfl ae ae ae ?_
 iterate 5 refine .rx ?_
 refine .wr rfl rfl (by decide) (.M5 rfl rfl rfl call135 (by decide) (by first|(simp<;>rfl)|(simp[*]<;>rfl)|(simp[*];done)) (rP) ?_)
 rintro _ rfl
 refine .ck rfl eQ ?_
 refine .wp rfl rfl rfl rfl rfl call78 (nM) ?_
 iterate 2 refine .rx ?_
 refine .done (.sr ?_)
 refine .ret (ax ?_)
 exact zk
end
def dS (c:aj):List ay:=(graph c).filter (iH c)
theorem V9 {i M:Nat}(h:i<M):∃r,List.range M=List.range i++i::r:=by
 obtain⟨d,rfl⟩:∃d,M=i+1+d:=⟨M - i - 1,by omega⟩
 clear h
 induction d with
 |zero=>exact⟨[],by rw[Nat.add_zero,List.range_succ]⟩
 |succ d ih=>obtain⟨r,hr⟩:=ih;exact⟨r++[i+1+d],by rw[← Nat.add_assoc,List.range_succ,hr];simp⟩
theorem Qn (c:aj){i j:Nat}(hi:i≤c.t.length)(hj:j≤c.c.length):∃r,places c=mI (c.c.length+1) i j++(i,j)::r:=by
 obtain⟨r1,h1⟩:=V9 (show i<c.t.length+1 by omega)
 obtain⟨r2,h2⟩:=V9 (show j<c.c.length+1 by omega)
 have hp:places c=(List.range (c.t.length+1)).flatMap (pF (c.c.length+1)):=rfl
 refine⟨r2.map (fun j=>(i,j))++r1.flatMap (pF (c.c.length+1)),?_⟩
 rw[hp,h1,List.flatMap_append,List.flatMap_cons]
 have h3:pF (c.c.length+1) i=pF j i++(i,j)::r2.map fun j=>(i,j):=by unfold pF;rw[h2,List.map_append];rfl
 rw[h3]
 unfold mI
 simp
theorem zvc (c:aj){i j:Nat}(hi:i≤c.t.length)(hj:j≤c.c.length){pre mX:List ay}{x:ay}(hs:steps c i j=pre++x::mX)(hx:iH c x=true):∃r,dS c=uW c (iH c) i j++pre.filter (iH c)++x::r:=by
 obtain⟨r,hr⟩:=Qn c hi hj
 unfold dS graph uW
 rw[hr,List.flatMap_append,List.flatMap_cons,List.filter_append,List.filter_append,hs,List.filter_append,List.filter_cons,if_pos hx]
 exact⟨mX.filter (iH c)++(r.flatMap fun p=>steps c p.1 p.2).filter (iH c),by simp only[List.append_assoc,List.cons_append]⟩
def D9 (L:bt):Prop:=bq 900 L=none∧bq 901 L=none
variable [bE] in
theorem p81 (c:aj)(ps:List (Nat×Nat))(hk:aN c=0)(iG:Kp c ps)(f:FuncId)(xs ys:List PV)(eD:∀cs w,(callFunc f cs).run prog w=.ok (.enter f cs) w)(L0:bt)(J:List ay→Nat→bt→Prop)(h0:J [] 900 L0)
  (du:∀pre n n' L,J pre n L→n≤n'→J pre n' L)
  (uX:∀pre x mX n L,dS c=pre++x::mX→900≤n→J pre n L→M6 prog f (xs++[dO x]++ys) n L fun _ n' L'=>J (pre++[x]) n' L')
  (bS:∀pre n L,J pre n L→900≤n→D9 L→∃L',J pre 1000 L'∧D9 L'∧∀i j:Nat,Wk 900 [(2,.ptr 900 0),(3,.ptr 901 0),(4,.int .i64 i),(11,.int .i64 ((c.t.length:Int)+1)),(12,.int .i64 i),(19,.int .i64 ((c.c.length:Int)+1)),(20,.int .i64 j)] ⟨n,(901,.box [.func f xs ys])::(900,.box (bQ c (.aG (aR (places c) (aS c))) (.aG (aR ps (bwd c))) (.int .i64 (aS c c.t.length c.c.length))))::L⟩ [(2,.ptr 900 0),(3,.ptr 901 0),(4,.int .i64 i),(11,.int .i64 ((c.t.length:Int)+1)),(12,.int .i64 i),(19,.int .i64 ((c.c.length:Int)+1)),(20,.int .i64 j)] ⟨1000,(901,.box [.func f xs ys])::(900,.box (bQ c (.aG (aR (places c) (aS c))) (.aG (aR ps (bwd c))) (.int .i64 (aS c c.t.length c.c.length))))::L'⟩) :
  eN prog 81 [wQ c ps,.func f xs ys] ⟨900,L0⟩ fun v aq=>∃L',bV L' aq.br∧J (dS c) aq.next L':=by
 have aP:=fC hk
 have nY:=aP.tl
 have fx:=aP.cl
 have hC:cu c=(cQ c):=rfl
 have xB:IntKind.i64.wrap ((c.t.length:Int)+1)=(c.t.length:Int)+1:=wrap64 (by omega) (by omega)
 have lr:IntKind.i64.wrap ((c.c.length:Int)+1)=(c.c.length:Int)+1:=wrap64 (by omega) (by omega)
 have nJ:=fun i j:Nat=>Jq c i j
 have uY:=fun (x:ay) i j hx hi hj=>V8 c ps x hk iG i j hx hi hj
 unfold wQ M4 at uY ⊢
 unfold aA jT at nJ
 rw[hC] at nJ uY ⊢
 refine eN.HE fun nj=>?_
 have oX:D9 L0:=⟨nj _ (by omega),nj _ (by omega)⟩
 have Qf:∀x,cg 900 x L0=L0:=fun x=>xU oX.1
 have VZ:∀x,cg 901 x L0=L0:=fun x=>xU oX.2
 clear nj
 refine .bJ func81 rfl rfl ?_
 refine .sr ?_
 refine .sr ?_
 refine .block ?_
 refine .JE (fun z:Nat×bt=>([(2,.ptr 900 0),(3,.ptr 901 0),(11,.int .i64 ((c.t.length:Int)+1)),(12,.int .i64 z.1)],⟨1000,(901,.box [.func f xs ys])::(900,.box (bQ c (.aG (aR (places c) (aS c))) (.aG (aR ps (bwd c))) (.int .i64 (aS c c.t.length c.c.length))))::z.2⟩)) (fun z=>z.1≤c.t.length+1∧D9 z.2∧J (uW c (iH c) z.1 0) 1000 z.2) (fun z=>c.t.length+1 - z.1) (0,L0) ⟨by simp,oX,du _ _ _ _ h0 (by omega)⟩ (.sub gF bU (by first|exact Nat.le_refl _|omega|(simp;done)|(simp;omega))) ?_
 clear oX Qf VZ h0
 rintro⟨i,L1⟩ ⟨hi,oX,hJ⟩
 simp only at hi oX hJ ⊢
 have n3:=oX.1
 have mB:=oX.2
 refine .sr ?_
 refine .seq ?_
 refine .cs ?_ ?_<;>intro gz
 ·try simp at gz
  have cR:=iQ i
  have oU:i≤c.t.length:=by omega
  refine .skip (.seq (.block (.sr ?_)))
  refine .sr ?_
  refine .block ?_
  refine .JE (fun z:Nat×bt=>([(2,.ptr 900 0),(3,.ptr 901 0),(4,.int .i64 i),(11,.int .i64 ((c.t.length:Int)+1)),(12,.int .i64 i),(19,.int .i64 ((c.c.length:Int)+1)),(20,.int .i64 z.1)],⟨1000,(901,.box [.func f xs ys])::(900,.box (bQ c (.aG (aR (places c) (aS c))) (.aG (aR ps (bwd c))) (.int .i64 (aS c c.t.length c.c.length))))::z.2⟩)) (fun z=>z.1≤c.c.length+1∧D9 z.2∧J (uW c (iH c) i z.1) 1000 z.2) (fun z=>c.c.length+1 - z.1) (0,L1) ⟨by simp,oX,hJ⟩ (.sub gF bU (by first|exact Nat.le_refl _|omega|(simp;done)|(simp;omega))) ?_
  clear oX n3 mB hJ
  rintro⟨j,L1⟩ ⟨hj,oX,hJ⟩
  simp only at hj oX hJ ⊢
  have n3:=oX.1
  have mB:=oX.2
  refine .sr ?_
  refine .seq ?_
  refine .cs ?_ ?_<;>intro e8
  ·try simp at e8
   have sh:=iQ j
   have qg:j≤c.c.length:=by omega
   have nJ:=nJ i j
   refine .skip (.seq (.block (.sr ?_)))
   refine .seq (.ar kS rfl ae (.rn fR _ ?_))
   refine .pc rfl rfl rfl rfl rfl call79 (nJ) ?_
   refine .done (.block ?_)
   refine .wk (aF:=(28,.func 138 [] [.vp [.int .i64 i,.int .i64 j],.vp (cu c)])::[(2,.ptr 900 0),(3,.ptr 901 0),(4,.int .i64 i),(11,.int .i64 ((c.t.length:Int)+1)),(12,.int .i64 i),(19,.int .i64 ((c.c.length:Int)+1)),(20,.int .i64 j)]) (aZ:=⟨1000,(901,.box [.func f xs ys])::(900,.box (bQ c (.aG (aR (places c) (aS c))) (.aG (aR ps (bwd c))) (.int .i64 (aS c c.t.length c.c.length))))::L1⟩) (.sub gF bU (by first|exact Nat.le_refl _|omega|(simp;done)|(simp;omega))) ?_
   refine M1 c i j _ (fun pre n L=>∃Lw,L=(901,.box [.func f xs ys])::(900,.box (bQ c (.aG (aR (places c) (aS c))) (.aG (aR ps (bwd c))) (.int .i64 (aS c c.t.length c.c.length))))::Lw∧D9 Lw∧J (uW c (iH c) i j++pre.filter (iH c)) n Lw) (fun _ _ _=>False) hk oU qg ⟨L1,rfl,oX,by simpa using hJ⟩ rfl (by decide) rfl (fun pre n n' L ⟨Lw,h1,h2,h3⟩ h=>⟨Lw,h1,h2,du _ _ _ _ h3 h⟩) ?_ ?_ (fun _ _ h=>h.elim) (fun _ _ _ h=>h.elim)
   ·skip
    clear oX n3 mB hJ
    rintro pre x mX n _ gZ hn ⟨Lw,rfl,oX,hJ⟩
    have hx:x∈steps c i j:=by rw[gZ];simp
    have uY:=uY x i j hx oU qg
    have y9:=fun ht:iH c x=true=>zvc c oU qg gZ ht
    have FK:(pre++[x]).filter (iH c)=pre.filter (iH c)++if iH c x=true then [x] else []:=by rw[List.filter_append,List.filter_cons,List.filter_nil]
    obtain⟨m,rfl⟩:∃m,n=m+1000:=⟨n - 1000,by omega⟩
    refine VW.HE fun hf=>?_
    have Fb:bq (m+1000) Lw=none:=y4 (y4 (hf _ (Nat.le_refl _)))
    have n3:=oX.1
    have mB:=oX.2
    have qpn:∀x,cg (m+1000) x Lw=Lw:=fun x=>xU Fb
    obtain⟨a0,a1,a2,a3,a4,fP⟩:=y5 x.s
    have M7:∀r,dS c=uW c (iH c) i j++pre.filter (iH c)++x::r→_:=fun r hr=>uX _ x r (m+1001) Lw hr (by omega) (du _ _ _ _ hJ (by omega))
    rw[y6 x fP] at uY M7 ⊢
    obtain⟨tb,re⟩:∃b,iH c x=b:=⟨_,rfl⟩
    rw[re] at uY y9 FK
    clear hf gZ hx fP uX bS
    refine .rn ?_
    refine .block (.seq (.ar [0,1,2] rfl ae (.rn [0,1] _ ?_)))
    refine .pc rfl rfl rfl rfl rfl call80 (uY) ?_
    refine .done ?_
    refine .cs ?_ ?_<;>intro ft
    ·try simp at ft
     obtain⟨r,hr⟩:=y9 ft
     have M7:=(M7 r hr).Qo (S:=[(m+1000,.box [.int .i64 x.i,.int .i64 x.j,.int .i64 x.i',.int .i64 x.j',.int .i64 a0,.int .i64 a1,.int .i64 a2,.int .i64 a3,.int .i64 a4,.int .i64 x.n,.bool x.s.isNone]),(901,.box [.func f xs ys]),(900,.box (bQ c (.aG (aR (places c) (aS c))) (.aG (aR ps (bwd c))) (.int .i64 (aS c c.t.length c.c.length))))]) FG
     refine .ar [0,1,2] rfl ae (.rn [0,1] _ ?_)
     refine .step rfl rfl (.call rfl rfl rfl eD (by decide) (((M7)).mono ?_))
     rintro v _ ⟨n',L',oO,ju,hK,rfl⟩
     refine .done ?_
     refine⟨none,(901,.box [.func f xs ys])::(900,.box (bQ c (.aG (aR (places c) (aS c))) (.aG (aR ps (bwd c))) (.int .i64 (aS c c.t.length c.c.length))))::L',rfl,?_,?_,?_⟩
     ·have e0:bq (m+1000) L'=none:=ju _ (by omega) Fb
      exact bV.skip (by simp[*]) (bV.refl _)
     ·refine me.jg rfl (me.jg rfl ?_)
      intro q hq EZ
      exact ju q (by omega) (y4 (y4 EZ))
     show ∃Lw,_=_∧_
     exact⟨L',rfl,⟨ju _ (by omega) n3,ju _ (by omega) mB⟩,by rw[FK,if_pos ft,← List.append_assoc];exact hK⟩
    try simp at ft
    refine .skip ?_
    refine⟨none,(901,.box [.func f xs ys])::(900,.box (bQ c (.aG (aR (places c) (aS c))) (.aG (aR ps (bwd c))) (.int .i64 (aS c c.t.length c.c.length))))::Lw,rfl,?_,me.refl _ _,?_⟩
    ·exact bV.skip (by simp[*]) (bV.refl _)
    show ∃Lw,_=_∧_
    exact⟨Lw,rfl,oX,by rw[FK,if_neg (by rw[ft];simp),List.append_nil];exact du _ _ _ _ hJ (by simp)⟩
   skip
   clear oX n3 mB hJ
   rintro n _ hn ⟨Lw,rfl,oX,hJ⟩
   obtain⟨L2,Wa,sY,Jg⟩:=bS _ n Lw hJ (by omega) oX
   rw[← Wb] at Wa
   refine .wk (.trans (.sub (aF:=[(2,.ptr 900 0),(3,.ptr 901 0),(4,.int .i64 i),(11,.int .i64 ((c.t.length:Int)+1)),(12,.int .i64 i),(19,.int .i64 ((c.c.length:Int)+1)),(20,.int .i64 j)]) gF (bV.refl _) (Nat.le_refl _)) (Jg i j)) ?_
   refine .rn ?_
   refine⟨(j+1,L2),⟨by simp only;omega,sY,Wa⟩,by simp only;omega,(.sub gF bU (by first|exact Nat.le_refl _|omega|(simp;done)|(simp;omega)))⟩
  try simp at e8
  obtain rfl:j=c.c.length+1:=by omega
  refine .exit (.rn ?_)
  refine⟨(i+1,L1),⟨by simp only;omega,oX,by simp only[← Wc];exact hJ⟩,by simp only;omega,(.sub gF bU (by first|exact Nat.le_refl _|omega|(simp;done)|(simp;omega)))⟩
 try simp at gz
 obtain rfl:i=c.t.length+1:=by omega
 refine .exit ?_
 exact⟨_,rfl,L1,bV.skip mB (bV.skip n3 (bV.refl _)),by rw[Wd] at hJ;exact hJ⟩
theorem wR (c:aj)(ps:List (Nat×Nat)):wQ c ps=.agg (bQ c (.aG (aR (places c) (aS c))) (.aG (aR ps (bwd c))) (.int .i64 (aS c c.t.length c.c.length))):=rfl
def qk (c:aj)(s:ak):Option Int:=match aM c s with
 |some (n,i',w)=>if hasB c s.i.toNat w then some (aS c s.a.toNat s.i.toNat+n+bwd c i' (s.i.toNat+w.length) - aS c c.t.length c.c.length) else none
 |none=>none
def ny (c:aj)(s:ak):Int:=fwd c (fun x=>!kV s x) c.t.length c.c.length
theorem We {c:aj}{j:Nat}{l:List Int}(h:hasB c j l=true):j+l.length≤c.c.length:=by unfold hasB at h;rw[bW,decide_eq_true_eq] at h;exact h.1
theorem Qp {c:aj}{s:ak}{n:Int}{i':Nat}{w:List Int}(h:aM c s=some (n,i',w)):0≤s.a∧s.a≤(c.t.length:Int)∧0≤s.i:=by
 unfold aM at h
 split at h
 ·rename_i hh;exact hh
 cases h
theorem Wf {c:aj}(hr:Rt c):lT (aS c):=JH hr _
theorem xh6 (c:aj)(s:ak):aN c≠0∨(aN c=0∧aM c s=none∧qk c s=none)∨(aN c=0∧∃n i' w,aM c s=some (n,i',w)∧hasB c s.i.toNat w=false∧qk c s=none)∨
  (aN c=0∧∃n i' w,aM c s=some (n,i',w)∧hasB c s.i.toNat w=true∧qk c s=some (aS c s.a.toNat s.i.toNat+n+bwd c i' (s.i.toNat+w.length) - aS c c.t.length c.c.length)):=by
 by_cases hk:aN c=0
 ·refine .inr ?_
  unfold qk
  rcases hd:aM c s with _|⟨n,i',w⟩
  ·exact .inl ⟨hk,rfl,rfl⟩
  refine .inr ?_
  cases hb:hasB c s.i.toNat w
  ·exact .inl ⟨hk,n,i',w,rfl,hb,by simp[hb]⟩
  exact .inr ⟨hk,n,i',w,rfl,hb,by simp[hb]⟩
 exact .inl hk
section
variable [bE]
theorem M8 (c:aj)(hB:BC c):aI prog 43 [aA c] fun r=>r=.bz [.int .i64 (if aN c=0 then aS c c.t.length c.c.length else 0),.int .i64 (aN c)]:=by
 have dI:=wG c hB
 have jd:=DP c
 have hC:cu c=(cQ c):=rfl
 obtain⟨e,he⟩:∃e,aN c=e:=⟨_,rfl⟩
 rw[he] at dI jd ⊢
 unfold aA at dI jd ⊢
 rw[hC] at dI jd ⊢
 refine .bJ func43 rfl rfl ?_
 refine .sr ?_
 refine .seq (.seq (.ar [0,1,2] rfl ae (.rn [0] _ ?_)))
 refine .pc rfl rfl rfl rfl rfl call55 (dI) ?_
 refine .rn [2] [] ?_
 refine .done (.sr ?_)
 refine .cs ?_ ?_<;>intro c8
 ·try simp at c8
  refine .sr ?_
  refine .ret (ax ?_)
  exact zk
 try simp at c8
 subst c8
 refine .skip (.seq (.ar fR rfl ae (.rn [0] _ ?_)))
 refine .step rfl rfl (.pure rfl rfl rfl call77 (by decide) (jd rfl) (by first|rfl|simp[*]) ?_)
 rintro _ ⟨ps,iG,rfl⟩
 rw[wR]
 refine .rn [2,3,4] [] ?_
 refine .done (.ret (ax ?_))
 exact zk
theorem Wg (s:ak):aI prog 89 [encS s] fun r=>r=.func 142 [] [.vp [.int .i64 s.k,.int .i64 s.a,.int .i64 s.i,.int .i64 s.l,.int .i64 s.w]]:=by
 unfold encS
 refine .bJ func89 rfl rfl ?_
 refine .sr ?_
 refine .sr ?_
 refine .ret (ax ?_)
 exact zk
theorem Qq (c:aj)(s:ak)(hB:BC c):aI prog 30 [aA c,encS s] fun r=>r=.bz [.int .i64 (if aN c=0 then (qk c s).getD 0 else 0),.int .i64 (if aN c=0 then (if qk c s=none then 5 else 0) else aN c)]:=by
 have dI:=wG c hB
 have jd:=DP c
 have dq:=Hs c s
 have hC:cu c=(cQ c):=rfl
 have hE:encS s=.agg [.int .i64 s.k,.int .i64 s.a,.int .i64 s.i,.int .i64 s.l,.int .i64 s.w]:=rfl
 unfold aA at dI jd dq ⊢
 rw[hE] at dq ⊢
 rw[hC] at dI jd dq ⊢
 refine .bJ func30 rfl rfl ?_
 rcases xh6 c s with hk|⟨hk,hd,hm⟩|⟨hk,n,i',w,hd,hb,hm⟩|⟨hk,n,i',w,hd,hb,hm⟩
 ·
  rw[if_neg hk,if_neg hk]
  obtain⟨e,he⟩:∃e,aN c=e:=⟨_,rfl⟩
  rw[he] at dI hk ⊢
  refine .sr ?_
  refine .seq (.seq (.ar [0,1,2] rfl ae (.rn [0] _ ?_)))
  refine .pc rfl rfl rfl rfl rfl call55 (dI) ?_
  refine .rn [2] [] ?_
  refine .done (.sr ?_)
  refine .cs ?_ ?_<;>intro dj
  ·try simp at dj
   refine .sr ?_
   refine .ret (ax ?_)
   exact zk
  try simp at dj
  exact absurd dj hk
 ·
  rw[if_pos hk,if_pos hk,hm,if_pos rfl]
  rw[hk] at dI
  have dq:=dq hk
  rw[B5 hd] at dq
  unfold jT at dq
  refine .sr ?_
  refine .seq (.seq (.ar [0,1,2] rfl ae (.rn [0] _ ?_)))
  refine .pc rfl rfl rfl rfl rfl call55 (dI) ?_
  refine .rn [2] [] ?_
  refine .done (.sr ?_)
  refine .cs ?_ ?_<;>intro dj
  ·try simp at dj
  try simp at dj
  refine .skip (.seq (.ar kf rfl ae (.rn [0,1] _ ?_)))
  refine .pc rfl rfl rfl rfl rfl call95 (dq) ?_
  refine .rn [3,4,5,6,7,8,9,10,11,12] [] ?_
  refine .done (.seq (.seq (.ar gh rfl ae ?_)))
  refine .rn [0,1,2] _ ?_
  refine .split (t:=27) rfl (fun fg=>?_) (fun fg=>?_)
  ·try subst fg
   try simp at fg
   refine .rn [3,4,5,6,7,8,9] [] ?_
   refine .done (.dR rfl (.sr ?_))
   refine .ret (ax ?_)
   exact zk
  try subst fg
  try simp at fg
 ·
  rw[if_pos hk,if_pos hk,hm,if_pos rfl]
  rw[hk] at dI
  have dq:=dq hk
  rw[AU hd] at dq
  unfold jT at dq
  have aP:=fC hk
  have pg:=Qp hd
  have qV:=(nI aP hd).2.2.2.2.2
  have n4:=wL c w s.i.toNat aP.cl (by omega)
  rw[hb,Int.toNat_of_nonneg pg.2.2] at n4
  unfold aA at n4
  rw[hC] at n4
  refine .sr ?_
  refine .seq (.seq (.ar [0,1,2] rfl ae (.rn [0] _ ?_)))
  refine .pc rfl rfl rfl rfl rfl call55 (dI) ?_
  refine .rn [2] [] ?_
  refine .done (.sr ?_)
  refine .cs ?_ ?_<;>intro dj
  ·try simp at dj
  try simp at dj
  refine .skip (.seq (.ar kf rfl ae (.rn [0,1] _ ?_)))
  refine .pc rfl rfl rfl rfl rfl call95 (dq) ?_
  refine .rn [3,4,5,6,7,8,9,10,11,12] [] ?_
  refine .done (.seq (.seq (.ar gh rfl ae ?_)))
  refine .rn [0,1,2] _ ?_
  refine .split (t:=27) rfl (fun fg=>?_) (fun fg=>?_)
  ·try subst fg
   try simp at fg
  try subst fg
  try simp at fg
  refine .rn [3,4,5,6] _ ?_
  refine .pc rfl rfl rfl rfl rfl call96 (n4) ?_
  refine .rn [8,9] [] ?_
  refine .done ?_
  refine .cs ?_ ?_<;>intro oa
  ·try simp at oa
   refine .sr ?_
   refine .ret (ax ?_)
   exact zk
  try simp at oa
 ·
  rw[if_pos hk,if_pos hk,hm,if_neg (by simp)]
  rw[hk] at dI
  have dq:=dq hk
  rw[AU hd] at dq
  unfold jT at dq
  have aP:=fC hk
  have pg:=Qp hd
  have gZ:=nI aP hd
  have qV:=gZ.2.2.2.2.2
  have Qr:=gZ.2.2.2.1
  have hn:=gZ.1
  have n4:=wL c w s.i.toNat aP.cl (by omega)
  rw[hb,Int.toNat_of_nonneg pg.2.2] at n4
  unfold aA at n4
  rw[hC] at n4
  have hle:=We hb
  have fx:=aP.cl
  obtain⟨i,hi⟩:∃i,s.a.toNat=i:=⟨_,rfl⟩
  obtain⟨j,hj⟩:∃j,s.i.toNat=j:=⟨_,rfl⟩
  obtain⟨j1,fh⟩:∃j1,j+w.length=j1:=⟨_,rfl⟩
  have sj:s.a=(i:Int):=by omega
  have M9:s.i=(j:Int):=by omega
  have y0:IntKind.i64.wrap (s.i+w.length)=(j1:Int):=by rw[M9,wrap64 (by omega) (by omega)];omega
  rw[y0] at dq
  rw[hi,hj,fh]
  rw[hj,fh] at hle
  have jd:=jd hk
  have mV:=Wf aP c.t.length c.c.length
  have nj:=Wf aP i j
  have oY:=V7 aP i' j1
  have hf:=FI (JI c) (show i≤c.t.length by omega) (show j≤c.c.length by omega) (aS c)
  have Qt:=fun (ps:List (Nat×Nat)) (iG:Kp c ps)=>FI iG Qr hle (bwd c)
  obtain⟨F,hF⟩:∃F,aS c i j=F:=⟨_,rfl⟩
  obtain⟨B,Qu⟩:∃B,bwd c i' j1=B:=⟨_,rfl⟩
  obtain⟨Z,hZ⟩:∃Z,aS c c.t.length c.c.length=Z:=⟨_,rfl⟩
  rw[hF] at hf nj ⊢
  rw[Qu] at oY ⊢
  simp only[Qu] at Qt
  rw[hZ] at mV ⊢
  have xB:IntKind.i64.wrap (F+n)=F+n:=wrap64 (by omega) (by omega)
  have lr:IntKind.i64.wrap (F+n+B)=F+n+B:=wrap64 (by omega) (by omega)
  have cR:IntKind.i64.wrap (F+n+B - Z)=F+n+B - Z:=wrap64 (by omega) (by omega)
  rw[sj,M9] at dq ⊢
  rw[M9] at n4
  clear hd hm qV hi hj fh y0 sj M9 hF Qu gZ pg hb hE
  refine .sr ?_
  refine .seq (.seq (.ar [0,1,2] rfl ae (.rn [0] _ ?_)))
  refine .pc rfl rfl rfl rfl rfl call55 (dI) ?_
  refine .rn [2] [] ?_
  refine .done (.sr ?_)
  refine .cs ?_ ?_<;>intro dj
  ·try simp at dj
  try simp at dj
  refine .skip (.seq (.ar kf rfl ae (.rn [0,1] _ ?_)))
  refine .pc rfl rfl rfl rfl rfl call95 (dq) ?_
  refine .rn [3,4,5,6,7,8,9,10,11,12] [] ?_
  refine .done (.seq (.seq (.ar gh rfl ae ?_)))
  refine .rn [0,1,2] _ ?_
  refine .split (t:=27) rfl (fun fg=>?_) (fun fg=>?_)
  ·try subst fg
   try simp at fg
  try subst fg
  try simp at fg
  refine .rn [3,4,5,6] _ ?_
  refine .pc rfl rfl rfl rfl rfl call96 (n4) ?_
  refine .rn [8,9] [] ?_
  refine .done ?_
  refine .cs ?_ ?_<;>intro oa
  ·try simp at oa
  try simp at oa
  refine .skip (.seq (.ar dQ rfl ae (.rn [0] _ ?_)))
  refine .step rfl rfl (.pure rfl rfl rfl call77 (by decide) (jd) (by first|rfl|simp[*]) ?_)
  rintro _ ⟨ps,iG,rfl⟩
  have Qt:=Qt ps iG
  rw[wR,hZ]
  refine .rn [2,3] [] ?_
  refine .done (.seq ?_)
  refine .drawn (ms:=[0,1,0,4,0,16,60,127,0,511,0,1024,0,7168,16383,0,32768,131071,262143,524287]) (W:=[]) (items:=Hu) rfl ae ae ae ?_
  iterate 20 refine .rx ?_
  refine .done (.ret (ax ?_))
  exact zk
theorem Qv (c:aj)(s:ak)(hB:BC c):aI prog 32 [aA c,encS s] fun r=>r=.bz [.int .i64 (if aN c=0 then (if ny c s<1099511627776 then ny c s - aS c c.t.length c.c.length else 0) else 0),.int .i64 (if aN c=0 then (if ny c s<1099511627776 then 0 else 5) else aN c)]:=by
 have dI:=wG c hB
 have jd:=DP c
 have JK:=Wg s
 have su:=fun ps hk=>Qm c ps (kV s) 142 [] [.vp [.int .i64 s.k,.int .i64 s.a,.int .i64 s.i,.int .i64 s.l,.int .i64 s.w]] hk rfl (by simp[PV.az,PV.aD]) call142 (fun x=>JJ s x)
 have hC:cu c=(cQ c):=rfl
 have hE:encS s=.agg [.int .i64 s.k,.int .i64 s.a,.int .i64 s.i,.int .i64 s.l,.int .i64 s.w]:=rfl
 simp only[show fwd c (fun x=>!kV s x) c.t.length c.c.length=ny c s from rfl,wR] at su
 obtain⟨wo,HH⟩:∃w,ny c s=w:=⟨_,rfl⟩
 simp only[HH] at su ⊢
 obtain⟨e,he⟩:∃e,aN c=e:=⟨_,rfl⟩
 obtain⟨lt,a8⟩:∃b,decide (wo<1099511627776)=b:=⟨_,rfl⟩
 rw[he] at dI jd su ⊢
 simp only[a8] at su
 unfold aA at dI jd ⊢
 rw[hE] at JK ⊢
 rw[hC] at dI jd ⊢
 clear hE
 refine .bJ func32 rfl rfl ?_
 refine .sr ?_
 refine .seq (.seq (.ar [0,1,2] rfl ae (.rn [0] _ ?_)))
 refine .pc rfl rfl rfl rfl rfl call55 (dI) ?_
 refine .rn [2] [] ?_
 refine .done (.sr ?_)
 refine .cs ?_ ?_<;>intro xV
 ·try simp at xV
  refine .sr ?_
  refine .ret (ax ?_)
  simp[xV]
 try simp at xV
 subst xV
 refine .skip (.seq ?_)
 refine .drawn (ms:=[0,1,0,7,15,31,63,63,127,511]) (W:=[1,3,4]) (items:=[.op 0,.op 2,.op 1,.ck 2,.op 3,.op 4,.op 5,.op 6,.op 7,.op 8,.op 9]) rfl ae ae ae ?_
 iterate 2 refine .rx ?_
 refine .wr rfl rfl (by decide) (.pure rfl rfl rfl call77 (by decide) (jd rfl) (by first|rfl|simp[*]) ?_)
 rintro _ ⟨ps,iG,rfl⟩
 have su:=su ps rfl
 rw[wR]
 refine .ck rfl eQ ?_
 refine .wp rfl rfl rfl rfl rfl call89 (JK) ?_
 refine .wp rfl rfl rfl rfl rfl call83 (su) ?_
 iterate 5 refine .rx ?_
 refine .done (.seq (.sr ?_))
 refine .cs ?_ ?_<;>intro hP
 ·try simp at hP
  refine .sr ?_
  refine .ret (ax ?_)
  simp[hP] at a8;simp[show ¬wo<1099511627776 by omega]
 try simp at hP
 refine .skip (.sr ?_)
 refine .ret (ax ?_)
 simp[hP] at a8;simp[a8]
theorem p84 (i:Nat)(x:ay):aI prog 84 [dO x,.vp [.int .i64 i]] fun r=>r=.bool (decide (x.s=none∧x.i=i)):=by
 obtain⟨a0,a1,a2,a3,a4,fP⟩:=y5 x.s
 rw[y6 x fP]
 obtain⟨b,hb⟩:∃b,x.s.isNone=b:=⟨_,rfl⟩
 have cr:x.s=none↔b=true:=by rw[← hb];cases x.s<;>simp
 rw[hb]
 simp only[cr]
 clear hb cr fP
 refine .bJ func84 rfl rfl ?_
 refine .sr ?_
 refine .seq (.ar gh rfl ae (.rn [0,1,2] _ ?_))
 refine .split (t:=6) rfl (fun c6=>?_) (fun c6=>?_)
 ·try subst c6
  try simp at c6
  refine .rn [3,4,5,6,7,8,9] [] ?_
  refine .done (.ret (ax ?_))
  show PV.bool _=PV.bool _
  congr 1
  rw[Bool.eq_iff_iff]
  simp
  omega
 try subst c6
 try simp at c6
 refine .rn [3,4,5,6,7,8,9] [] ?_
 refine .done (.ret (ax ?_))
 rfl
theorem p88 (c:aj)(ps:List (Nat×Nat))(hk:aN c=0)(i j i' j':Nat)(n:Int)(s:ak):aI prog 88 [wQ c ps,dO ⟨i,j,i',j',n,some s⟩] fun r=>r=.bool (Bool.or (!decide (ny c s<1099511627776)) (decide (0<ny c s - aS c c.t.length c.c.length))):=by
 have JK:=Wg s
 have su:=Qm c ps (kV s) 142 [] [.vp [.int .i64 s.k,.int .i64 s.a,.int .i64 s.i,.int .i64 s.l,.int .i64 s.w]] hk rfl (by simp[PV.az,PV.aD]) call142 (fun x=>JJ s x)
 have hE:encS s=.agg [.int .i64 s.k,.int .i64 s.a,.int .i64 s.i,.int .i64 s.l,.int .i64 s.w]:=rfl
 rw[show fwd c (fun x=>!kV s x) c.t.length c.c.length=ny c s from rfl] at su
 obtain⟨wo,HH⟩:∃w,ny c s=w:=⟨_,rfl⟩
 obtain⟨z,hz⟩:∃w,aS c c.t.length c.c.length=w:=⟨_,rfl⟩
 obtain⟨lt,a8⟩:∃b,decide (wo<1099511627776)=b:=⟨_,rfl⟩
 rw[wR] at su ⊢
 rw[HH,hz,a8] at su ⊢
 rw[hE] at JK
 unfold dO Fx
 clear hE a8 HH
 refine .bJ func88 rfl rfl ?_
 refine .sr ?_
 refine .seq ?_
 refine .drawn (ms:=[0,0,2,6,15,31,63,63,127,511]) (W:=[3,4]) (items:=[.op 0,.op 1,.op 2,.op 3,.ck 0,.op 4,.op 5,.op 6,.op 7,.op 8,.op 9]) rfl ae ae ae ?_
 iterate 3 refine .rx ?_
 refine .wp rfl rfl rfl rfl rfl call89 (JK) ?_
 refine .ck rfl eQ ?_
 refine .wp rfl rfl rfl rfl rfl call83 (su) ?_
 iterate 5 refine .rx ?_
 refine .done (.seq (.ar gT rfl ae ?_))
 refine .rn [0,1,2] _ ?_
 refine .split (t:=17) rfl (fun iB=>?_) (fun iB=>?_)
 ·try subst iB
  try simp at iB
  refine .rn [3,4,5,6] [] ?_
  refine .done (.ret (ax ?_))
  exact zk
 try subst iB
 try simp at iB
 refine .rn [3,4,5,6] [] ?_
 refine .done (.ret (ax ?_))
 exact zk
theorem p94 (c:aj)(ps:List (Nat×Nat))(x:ay):aI prog 94 [wQ c ps,dO x] fun r=>r=.bool true:=by
 obtain⟨a0,a1,a2,a3,a4,fP⟩:=y5 x.s
 rw[y6 x fP,wR]
 refine .bJ func94 rfl rfl ?_
 refine .sr ?_
 refine .sr ?_
 refine .ret (ax ?_)
 exact zk
theorem Cf (c:aj)(ps:List (Nat×Nat))(hk:aN c=0)(iG:Kp c ps)(f:FuncId)(xs ys:List PV)(eD:∀cs w,(callFunc f cs).run prog w=.ok (.enter f cs) w)(L0:bt)(J:List ay→Nat→bt→Prop)(h0:J [] 900 L0)
  (du:∀pre n n' L,J pre n L→n≤n'→J pre n' L)
  (uX:∀pre x mX n L,dS c=pre++x::mX→900≤n→J pre n L→M6 prog f (xs++[dO x]++ys) n L fun _ n' L'=>J (pre++[x]) n' L')
  (bS:∀pre n L,J pre n L→900≤n→D9 L→∃L',J pre 1000 L'∧D9 L'∧∀i j:Nat,Wk 900 [(2,.ptr 900 0),(3,.ptr 901 0),(4,.int .i64 i),(11,.int .i64 ((c.t.length:Int)+1)),(12,.int .i64 i),(19,.int .i64 ((c.c.length:Int)+1)),(20,.int .i64 j)] ⟨n,(901,.box [.func f xs ys])::(900,.box (bQ c (.aG (aR (places c) (aS c))) (.aG (aR ps (bwd c))) (.int .i64 (aS c c.t.length c.c.length))))::L⟩ [(2,.ptr 900 0),(3,.ptr 901 0),(4,.int .i64 i),(11,.int .i64 ((c.t.length:Int)+1)),(12,.int .i64 i),(19,.int .i64 ((c.c.length:Int)+1)),(20,.int .i64 j)] ⟨1000,(901,.box [.func f xs ys])::(900,.box (bQ c (.aG (aR (places c) (aS c))) (.aG (aR ps (bwd c))) (.int .i64 (aS c c.t.length c.c.length))))::L'⟩) :
  eN prog 81 [wQ c ps,.func f xs ys] ⟨900,L0⟩ fun v aq=>∃n L',J (dS c) n L'∧aq=⟨n,L'⟩:=
 (p81 c ps hk iG f xs ys eD L0 J h0 du uX bS).post fun v cI ⟨L',h1,h2⟩=>⟨⟨cI.next,L'⟩,h1,Nat.le_refl _,_,L',h2,rfl⟩
end
theorem JL {c:aj}(hr:Rt c){x:ay}(h:x∈graph c):HI c x.i x.j x∧x.i≤c.t.length∧x.j≤c.c.length:=by
 obtain⟨i,j,hi,hj,hx⟩:=HJ.1 h
 have h1:=iz hr hx
 refine⟨?_,by rw[h1.fi];exact hi,by rw[h1.fj];exact hj⟩
 have e1:=h1.fi
 have e2:=h1.fj
 rw[← e1,← e2] at h1
 exact h1
theorem Qw {c:aj}(hr:Rt c){x:ay}(h:x∈dS c):HI c x.i x.j x∧x.i≤c.t.length∧x.j≤c.c.length:=JL hr (List.mem_filter.1 h).1
def mf (D:Nat→Nat→Int)(x:ay):Nat→Nat→Int:=bh D x.i' x.j' (min 1073741824 (D x.i' x.j'+D x.i x.j))
def iU:Nat→Nat→Int:=bh (fun _ _=>0) 0 0 1
def tj (c:aj):Int:=(dS c).foldl mf iU c.t.length c.c.length
def Z0 (ks:List (Nat×Nat))(D:Nat→Nat→Int):Prop:=(∀i j,(i,j)∉ks→D i j=0)∧∀i j,0≤D i j∧D i j≤1073741824
theorem Na {ks:List (Nat×Nat)}{D:Nat→Nat→Int}(h:Z0 ks D)(i j:Nat):(∃d,D i j=d∧0≤d∧d≤1073741824∧mH [.int .i64 i,.int .i64 j] (aR ks D)=some (some (.int .i64 d)))∨(D i j=0∧mH [.int .i64 i,.int .i64 j] (aR ks D)=some none):=by
 have hf:=xP i j D ks
 by_cases hm:(i,j)∈ks
 ·rw[if_pos hm] at hf;exact .inl ⟨D i j,rfl,(h.2 i j).1,(h.2 i j).2,hf⟩
 rw[if_neg hm] at hf;exact .inr ⟨h.1 i j hm,hf⟩
theorem JN {ks:List (Nat×Nat)}{D:Nat→Nat→Int}(h:Z0 ks D)(i j:Nat){v:Int}(h0:0≤v)(h1:v≤1073741824):∃tk,Z0 tk (bh D i j v)∧rO [.int .i64 i,.int .i64 j] [.int .i64 i,.int .i64 j] (.int .i64 v) (aR ks D)=some (aR tk (bh D i j v)):=by
 have hb:∀a b,0≤bh D i j v a b∧bh D i j v a b≤1073741824:=fun a b=>by
  unfold bh;split
  ·exact⟨h0,h1⟩
  exact h.2 a b
 by_cases hm:(i,j)∈ks
 ·refine⟨ks,⟨fun a b lN=>?_,hb⟩,Hw hm v⟩
  unfold bh;split
  ·rename_i hh;exact absurd (by rw[hh.1,hh.2];exact hm) lN
  exact h.1 a b lN
 refine⟨ks++[(i,j)],⟨fun a b lN=>?_,hb⟩,Hy hm v⟩
 rw[List.mem_append,List.mem_singleton,bO,not_or] at lN
 unfold bh;rw[if_neg lN.2];exact h.1 a b lN.1
section
variable [bE]
theorem Qx (c:aj)(n:Nat)(ks:List (Nat×Nat))(D:Nat→Nat→Int)(x:ay)(hn:900≤n)(hz:Z0 ks D):eN prog 106 [dO x,.ptr 2 0] ⟨n,[(2,.box [.a6 1]),(1,.map (aR (ks) (D))),(0,.box (cQ c))]⟩ fun v aq=>∃tk,Z0 tk (mf D x)∧bV [(2,.box [.a6 1]),(1,.map (aR (tk) (mf D x))),(0,.box (cQ c))] aq.br∧n≤aq.next:=by
 obtain⟨a0,a1,a2,a3,a4,fP⟩:=y5 x.s
 rw[y6 x fP]
 obtain⟨m,rfl⟩:∃m,n=m+900:=⟨n - 900,by omega⟩
 have iY:mf D x=bh D x.i' x.j' (min 1073741824 (D x.i' x.j'+D x.i x.j)):=rfl
 clear fP
 refine .bJ func106 rfl rfl ?_
 rcases Na hz x.i' x.j' with⟨d0,e0,wS,h01,nj⟩|⟨e0,nj⟩<;>rcases Na hz x.i x.j with⟨d1,e1,A1,h11,uQ⟩|⟨e1,uQ⟩
 ·
  rw[e0,e1] at iY
  have hm:(if d0+d1<1073741824 then d0+d1 else 1073741824)=min 1073741824 (d0+d1):=by split<;>omega
  have hw:IntKind.i64.wrap (d0+d1)=d0+d1:=wrap64 (by omega) (by omega)
  obtain⟨tk,lY,rN⟩:=JN hz x.i' x.j' (v:=min 1073741824 (d0+d1)) (by omega) (by omega)
  rw[← iY] at lY
  refine .sr ?_
  refine .drawn (ms:=[0,0,2,0,0,16,56,0,0,256,896,2040,4088,8191]) (W:=[13]) (items:=xO) rfl ae ae ae ?_
  iterate 13 refine .rx ?_
  refine .wv ?_
  refine .done ?_
  refine⟨_,jF,tk,lY,?_,by simp⟩
  rw[iY]
  exact bU
 ·
  rw[e0,e1,Int.add_zero] at iY
  have hm:(if d0<1073741824 then d0 else 1073741824)=min 1073741824 d0:=by split<;>omega
  have hw:IntKind.i64.wrap d0=d0:=wrap64 (by omega) (by omega)
  obtain⟨tk,lY,rN⟩:=JN hz x.i' x.j' (v:=min 1073741824 d0) (by omega) (by omega)
  rw[← iY] at lY
  refine .sr ?_
  refine .drawn (ms:=[0,0,2,0,0,16,56,0,0,256,896,2040,4088,8191]) (W:=[13]) (items:=xO) rfl ae ae ae ?_
  iterate 13 refine .rx ?_
  refine .wv ?_
  refine .done ?_
  refine⟨_,jF,tk,lY,?_,by simp⟩
  rw[iY]
  exact bU
 ·
  rw[e0,e1,Int.zero_add] at iY
  have hm:(if d1<1073741824 then d1 else 1073741824)=min 1073741824 d1:=by split<;>omega
  have hw:IntKind.i64.wrap d1=d1:=wrap64 (by omega) (by omega)
  obtain⟨tk,lY,rN⟩:=JN hz x.i' x.j' (v:=min 1073741824 d1) (by omega) (by omega)
  rw[← iY] at lY
  refine .sr ?_
  refine .drawn (ms:=[0,0,2,0,0,16,56,0,0,256,896,2040,4088,8191]) (W:=[13]) (items:=xO) rfl ae ae ae ?_
  iterate 13 refine .rx ?_
  refine .wv ?_
  refine .done ?_
  refine⟨_,jF,tk,lY,?_,by simp⟩
  rw[iY]
  exact bU
 ·
  rw[e0,e1] at iY
  have hm:min (1073741824:Int) (0+0)=0:=by decide
  have hw:IntKind.i64.wrap 0=0:=by decide
  rw[hm] at iY
  obtain⟨tk,lY,rN⟩:=JN hz x.i' x.j' (v:=0) (by omega) (by omega)
  rw[← iY] at lY
  refine .sr ?_
  refine .drawn (ms:=[0,0,2,0,0,16,56,0,0,256,896,2040,4088,8191]) (W:=[13]) (items:=xO) rfl ae ae ae ?_
  iterate 13 refine .rx ?_
  refine .wv ?_
  refine .done ?_
  refine⟨_,jF,tk,lY,?_,by simp⟩
  rw[iY]
  exact bU
theorem Qy (c:aj)(hB:BC c):aI prog 48 [aA c] fun r=>r=.bz [.int .i64 (if aN c=0 then tj c else 0),.int .i64 (aN c)]:=by
 have dI:=wG c hB
 have jd:=DP c
 have nM:=JF c
 have hC:cu c=(cQ c):=rfl
 obtain⟨e,he⟩:∃e,aN c=e:=⟨_,rfl⟩
 have bR:=he
 rw[he] at dI jd nM ⊢
 unfold aA at dI jd nM ⊢
 unfold jT at nM
 rw[hC] at dI jd nM ⊢
 have mW:rO [.int .i64 0,.int .i64 0] [.int .i64 0,.int .i64 0] (.int .i64 1) []=some (aR [(0,0)] iU):=Hy (a:=0) (b:=0) (D:=fun _ _=>0) (ps:=[]) (by simp) 1
 have Nb:Z0 [(0,0)] iU:=⟨fun i j h=>by
  unfold iU bh
  rw[if_neg (fun hh=>h (by rw[hh.1,hh.2];simp))],fun i j=>by unfold iU bh;split<;>simp⟩
 refine .bJ func48 rfl rfl ?_
 refine .sr ?_
 refine .seq (.seq (.ar [0,1,2] rfl ae (.rn [0] _ ?_)))
 refine .pc rfl rfl rfl rfl rfl call55 (dI) ?_
 refine .rn [2] [] ?_
 refine .done (.sr ?_)
 refine .cs ?_ ?_<;>intro c9
 ·try simp at c9
  refine .sr ?_
  refine .ret (ax ?_)
  exact zk
 try simp at c9
 subst c9
 have nM:=nM rfl
 refine .skip (.sr ?_)
 refine .seq (.ar dQ rfl ae (.rn [0] _ ?_))
 refine .step rfl rfl (.pure rfl rfl rfl call77 (by decide) (jd rfl) (by first|rfl|simp[*]) ?_)
 rintro _ ⟨ps,iG,rfl⟩
 have uZ:=Cf c ps bR iG 106 [] [.ptr 2 0] call106 [(2,.box [.a6 1]),(1,.map (aR ([(0,0)]) (iU))),(0,.box (cQ c))] (fun pre n L=>∃ks,Z0 ks (pre.foldl mf iU)∧L=[(2,.box [.a6 1]),(1,.map (aR (ks) (pre.foldl mf iU))),(0,.box (cQ c))]) ⟨[(0,0)],Nb,rfl⟩ (fun _ _ _ _ h _=>h) (fun pre x mX n L gZ hn ⟨ks,hz,hL⟩=>by
 subst hL
 exact(Qx c n ks _ x hn hz).mono fun v aq ⟨tk,h1,h2,h3⟩=>⟨_,h2,h3,mY,tk,by rw[List.foldl_append];exact h1,by rw[List.foldl_append];rfl⟩) (fun pre n L ⟨ks,hz,hL⟩ hn hd=>by
 subst hL
 exact⟨_,⟨ks,hz,rfl⟩,⟨rfl,rfl⟩,fun i j=>Rec.wk aX⟩)
 rw[wR] at uZ ⊢
 refine .rn [2] _ ?_
 refine .step rfl rfl (.wT (aF:=[(1,.ptr 0 0),(5,.ptr 2 0),(15,.agg (bQ c (.aG (aR (places c) (aS c))) (.aG (aR ps (bwd c))) (.int .i64 (aS c c.t.length c.c.length)))),(16,.func 106 [] [.ptr 2 0])]) (aZ:=⟨900,[(2,.box [.a6 1]),(1,.map (aR ([(0,0)]) (iU))),(0,.box (cQ c))]⟩) aX (.call rfl rfl rfl call81 (by decide) (((uZ)).mono ?_)))
 rintro _ _ ⟨n,L,⟨ks,hz,rfl⟩,rfl⟩
 obtain⟨D,hD⟩:∃D,(dS c).foldl mf iU=D:=⟨_,rfl⟩
 have jn:tj c=D c.t.length c.c.length:=by unfold tj;rw[hD]
 rw[hD] at hz ⊢
 rw[jn]
 have JO:=Na hz c.t.length c.c.length
 clear uZ
 refine .done (.seq ?_)
 refine .drawn (ms:=[0,0,2,7,15,31]) (W:=[2]) (items:=Wh) rfl ae ae ae ?_
 iterate 2 refine .rx ?_
 refine .wp rfl rfl rfl rfl rfl call78 (nM) ?_
 rcases JO with⟨d,e,h0,h1,hf⟩|⟨e,hf⟩
 ·skip
  refine .ck rfl eQ ?_
  iterate 3 refine .rx ?_
  refine .done (.ret (ax ?_))
  rw[e];rfl
 skip
 refine .ck rfl eQ ?_
 iterate 3 refine .rx ?_
 refine .done (.ret (ax ?_))
 rw[e];rfl
end
def kX (i0:Int)(q:Int×Int)(x:ay):Int×Int:=if (x.i:Int)<i0∧i0≤(x.i':Int) then (min q.1 x.j',max q.2 x.j') else q
def jv (c:aj)(i0:Int):Int×Int:=(dS c).foldl (kX i0) ((c.c.length:Int),0)
def ij (c:aj)(i0:Int):(Int×Int)×Int:=if aN c≠0 then ((0,0),aN c) else if ¬(0≤i0∧i0≤(c.t.length:Int)) then ((0,0),1) else if i0=0 then ((0,0),0) else (jv c i0,0)
section
variable [bE]
theorem p86 (c:aj)(n:Nat)(i0:Int)(q:Int×Int)(x:ay)(hn:900≤n):eN prog 86 [dO x,.ptr 1 0,.ptr 3 0] ⟨n,[(3,.box [.int .i64 (q.1),.int .i64 (q.2)]),(2,.box [.int .i64 0,.int .i64 0]),(1,.box [.int .i64 i0]),(0,.box (cQ c))]⟩ fun v aq=>bV [(3,.box [.int .i64 ((kX i0 q x).1),.int .i64 ((kX i0 q x).2)]),(2,.box [.int .i64 0,.int .i64 0]),(1,.box [.int .i64 i0]),(0,.box (cQ c))] aq.br∧n≤aq.next:=by
 obtain⟨a0,a1,a2,a3,a4,fP⟩:=y5 x.s
 rw[y6 x fP]
 obtain⟨m,rfl⟩:∃m,n=m+900:=⟨n - 900,by omega⟩
 obtain⟨lo,hi⟩:=q
 have FK:kX i0 (lo,hi) x=if (x.i:Int)<i0∧i0≤(x.i':Int) then (min lo x.j',max hi x.j') else (lo,hi):=rfl
 obtain⟨e0,bR⟩:∃b,decide ((x.i:Int)<i0)=b:=⟨_,rfl⟩
 obtain⟨e1,jV⟩:∃b,decide (i0≤(x.i':Int))=b:=⟨_,rfl⟩
 have nR:(if (x.j':Int)<lo then (x.j':Int) else lo)=min lo x.j':=by split<;>omega
 have b7:(if hi<(x.j':Int) then (x.j':Int) else hi)=max hi x.j':=by split<;>omega
 clear fP
 refine .bJ func86 rfl rfl ?_
 refine .sr ?_
 refine .seq (.ar qz rfl ae (.rn kS _ ?_))
 refine .split (t:=9) rfl (fun c9=>?_) (fun c9=>?_)
 ·try subst c9
  try simp at c9
  refine .rn [6,7,8,9,10,11] [] ?_
  refine .done ?_
  refine .cs ?_ ?_<;>intro dj
  ·try simp at dj
   refine .rn ?_
   subst dj
   refine⟨_,jF,?_,by simp⟩
   rw[FK,if_pos ⟨by simpa using bR,by simpa using jV⟩]
   exact bU
  try simp at dj
  refine .skip ?_
  subst dj
  refine⟨_,jF,?_,by simp⟩
  rw[FK,if_neg (fun hh=>by simp[hh.2] at jV)]
  exact bU
 try subst c9
 try simp at c9
 refine .rn [6,7,8,9,10,11] [] ?_
 refine .done (.gI rfl (.skip ?_))
 refine⟨_,jF,?_,by simp⟩
 rw[FK,if_neg (fun hh=>by simp[hh.1] at bR)]
 exact bU
theorem Qz (c:aj)(i0:Int)(hB:BC c):aI prog 24 [aA c,.int .i64 i0] fun r=>r=.bz [.agg [.int .i64 (ij c i0).1.1,.int .i64 (ij c i0).1.2],.int .i64 (ij c i0).2]:=by
 have dI:=wG c hB
 have jd:=DP c
 have lC:=xL i0 0 c.t.length
 have hC:cu c=(cQ c):=rfl
 obtain⟨e,he⟩:∃e,aN c=e:=⟨_,rfl⟩
 have bR:=he
 obtain⟨wi,gy⟩:∃b,(decide (0≤i0)&&decide (i0≤(c.t.length:Int)))=b:=⟨_,rfl⟩
 rw[gy] at lC
 have hv:ij c i0=if e≠0 then ((0,0),e) else if ¬(0≤i0∧i0≤(c.t.length:Int)) then ((0,0),1) else if i0=0 then ((0,0),0) else (jv c i0,0):=by unfold ij;rw[he]
 rw[he] at dI jd
 unfold aA at dI jd ⊢
 rw[hC] at dI jd ⊢
 refine .bJ func24 rfl rfl ?_
 refine .sr ?_
 refine .seq (.seq (.ar [0,1,2] rfl ae (.rn [0] _ ?_)))
 refine .pc rfl rfl rfl rfl rfl call55 (dI) ?_
 refine .rn [2] [] ?_
 refine .done (.sr ?_)
 refine .cs ?_ ?_<;>intro iC
 ·try simp at iC
  rw[if_pos iC] at hv
  refine .sr ?_
  refine .ret (ax ?_)
  exact zk
 try simp at iC
 subst iC
 rw[if_neg (by simp)] at hv
 refine .skip (.seq (.seq (.ar kS rfl ae (.rn dQ _ ?_))))
 refine .pc rfl rfl rfl rfl rfl call85 (lC) ?_
 refine .rn [5] [] ?_
 refine .done ?_
 refine .cs ?_ ?_<;>intro gG
 ·try simp at gG
  have dC:¬(0≤i0∧i0≤(c.t.length:Int)):=fun hh=>by rw[gG] at gy;simp[hh.1,hh.2] at gy
  rw[if_pos dC] at hv
  refine .sr ?_
  refine .ret (ax ?_)
  exact zk
 try simp at gG
 have dC:0≤i0∧i0≤(c.t.length:Int):=by rw[gG] at gy;simpa using gy
 rw[if_neg (by simp[dC])] at hv
 refine .skip (.seq (.sr ?_))
 refine .cs ?_ ?_<;>intro fL
 ·try simp at fL
  rw[if_pos fL] at hv
  refine .sr ?_
  refine .ret (ax ?_)
  exact zk
 try simp at fL
 rw[if_neg fL] at hv
 refine .skip (.sr ?_)
 refine .seq (.ar dQ rfl ae (.rn [0] _ ?_))
 refine .step rfl rfl (.pure rfl rfl rfl call77 (by decide) (jd rfl) (by first|rfl|simp[*]) ?_)
 rintro _ ⟨ps,iG,rfl⟩
 have uZ:=Cf c ps bR iG 86 [] [.ptr 1 0,.ptr 3 0] call86 [(3,.box [.int .i64 ((c.c.length:Int)),.int .i64 (0)]),(2,.box [.int .i64 0,.int .i64 0]),(1,.box [.int .i64 i0]),(0,.box (cQ c))] (fun pre n L=>L=[(3,.box [.int .i64 ((pre.foldl (kX i0) ((c.c.length:Int),0)).1),.int .i64 ((pre.foldl (kX i0) ((c.c.length:Int),0)).2)]),(2,.box [.int .i64 0,.int .i64 0]),(1,.box [.int .i64 i0]),(0,.box (cQ c))]) rfl (fun _ _ _ _ h _=>h) (fun pre x mX n L gZ hn hL=>by
 subst hL
 exact(p86 c n i0 _ x hn).mono fun v aq ⟨h2,h3⟩=>⟨_,h2,h3,mY,by rw[List.foldl_append];rfl⟩) (fun pre n L hL hn hd=>by
 subst hL
 exact⟨_,rfl,⟨rfl,rfl⟩,fun i j=>Rec.wk (.mk [] [] JQ JR rfl rfl rfl)⟩)
 rw[wR] at uZ ⊢
 refine .rn [2] _ ?_
 refine .step rfl rfl (.wT (aF:=[(2,.ptr 0 0),(3,.ptr 1 0),(4,.ptr 2 0),(7,.ptr 3 0),(29,.agg (bQ c (.aG (aR (places c) (aS c))) (.aG (aR ps (bwd c))) (.int .i64 (aS c c.t.length c.c.length)))),(30,.func 86 [] [.ptr 1 0,.ptr 3 0])]) (aZ:=⟨900,[(3,.box [.int .i64 ((c.c.length:Int)),.int .i64 (0)]),(2,.box [.int .i64 0,.int .i64 0]),(1,.box [.int .i64 i0]),(0,.box (cQ c))]⟩) (.mk [] [] JQ JR rfl rfl rfl) (.call rfl rfl rfl call81 (by decide) (((uZ)).mono ?_)))
 rintro _ _ ⟨n,L,rfl,rfl⟩
 obtain⟨q,hq⟩:∃q,(dS c).foldl (kX i0) ((c.c.length:Int),0)=q:=⟨_,rfl⟩
 have jn:jv c i0=q:=hq
 rw[hq]
 rw[jn] at hv
 obtain⟨lo,hi⟩:=q
 clear uZ hq
 refine .done (.sr ?_)
 refine .ret (ax ?_)
 exact zk
end
end Go.Am.Sl
end
