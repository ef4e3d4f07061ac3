/-
 What is used in the proof of a statement (part SlC); no condition.
-/
import Derived.Test.YthnmgbgmlhackaaGreatDoorSlZ
import Derived.Test.YthnmgbgmlhackaaGreatDoorVm2
import Derived.Test.YthnmgbgmlhackaaGreatDoorSlT
import Derived.Test.YthnmgbgmlhackaaGreatDoorSlB
import Derived.Test.YthnmgbgmlhackaaGreatDoorSlA
set_option linter.all false
set_option maxHeartbeats 40000000
set_option maxRecDepth 100000
section
namespace Go.Am.Sl
open Go Go.Am Go.Proofs Tryz
attribute [local simp] fx ie rS dS ig nD ah.back de gJ l8 bm Nat.testBit_eq_decide_div_mod_eq cF iX ny vO qE ja qF jw cW oX oV qB jb qC pI mW rR pH qD qv qq qw qt qu qz qA od fI kl fw qG oZ pK qH qI oc rP rQ iY nz gp fY gq lV hU pA oD oE jY qi bo pG fX bU bS l9 ah.get ah.alloc ah.put ah.drop ah.empty bh dm iF jP gI cB chunk List.range List.range.loop ma rT mX bz b9 PV.aB PV.aG PV.dy PV.fW jc jd pL PV.one PV.ids PV.cO gx beq_eq sJ tW
attribute [local simp] cQ bQ jf ua gz fG
attribute [local simp ↓ high] vm tZ
theorem Qg (c:aq):dh c=(cQ c):=rfl
noncomputable abbrev ev (c:aq) (i j:Int) (x:Option Code):aI:=vw f138 0 [(1,.vp [.int .i64 i,.int .i64 j]),(2,.vp (dh c)),(3,.ptr 1001 0),(52,.func 166 [] [.vp [.int .i64 i,.int .i64 j],.vp (dh c)])] x
def sW (c:aq)(i j:Nat)(s:ai)(n:Nat)(L:bj)(K:JM→Nat→bj→Prop)(jm:JM)(n':Nat)(L':bj):Prop:=match stepOf c i j s with
 |some x=>K jm n' L'
 |none=>jm=none∧L'=L
variable [bE] in
theorem XY (c:aq)(i j:Nat)(k l w k0 l0 w0:Int)(m n:Nat)(L:bj)(hk:bP c=0)(hj:j≤48)(N0:Nat)(ps:Array Tmp)(cY body:Code)(cX:aW)(K:JM→Nat→bj→Prop)(pC:ps.size=1)(sX:ps.toList.all (Nat.blt · N0)=true)(hn:m+1005≤n)
  (B2:bh 1000 L=none) (vA:bh 1001 L=none) (Qh:bh (m+1002) L=none) (XZ:bh (m+1003) L=none) (Qi:bh (m+1004) L=none)
  (yT:∀i,n≤i→bh i L=none) (hY:∀x,stepOf c i j ⟨k,i,j,l,w⟩=some x→∀n1,n≤n1→DB prog N0 ps cY body cX n1 L (cP x) K):cR prog 167 [.int .i64 k,.int .i64 l,.int .i64 w,.ptr (m+1004) 0,.ptr (m+1003) 0] ⟨n,(m+1004,.box [.int .i64 k0,.int .i64 i,.int .i64 j,.int .i64 l0,.int .i64 w0])::(m+1003,.box [.bN (m+1002)])::(m+1002,ev c i j none)::(1001,.box [.bN 1000])::(1000,.loop N0 ps cY body cX none)::L⟩
  fun v ak=>∃(jm:JM) (n':Nat) (L':bj),n≤n'∧jj n L L'∧sW c i j ⟨k,i,j,l,w⟩ n L K jm n' L'∧v=.bool jm.isNone∧ak=⟨n',(m+1004,.box [.int .i64 k,.int .i64 i,.int .i64 j,.int .i64 l,.int .i64 w])::(m+1003,.box [.bN (m+1002)])::(m+1002,ev c i j (bif jm.isNone then none else some .ret))::(1001,.box [.bN 1000])::(1000,.loop N0 ps cY body cX jm.code)::L'⟩:=by
 have bq:=j7 hk
 have ep:=bq.cl
 have db:=Ff c ⟨k,i,j,l,w⟩ hk
 have BW:=P4 c i j ⟨k,i,j,l,w⟩
 have hE:encS ⟨k,i,j,l,w⟩=.agg [.int .i64 k,.int .i64 i,.int .i64 j,.int .i64 l,.int .i64 w]:=rfl
 have hC:=Qg c
 rw[hE] at db
 unfold aK at db
 have qd:iF (m+1002) L=L:=Ik Qh
 have qp:∀x,dm (m+1004) x L=L:=fun x=>uf Qi
 have hN:∀d,d≤1004→(n=m+d)=False:=fun d hd=>by simp;omega
 have hN':∀d,d≤1004→(m+d=n)=False:=fun d hd=>by simp;omega
 have hM:∀d,d≤1004→(n=d)=False:=fun d hd=>by simp;omega
 have nY:∀d,d≤1004→(d=n)=False:=fun d hd=>by simp;omega
 have qn:∀x,dm n x L=L:=fun x=>uf (yT _ (Nat.le_refl _))
 have qn1:∀x,dm (n+1) x L=L:=fun x=>uf (yT _ (by omega))
 refine .bV func167 rfl rfl ?_
 rcases BW with⟨hd,dw⟩|⟨n1,i',wr,hd,hb,dw⟩|⟨n1,i',wr,hd,hb,dw⟩
 ·
  rw[Ah hd] at db
  unfold ik at db
  refine .sr ?_
  refine .sr ?_
  refine .seq (.aD dU rfl af (.rn [0,1] _ ?_))
  refine .step rfl rfl (.yield rfl rfl rfl ((by simp:_=some (ev c i j none)).trans rfl) rfl (by decide) rfl ?_)
  refine .rn ?_
  refine .block (.seq (.aD j5 rfl af (.rn [0,1] _ ?_)))
  refine .pc rfl rfl rfl rfl rfl call95 (db) ?_
  refine .rn [3,4,5,6,7,8,9,10,11,12] [] ?_
  refine .done (.seq (.aD nJ rfl af ?_))
  refine .rn [0,1] _ ?_
  refine .split (t:=63) rfl (fun gh=>?_) (fun gh=>?_)
  ·try subst gh
   try simp at gh
  try subst gh
  try simp at gh
  refine .rn [2,3,4,5,6,7,8,9,10,11,12,13,14,15,16,17] [] ?_
  refine .done (.iM rfl (.skip ?_))
  change bO _ _ _ _ _ _ _ _
  refine .rn [3] [] ?_
  refine .done ?_
  refine .wk (ay:=[(8,.bool true)]) (aQ:=⟨n+2,(m+1004,.box [.int .i64 k,.int .i64 i,.int .i64 j,.int .i64 l,.int .i64 w])::(m+1003,.box [.bN (m+1002)])::(m+1002,ev c i j none)::(1001,.box [.bN 1000])::(1000,.loop N0 ps cY body cX none)::L⟩) (.sub eN bG (by first|exact Nat.le_refl _|omega|(simp;omega))) ?_
  refine .ret ?_
  refine⟨_,gj,none,n+2,L,by omega,jj.refl _ _,?_,rfl,rfl⟩
  unfold sW
  rw[dw]
  exact⟨rfl,rfl⟩
 ·
  rw[yI hd] at db
  unfold ik at db
  have ss:=(mf bq hd).2.2.2.2.2
  have kr:=sQ c wr j ep (by omega)
  rw[hb] at kr
  unfold aK at kr
  refine .sr ?_
  refine .sr ?_
  refine .seq (.aD dU rfl af (.rn [0,1] _ ?_))
  refine .step rfl rfl (.yield rfl rfl rfl ((by simp:_=some (ev c i j none)).trans rfl) rfl (by decide) rfl ?_)
  refine .rn ?_
  refine .block (.seq (.aD j5 rfl af (.rn [0,1] _ ?_)))
  refine .pc rfl rfl rfl rfl rfl call95 (db) ?_
  refine .rn [3,4,5,6,7,8,9,10,11,12] [] ?_
  refine .done (.seq (.aD nJ rfl af ?_))
  refine .rn [0,1] _ ?_
  refine .split (t:=63) rfl (fun gh=>?_) (fun gh=>?_)
  ·try subst gh
   try simp at gh
   refine .rn [2,3,4,5] _ ?_
   refine .pc rfl rfl rfl rfl rfl call96 (kr) ?_
   refine .rn [7,8] _ ?_
   refine .split (t:=70) rfl (fun jg=>?_) (fun jg=>?_)
   ·try subst jg
    try simp at jg
   try subst jg
   try simp at jg
   refine .rn [9,10,11,12,13,14,15,16,17] [] ?_
   refine .done (.iM rfl (.skip ?_))
   change bO _ _ _ _ _ _ _ _
   refine .rn [3] [] ?_
   refine .done ?_
   refine .wk (ay:=[(8,.bool true)]) (aQ:=⟨n+2,(m+1004,.box [.int .i64 k,.int .i64 i,.int .i64 j,.int .i64 l,.int .i64 w])::(m+1003,.box [.bN (m+1002)])::(m+1002,ev c i j none)::(1001,.box [.bN 1000])::(1000,.loop N0 ps cY body cX none)::L⟩) (.sub eN bG (by first|exact Nat.le_refl _|omega|(simp;omega))) ?_
   refine .ret ?_
   refine⟨_,gj,none,n+2,L,by omega,jj.refl _ _,?_,rfl,rfl⟩
   unfold sW
   rw[dw]
   exact⟨rfl,rfl⟩
  try subst gh
  try simp at gh
 ·
  rw[yI hd] at db
  unfold ik at db
  have im:=mf bq hd
  have ss:=im.2.2.2.2.2
  have kr:=sQ c wr j ep (by omega)
  have dN:j+wr.length≤c.c.length:=by unfold hasB at hb;rw[bR,decide_eq_true_eq] at hb;exact hb.1
  rw[hb] at kr
  unfold aK at kr
  obtain⟨j1,BY⟩:∃j1,j+wr.length=j1:=⟨_,rfl⟩
  have vy:IntKind.i64.wrap ((j:Int)+(wr.length:Int))=(j1:Int):=by rw[wrap64 (by omega) (by omega)];omega
  rw[BY] at dN dw
  simp only[vy] at db
  have FD:=hY _ dw (n+2) (by omega)
  have yS:cP ⟨i,j,i',j1,n1,some ⟨k,i,j,l,w⟩⟩=.agg [.int .i64 i,.int .i64 j,.int .i64 i',.int .i64 j1,.int .i64 k,.int .i64 i,.int .i64 j,.int .i64 l,.int .i64 w,.int .i64 n1,.bool false]:=rfl
  rw[yS] at FD
  clear vy hE hb hd im ss yS hY
  refine .sr ?_
  refine .sr ?_
  refine .seq (.aD dU rfl af (.rn [0,1] _ ?_))
  refine .step rfl rfl (.yield rfl rfl rfl ((by simp:_=some (ev c i j none)).trans rfl) rfl (by decide) rfl ?_)
  refine .rn ?_
  refine .block (.seq (.aD j5 rfl af (.rn [0,1] _ ?_)))
  refine .pc rfl rfl rfl rfl rfl call95 (db) ?_
  refine .rn [3,4,5,6,7,8,9,10,11,12] [] ?_
  refine .done (.seq (.aD nJ rfl af ?_))
  refine .rn [0,1] _ ?_
  refine .split (t:=63) rfl (fun gh=>?_) (fun gh=>?_)
  ·try subst gh
   try simp at gh
   refine .rn [2,3,4,5] _ ?_
   refine .pc rfl rfl rfl rfl rfl call96 (kr) ?_
   refine .rn [7,8] _ ?_
   refine .split (t:=70) rfl (fun jg=>?_) (fun jg=>?_)
   ·try subst jg
    try simp at jg
    refine .rn [9,10,11,12,13,14] _ ?_
    refine .step rfl rfl (.wk (aQ:=⟨n+2,(m+1004,.box [.int .i64 k,.int .i64 i,.int .i64 j,.int .i64 l,.int .i64 w])::(m+1003,.box [.bN (m+1002)])::(1001,.box [.bN 1000])::(1000,.loop N0 ps cY body cX none)::L⟩) (.sub (ir.refl _) bG (Nat.le_refl _)) (.Qj (S:=[(m+1004,.box [.int .i64 k,.int .i64 i,.int .i64 j,.int .i64 l,.int .i64 w]),(m+1003,.box [.bN (m+1002)]),(1001,.box [.bN 1000]),(1000,.loop N0 ps cY body cX none)]) rfl (by first|rfl|simp[*]) (by first|rfl|(simp[*];done)) (by simp) pC.symm sX (by decide) B3 FD ?_))
    rintro jm n' L' mN fZ pD hK
    have fZ:=fZ.mono (show n≤n+2 by omega)
    have X2:bh 1000 L'=none:=fZ _ (by omega) B2
    have X3:bh 1001 L'=none:=fZ _ (by omega) vA
    have X4:bh (m+1002) L'=none:=fZ _ (by omega) Qh
    have X5:bh (m+1003) L'=none:=fZ _ (by omega) XZ
    have K7:bh (m+1004) L'=none:=fZ _ (by omega) Qi
    have qp':∀x,dm (m+1004) x L'=L':=fun x=>uf K7
    change bO _ _ _ _ _ _ _ ⟨n',(1000,.loop N0 ps cY body cX jm.code)::(m+1004,.box [.int .i64 k,.int .i64 i,.int .i64 j,.int .i64 l,.int .i64 w])::(m+1003,.box [.bN (m+1002)])::(1001,.box [.bN 1000])::L'⟩
    refine .rn [16,17] [] ?_
    refine .done ?_
    refine .cs ?_ ?_<;>intro pV
    ·try simp at pV
     obtain⟨je,rfl⟩:∃je,jm=some je:=by cases jm with|none=>simp at pV|some je=>exact⟨je,rfl⟩
     refine .ret ?_
     change bO _ _ _ _ _ _ _ _
     refine .rn [3] [] ?_
     refine .done ?_
     refine .wk (ay:=[(8,.bool false)]) (aQ:=⟨n',(m+1004,.box [.int .i64 k,.int .i64 i,.int .i64 j,.int .i64 l,.int .i64 w])::(m+1003,.box [.bN (m+1002)])::(m+1002,ev c i j (some .ret))::(1001,.box [.bN 1000])::(1000,.loop N0 ps cY body cX (JM.code (some je)))::L'⟩) (.sub eN bG (by first|exact Nat.le_refl _|omega|(simp;omega))) ?_
     refine .ret ?_
     refine⟨_,gj,some je,n',L',by omega,fZ,?_,rfl,rfl⟩
     unfold sW
     rw[dw]
     exact hK
    try simp at pV
    obtain rfl:jm=none:=by cases jm with|none=>rfl|some je=>simp at pV
    refine .skip ?_
    change bO _ _ _ _ _ _ _ _
    refine .rn [3] [] ?_
    refine .done ?_
    refine .wk (ay:=[(8,.bool true)]) (aQ:=⟨n',(m+1004,.box [.int .i64 k,.int .i64 i,.int .i64 j,.int .i64 l,.int .i64 w])::(m+1003,.box [.bN (m+1002)])::(m+1002,ev c i j none)::(1001,.box [.bN 1000])::(1000,.loop N0 ps cY body cX none)::L'⟩) (.sub eN bG (by first|exact Nat.le_refl _|omega|(simp;omega))) ?_
    refine .ret ?_
    refine⟨_,gj,none,n',L',by omega,fZ,?_,rfl,rfl⟩
    unfold sW
    rw[dw]
    exact hK
   try subst jg
   try simp at jg
  try subst gh
  try simp at gh
theorem X6 (i j:Nat){n T:Nat}(h:n<T):∃r,og i j T=og i j n++⟨3,i,j,(n:Int)+1,0⟩::r:=by
 obtain⟨d,rfl⟩:∃d,T=n+1+d:=⟨T - n - 1,by omega⟩
 clear h
 induction d with
 |zero=>exact⟨[],by rw[Nat.add_zero,If];rfl⟩
 |succ d ih=>obtain⟨r,hr⟩:=ih;exact⟨r++[⟨3,i,j,(n+1+d+1:Nat),0⟩],by rw[← Nat.add_assoc,If,hr];simp⟩
theorem X7 (i j:Nat){n T:Nat}(h:n<T):∃r,o5 i j T=o5 i j n++⟨4,i,j,(n:Int)+1,0⟩::r:=by
 obtain⟨d,rfl⟩:∃d,T=n+1+d:=⟨T - n - 1,by omega⟩
 clear h
 induction d with
 |zero=>exact⟨[],by rw[Nat.add_zero,Ig];rfl⟩
 |succ d ih=>obtain⟨r,hr⟩:=ih;exact⟨r++[⟨4,i,j,(n+1+d+1:Nat),0⟩],by rw[← Nat.add_assoc,Ig,hr];simp⟩
theorem X8 (i j:Nat){n T:Nat}(h:n<T):∃r,pP i j T=pP i j n++⟨5,i,j,(n:Int),0⟩::r:=by
 obtain⟨d,rfl⟩:∃d,T=n+1+d:=⟨T - n - 1,by omega⟩
 clear h
 induction d with
 |zero=>exact⟨[],by rw[Nat.add_zero,Ih]⟩
 |succ d ih=>obtain⟨r,hr⟩:=ih;exact⟨r++[⟨5,i,j,(n+1+d:Nat),0⟩],by rw[← Nat.add_assoc,Ih,hr];simp⟩
def Dj (m:Nat)(L:bj):Prop:=bh 1000 L=none∧bh 1001 L=none∧bh (m+1002) L=none∧bh (m+1003) L=none∧bh (m+1004) L=none
theorem Dj.new {m n:Nat}{L L':bj}(h:Dj m L)(hn:m+1005≤n)(hw:jj n L L'):Dj m L':=⟨hw _ (by omega) h.1,hw _ (by omega) h.2.1,hw _ (by omega) h.2.2.1,hw _ (by omega) h.2.2.2.1,hw _ (by omega) h.2.2.2.2⟩
section
variable [bE]
theorem B4 {N:Nat}{ab:aW}{ps:Array Tmp}{cY body:Code}(c:aq)(i j:Nat)(hk:bP c=0)(hj:j≤48)(I:List aO→Nat→bj→Prop)(E:Option Nat→Nat→bj→Prop)(pC:ps.size=1)(sX:ps.toList.all (Nat.blt · N)=true)(cE:∀pre n n' L,I pre n L→n≤n'→I pre n' L)
  (hY:∀pre x jS n L,steps c i j=pre++x::jS→1000≤n→I pre n L→DB prog N ps cY body ab n L (cP x) fun jm n' L'=>match jm with|none=>I (pre++[x]) n' L'|some e=>E e n' L')
  (done rest:List ai) (k l w k0 l0 w0:Int) (m n:Nat) (L:bj) (im:kS c i j=done++⟨k,i,j,l,w⟩::rest) (hC:I (cg c i j++done.filterMap (stepOf c i j)) n L) (hD:Dj m L) (hn:m+1005≤n) :
  cR prog 167 [.int .i64 k,.int .i64 l,.int .i64 w,.ptr (m+1004) 0,.ptr (m+1003) 0] ⟨n,(m+1004,.box [.int .i64 k0,.int .i64 i,.int .i64 j,.int .i64 l0,.int .i64 w0])::(m+1003,.box [.bN (m+1002)])::(m+1002,ev c i j none)::(1001,.box [.bN 1000])::(1000,.loop N ps cY body ab none)::L⟩
   fun v ak=>∃(jm:JM) (n':Nat) (L':bj),n≤n'∧Dj m L'∧(match jm with|none=>I (cg c i j++(done++[(⟨k,i,j,l,w⟩:ai)]).filterMap (stepOf c i j)) n' L'|some e=>E e n' L')∧v=.bool jm.isNone∧ak=⟨n',(m+1004,.box [.int .i64 k,.int .i64 i,.int .i64 j,.int .i64 l,.int .i64 w])::(m+1003,.box [.bN (m+1002)])::(m+1002,ev c i j (bif jm.isNone then none else some .ret))::(1001,.box [.bN 1000])::(1000,.loop N ps cY body ab jm.code)::L'⟩:=by
 refine cR.DC fun hf=>?_
 have yT:∀q,n≤q→bh q L=none:=fun q hq=>vB (vB (vB (vB (vB (hf q hq)))))
 refine(XY c i j k l w k0 l0 w0 m n L hk hj N ps cY body ab (fun jm n' L'=>match jm with|none=>I (cg c i j++(done++[(⟨k,i,j,l,w⟩:ai)]).filterMap (stepOf c i j)) n' L'|some e=>E e n' L') pC sX hn hD.1 hD.2.1 hD.2.2.1 hD.2.2.2.1 hD.2.2.2.2 yT (fun x hx n1 jy=>?_)).mono ?_
 ·have h1:=hY (cg c i j++done.filterMap (stepOf c i j)) x (rest.filterMap (stepOf c i j)) n1 L (by
   show cg c i j++_=_
   rw[im,List.filterMap_append,List.filterMap_cons,hx]
   simp) (by omega) (cE _ _ _ _ hC jy)
  have h2:cg c i j++(done++[(⟨k,i,j,l,w⟩:ai)]).filterMap (stepOf c i j)=cg c i j++done.filterMap (stepOf c i j)++[x]:=by
   rw[List.filterMap_append,List.filterMap_cons,hx,List.append_assoc];rfl
  rw[h2]
  exact h1
 rintro v ak ⟨jm,n',L',h1,h2,h3,h4,h5⟩
 refine⟨jm,n',L',h1,hD.new hn h2,?_,h4,h5⟩
 unfold sW at h3
 cases dw:stepOf c i j ⟨k,i,j,l,w⟩ with
 |some x=>rw[dw] at h3;exact h3
 |none=>
  rw[dw] at h3
  obtain⟨rfl,rfl⟩:=h3
  rw[List.filterMap_append,List.filterMap_cons,dw]
  simp only[List.filterMap_nil,List.append_nil]
  exact cE _ _ _ _ hC h1
theorem K8 {N b:Nat}{Q:gV}{ab:aW}{g0:Operand}{ps:Array Tmp}{cY body:Code}(c:aq)(i j:Nat)(L0:bj)(I:List aO→Nat→bj→Prop)(E:Option Nat→Nat→bj→Prop)(hk:bP c=0)(oh:i≤c.t.length)(nI:j≤c.c.length)(h0:I [] 1000 L0)(pC:ps.size=1)(sX:ps.toList.all (Nat.blt · N)=true)
  (hg:cF ab g0=some (.func 138 [] [.vp [.int .i64 i,.int .i64 j],.vp (dh c)])) (cE:∀pre n n' L,I pre n L→n≤n'→I pre n' L)
  (hY:∀pre x jS n L,steps c i j=pre++x::jS→1000≤n→I pre n L→DB prog N ps cY body ab n L (cP x) fun jm n' L'=>match jm with|none=>I (pre++[x]) n' L'|some e=>E e n' L')
  (hN:∀n L,1000≤n→I (steps c i j) n L→Q .normal ab ⟨n,L⟩) (hR:∀n L,E none n L→Q .ret ab ⟨n,L⟩) (hX:∀id n L,E (some id) n L→Q (.exit id) ab ⟨n,L⟩):VW prog N b (.rangeFunc g0 ps cY body) Q ab ⟨1000,L0⟩:=by
 have bq:=j7 hk
 have o4:=bq.tl
 have ep:=bq.cl
 have qL:=bq.vn
 have o6:j≤48:=by omega
 have hC:=Qg c
 have qS:=Fm c i j
 unfold aK ik at qS
 obtain⟨e0,eC⟩:∃b,decide (i<c.t.length)=b:=⟨_,rfl⟩
 obtain⟨e1,iL⟩:∃b,decide (j<c.c.length)=b:=⟨_,rfl⟩
 obtain⟨cv,iD⟩:∃v,c.c.getD j 0=v:=⟨_,rfl⟩
 obtain⟨tv,nG⟩:∃v,c.t.getD i 0=v:=⟨_,rfl⟩
 have gR:=P3 c i j
 have eD:=fy i
 have vy:=fy j
 refine .DC fun jN=>?_
 have B2:bh 1000 L0=none:=jN _ (by omega)
 have vA:bh 1001 L0=none:=jN _ (by omega)
 have K9:∀x,dm 1001 x L0=L0:=fun x=>uf vA
 refine .rangeFunc hg call138 func138 rfl rfl rfl ?_
 refine .La (N:=N) (ps:=ps) (cY:=cY) (body:=body) (R:=fun jm n L=>match jm with|none=>1000≤n∧I (steps c i j) n L|some e=>E e n L) (fun n L h=>hN n L h.1 h.2) (fun n L h=>hR n L h) (fun id n L h=>hX id n L h) ?_
 refine .sr ?_
 refine .Qk (fun z:Nat×bj=>([(1,.vp [.int .i64 i,.int .i64 j]),(2,.vp (dh c)),(3,.ptr 1001 0)],⟨z.1,(1001,.box [.bN 1000])::(1000,.loop N ps cY body ab none)::z.2⟩)) (fun z=>1002≤z.1∧bh 1000 z.2=none∧bh 1001 z.2=none∧I (cg c i j) z.1 z.2) ?_ ?_
 ·skip
  refine .seq ?_
  refine .drawn (ms:=[0,1,0,4,12,31,63,127,255,127,639,1663,4095,8191,16383,32767,65535,32767,163839,524287,1048575,32767,2129919,32767,8421375,31490047,65044479,134217727,268435455]) (W:=[]) (items:=Dy) rfl af af af ?_
  iterate 7 refine .rx ?_
  refine .split (t:=15) rfl (fun cq=>?_) (fun cq=>?_)
  ·try subst cq
   try simp at cq
   iterate 8 refine .rx ?_
   refine .split (t:=23) rfl (fun fO=>?_) (fun fO=>?_)
   ·try subst fO
    try simp at fO
    have xx:i<c.t.length:=by simpa using eC
    have dN:j<c.c.length:=by simpa using iL
    have Dz:c.t[i]=tv:=by rw[← nG,List.getD_eq_getElem?_getD,List.getElem?_eq_getElem xx];rfl
    have XX:c.c[j]=cv:=by rw[← iD,List.getD_eq_getElem?_getD,List.getElem?_eq_getElem dN];rfl
    iterate 14 refine .rx ?_
    refine .done ?_
    refine .cs ?_ ?_<;>intro pU
    ·try simp at pU
     have rO:cg c i j=[⟨i,j,i+1,j+1,0,none⟩]:=by unfold cg;rw[if_pos ⟨xx,dN,by rw[nG,iD];exact pU⟩]
     have FD:=hY [] ⟨i,j,i+1,j+1,0,none⟩ ((kS c i j).filterMap (stepOf c i j)) 1002 L0 (by show cg c i j++_=_;rw[rO];rfl) (by omega) (cE _ _ _ _ h0 (by omega))
     have yS:cP ⟨i,j,i+1,j+1,0,none⟩=.agg [.int .i64 i,.int .i64 j,.int .i64 ((i:Int)+1),.int .i64 ((j:Int)+1),.int .i64 0,.int .i64 0,.int .i64 0,.int .i64 0,.int .i64 0,.int .i64 0,.bool true]:=rfl
     rw[yS] at FD
     refine .seq (.aD yJ rfl af (.rn ij _ ?_))
     refine .step rfl rfl (.Qj (S:=[(1001,.box [.bN 1000]),(1000,.loop N ps cY body ab none)]) rfl (by first|rfl|simp[*]) (by first|rfl|(simp[*];done)) rfl pC.symm sX (by decide) B3 FD ?_)
     rintro jm n' L' mN fZ pD hK
     have fJ:bh 1000 L'=none:=fZ _ (by omega) B2
     have iq:bh 1001 L'=none:=fZ _ (by omega) vA
     change bO _ _ _ _ _ _ _ ⟨n',(1000,.loop N ps cY body ab jm.code)::(1001,.box [.bN 1000])::L'⟩
     refine .rn [11] [] ?_
     refine .done ?_
     refine .cs ?_ ?_<;>intro nH
     ·try simp at nH
      obtain⟨e,rfl⟩:∃e,jm=some e:=by cases jm with|none=>simp at nH|some e=>exact⟨e,rfl⟩
      refine .ret ?_
      refine kc.mk (N:=N) (ps:=ps) (cY:=cY) (body:=body) (ab:=ab) (aP:=[]) (R:=fun jm n L=>match jm with|none=>1000≤n∧I (steps c i j) n L|some e=>E e n L) (.inr rfl) (some e) L' ?_ fJ (show E e n' L' from hK)
      exact bG
     try simp at nH
     obtain rfl:jm=none:=by cases jm with|none=>rfl|some e=>simp at nH
     refine .skip ?_
     refine⟨(n',L'),⟨mN,fJ,iq,by rw[rO];exact hK⟩,(.sub eN bG (by first|exact Nat.le_refl _|omega|(simp;omega)))⟩
    try simp at pU
    have rO:cg c i j=[]:=by unfold cg;rw[if_neg (fun hh=>pU (by rw[← nG,← iD];exact hh.2.2))]
    refine .skip ?_
    refine⟨(1002,L0),⟨by simp,B2,vA,by rw[rO];exact cE _ _ _ _ h0 (by omega)⟩,(.sub eN bG (by first|exact Nat.le_refl _|omega|(simp;omega)))⟩
   try subst fO
   try simp at fO
   have rO:cg c i j=[]:=by unfold cg;rw[if_neg (fun hh=>by simp[hh.2.1] at iL)]
   iterate 13 refine .ux ?_
   refine .rx ?_
   refine .done (.iM rfl (.skip ?_))
   refine⟨(1002,L0),⟨by simp,B2,vA,by rw[rO];exact cE _ _ _ _ h0 (by omega)⟩,(.sub eN bG (by first|exact Nat.le_refl _|omega|(simp;omega)))⟩
  try subst cq
  try simp at cq
  have rO:cg c i j=[]:=by unfold cg;rw[if_neg (fun hh=>by simp[hh.1] at eC)]
  iterate 6 refine .ux ?_
  iterate 2 refine .rx ?_
  iterate 13 refine .ux ?_
  refine .rx ?_
  refine .done (.iM rfl (.skip ?_))
  refine⟨(1002,L0),⟨by simp,B2,vA,by rw[rO];exact cE _ _ _ _ h0 (by omega)⟩,(.sub eN bG (by first|exact Nat.le_refl _|omega|(simp;omega)))⟩
 skip
 rintro⟨n1,L1⟩ ⟨jy,Lb,pT,Lc⟩
 simp only at jy Lb pT Lc ⊢
 obtain⟨m,rfl⟩:∃m,n1=m+1002:=⟨n1 - 1002,by omega⟩
 clear jN B2 vA K9 h0
 refine .DC fun hf=>?_
 have yT:∀q,m+1002≤q→bh q L1=none:=fun q hq=>vB (vB (hf q hq))
 have fJ:=Lb
 have iq:=pT
 have mi:bh (m+1002) L1=none:=yT _ (by omega)
 have mj:bh (m+1003) L1=none:=yT _ (by omega)
 have ml:bh (m+1004) L1=none:=yT _ (by omega)
 have hD:Dj m L1:=⟨fJ,iq,mi,mj,ml⟩
 have Ql:∀x,dm (m+1002) x L1=L1:=fun x=>uf mi
 have qp2:∀x,dm (m+1003) x L1=L1:=fun x=>uf mj
 have qp3:∀x,dm (m+1004) x L1=L1:=fun x=>uf ml
 clear hf yT
 refine .seq (.aD [0,1,2] rfl af (.rn [0,1] _ ?_))
 refine .pc rfl rfl rfl rfl rfl call139 (qS) ?_
 refine .done (.block ?_)
 refine .wk (ay:=[(1,.vp [.int .i64 i,.int .i64 j]),(2,.vp (dh c)),(3,.ptr 1001 0),(52,.func 166 [] [.vp [.int .i64 i,.int .i64 j],.vp (dh c)])]) (aQ:=⟨m+1002,(1001,.box [.bN 1000])::(1000,.loop N ps cY body ab none)::L1⟩) (.sub eN bG (by first|exact Nat.le_refl _|omega|(simp;omega))) ?_
 refine .rangeFunc rfl call166 func166 rfl rfl rfl ?_
 refine .sr ?_
 refine .sr ?_
 refine .sr ?_
 refine .Qk (fun z:Nat×bj=>([(1,.vp [.int .i64 i,.int .i64 j]),(2,.vp (dh c)),(5,.func 167 [] [.ptr (m+1004) 0,.ptr (m+1003) 0])],⟨z.1,(m+1004,.box [.int .i64 2,.int .i64 i,.int .i64 j,.int .i64 0,.int .i64 0])::(m+1003,.box [.bN (m+1002)])::(m+1002,ev c i j none)::(1001,.box [.bN 1000])::(1000,.loop N ps cY body ab none)::z.2⟩)) (fun z=>m+1005≤z.1∧Dj m z.2∧I (cg c i j++(pO c i j).filterMap (stepOf c i j)) z.1 z.2) ?_ ?_
 ·skip
  refine .seq ?_
  refine .wk (ay:=[(1,.vp [.int .i64 i,.int .i64 j]),(2,.vp (dh c)),(5,.func 167 [] [.ptr (m+1004) 0,.ptr (m+1003) 0])]) (aQ:=⟨m+1005,(m+1004,.box [.int .i64 0,.int .i64 i,.int .i64 j,.int .i64 0,.int .i64 0])::(m+1003,.box [.bN (m+1002)])::(m+1002,ev c i j none)::(1001,.box [.bN 1000])::(1000,.loop N ps cY body ab none)::L1⟩) (.sub eN bG (by first|exact Nat.le_refl _|omega|(simp;omega))) ?_
  refine .aD FC rfl af (.rn iJ _ ?_)
  refine .split (t:=21) rfl (fun dG=>?_) (fun dG=>?_)
  ·try subst dG
   try simp at dG
   have dN:j<c.c.length:=by simpa using iL
   have vt:c.c[j]=cv:=by rw[← iD,List.getD_eq_getElem?_getD,List.getElem?_eq_getElem dN];rfl
   have hA:pO c i j=[⟨1,i,j,0,cv⟩,⟨2,i,j,0,0⟩]:=by unfold pO;rw[if_pos dN,iD];rfl
   have w1:=B4 c i j hk o6 I E pC sX cE hY ([]) (⟨2,i,j,0,0⟩::(og i j (c.t.length - i)++o5 i j i++pP i j c.g.length++(if j<c.c.length then [⟨6,i,j,0,c.c.getD j 0⟩] else []))) (1) (0) (cv) (0) (0) (0) m (m+1005) L1 (by rw[gR,hA];simp) (by simpa using cE _ _ (m+1005) _ Lc (by omega)) hD (Nat.le_refl _)
   refine .rn [7,8,9,10,11,12,13] _ ?_
   refine .step rfl rfl (.call rfl rfl rfl call167 (by decide) (((w1)).mono ?_))
   rintro _ _ ⟨jm,n',L',mN,cy,hK,rfl,rfl⟩
   refine .rn [15,16,17] _ ?_
   refine .split (t:=32) rfl (fun eX=>?_) (fun eX=>?_)
   ·try subst eX
    try simp at eX
    obtain⟨e,rfl⟩:∃e,jm=some e:=by cases jm with|none=>simp at eX|some e=>exact⟨e,rfl⟩
    have fJ:=cy.1
    have iq:=cy.2.1
    have mi:=cy.2.2.1
    have mj:=cy.2.2.2.1
    have ml:=cy.2.2.2.2
    refine .rn [18,19,20,21] [] ?_
    refine .done (.eK rfl (.ret ?_))
    change kU _ _ _ _
    refine Aj ((by simp:_=some (ev c i j (some .ret))).trans rfl) ?_
    refine kc.mk (N:=N) (ps:=ps) (cY:=cY) (body:=body) (ab:=ab) (aP:=[]) (R:=fun jm n L=>match jm with|none=>1000≤n∧I (steps c i j) n L|some e=>E e n L) (.inr rfl) (some e) L' ?_ fJ (show E e n' L' from hK)
    refine bD.drop (by simp[*]) ?_
    exact bG
   try subst eX
   try simp at eX
   obtain rfl:jm=none:=by cases jm with|none=>rfl|some e=>simp at eX
   have fJ:=cy.1
   have iq:=cy.2.1
   have mi:=cy.2.2.1
   have mj:=cy.2.2.2.1
   have ml:=cy.2.2.2.2
   have w2:=B4 c i j hk o6 I E pC sX cE hY ([⟨1,i,j,0,cv⟩]) (og i j (c.t.length - i)++o5 i j i++pP i j c.g.length++(if j<c.c.length then [⟨6,i,j,0,c.c.getD j 0⟩] else [])) (2) (0) (0) (1) (0) (cv) m n' L' (by rw[gR,hA];simp) (hK) cy (by omega)
   clear hK
   refine .rn [18] _ ?_
   refine .step rfl rfl (.call rfl rfl rfl call167 (by decide) (((w2)).mono ?_))
   rintro _ _ ⟨jm,n',L',mN,cy,hK,rfl,rfl⟩
   refine .rn [20,21] [] ?_
   refine .done ?_
   refine .cs ?_ ?_<;>intro lE
   ·try simp at lE
    obtain⟨e,rfl⟩:∃e,jm=some e:=by cases jm with|none=>simp at lE|some e=>exact⟨e,rfl⟩
    have fJ:=cy.1
    have iq:=cy.2.1
    have mi:=cy.2.2.1
    have mj:=cy.2.2.2.1
    have ml:=cy.2.2.2.2
    refine .ret ?_
    change kU _ _ _ _
    refine Aj ((by simp:_=some (ev c i j (some .ret))).trans rfl) ?_
    refine kc.mk (N:=N) (ps:=ps) (cY:=cY) (body:=body) (ab:=ab) (aP:=[]) (R:=fun jm n L=>match jm with|none=>1000≤n∧I (steps c i j) n L|some e=>E e n L) (.inr rfl) (some e) L' ?_ fJ (show E e n' L' from hK)
    refine bD.drop (by simp[*]) ?_
    exact bG
   try simp at lE
   obtain rfl:jm=none:=by cases jm with|none=>rfl|some e=>simp at lE
   have fJ:=cy.1
   have iq:=cy.2.1
   have mi:=cy.2.2.1
   have mj:=cy.2.2.2.1
   have ml:=cy.2.2.2.2
   refine .skip ?_
   refine⟨(n',L'),⟨by simp only;omega,cy,by rw[hA];exact hK⟩,(.sub eN bG (by first|exact Nat.le_refl _|omega|(simp;omega)))⟩
  try subst dG
  try simp at dG
  have dN:¬j<c.c.length:=by simpa using iL
  have hA:pO c i j=[⟨2,i,j,0,0⟩]:=by unfold pO;rw[if_neg dN];rfl
  have w2:=B4 c i j hk o6 I E pC sX cE hY ([]) (og i j (c.t.length - i)++o5 i j i++pP i j c.g.length++(if j<c.c.length then [⟨6,i,j,0,c.c.getD j 0⟩] else [])) (2) (0) (0) (0) (0) (0) m (m+1005) L1 (by rw[gR,hA];simp) (by simpa using cE _ _ (m+1005) _ Lc (by omega)) hD (Nat.le_refl _)
  refine .rn [7,8,9,10,11,12,13,14,15,16,17,18] _ ?_
  refine .step rfl rfl (.call rfl rfl rfl call167 (by decide) (((w2)).mono ?_))
  rintro _ _ ⟨jm,n',L',mN,cy,hK,rfl,rfl⟩
  refine .rn [20,21] [] ?_
  refine .done ?_
  refine .cs ?_ ?_<;>intro lE
  ·try simp at lE
   obtain⟨e,rfl⟩:∃e,jm=some e:=by cases jm with|none=>simp at lE|some e=>exact⟨e,rfl⟩
   have fJ:=cy.1
   have iq:=cy.2.1
   have mi:=cy.2.2.1
   have mj:=cy.2.2.2.1
   have ml:=cy.2.2.2.2
   refine .ret ?_
   change kU _ _ _ _
   refine Aj ((by simp:_=some (ev c i j (some .ret))).trans rfl) ?_
   refine kc.mk (N:=N) (ps:=ps) (cY:=cY) (body:=body) (ab:=ab) (aP:=[]) (R:=fun jm n L=>match jm with|none=>1000≤n∧I (steps c i j) n L|some e=>E e n L) (.inr rfl) (some e) L' ?_ fJ (show E e n' L' from hK)
   refine bD.drop (by simp[*]) ?_
   exact bG
  try simp at lE
  obtain rfl:jm=none:=by cases jm with|none=>rfl|some e=>simp at lE
  have fJ:=cy.1
  have iq:=cy.2.1
  have mi:=cy.2.2.1
  have mj:=cy.2.2.2.1
  have ml:=cy.2.2.2.2
  refine .skip ?_
  refine⟨(n',L'),⟨by simp only;omega,cy,by rw[hA];exact hK⟩,(.sub eN bG (by first|exact Nat.le_refl _|omega|(simp;omega)))⟩
 skip
 rintro⟨n1,L1⟩ ⟨jy,hD,hI⟩
 simp only at jy hD hI ⊢
 have fJ:=hD.1
 have iq:=hD.2.1
 have mi:=hD.2.2.1
 have mj:=hD.2.2.2.1
 have ml:=hD.2.2.2.2
 have BP:IntKind.i64.wrap ((c.t.length:Int) - (i:Int))=(c.t.length:Int) - (i:Int):=wrap64 (by omega) (by omega)
 refine .seq (.sr ?_)
 refine .block ?_
 refine .FE (fun z:Nat×Int×Int×Int×Nat×bj=>([(1,.vp [.int .i64 i,.int .i64 j]),(2,.vp (dh c)),(5,.func 167 [] [.ptr (m+1004) 0,.ptr (m+1003) 0]),(6,.int .i64 ((z.1:Int)+1))],⟨z.2.2.2.2.1,(m+1004,.box [.int .i64 z.2.1,.int .i64 i,.int .i64 j,.int .i64 z.2.2.1,.int .i64 z.2.2.2.1])::(m+1003,.box [.bN (m+1002)])::(m+1002,ev c i j none)::(1001,.box [.bN 1000])::(1000,.loop N ps cY body ab none)::z.2.2.2.2.2⟩)) (fun z=>z.1≤c.t.length - i∧m+1005≤z.2.2.2.2.1∧Dj m z.2.2.2.2.2∧I (cg c i j++(pO c i j++og i j z.1).filterMap (stepOf c i j)) z.2.2.2.2.1 z.2.2.2.2.2) (fun z=>c.t.length - i - z.1) (0,2,0,0,n1,L1) ⟨Nat.zero_le _,jy,hD,by simpa[og] using hI⟩ (.sub eN bG (by first|exact Nat.le_refl _|omega|(simp;omega))) ?_
 clear hI hD jy fJ iq mi mj ml
 rintro⟨n,k,l,w,n1,L1⟩ ⟨hn,jy,hD,hI⟩
 simp only at hn jy hD hI ⊢
 have fJ:=hD.1
 have iq:=hD.2.1
 have mi:=hD.2.2.1
 have mj:=hD.2.2.2.1
 have ml:=hD.2.2.2.2
 refine .seq (.sr ?_)
 refine .cs ?_ ?_<;>intro o9
 ·try simp at o9
  have ug:n<c.t.length - i:=by omega
  obtain⟨r,hr⟩:=X6 i j ug
  have w3:=B4 c i j hk o6 I E pC sX cE hY (pO c i j++og i j n) (r++(o5 i j i++(pP i j c.g.length++(if j<c.c.length then [⟨6,i,j,0,c.c.getD j 0⟩] else [])))) (3) ((n:Int)+1) (0) (k) (l) (w) m n1 L1 (by rw[gR,hr];simp only[List.append_assoc,List.cons_append]) (hI) hD (jy)
  have xt:IntKind.i64.wrap ((n:Int)+1+1)=(n:Int)+1+1:=wrap64 (by omega) (by omega)
  refine .skip (.seq (.block (.seq (.aD dU rfl af (.rn [0,1] _ ?_)))))
  refine .step rfl rfl (.call rfl rfl rfl call167 (by decide) (((w3)).mono ?_))
  rintro _ _ ⟨jm,n',L',mN,cy,hK,rfl,rfl⟩
  refine .rn [3] [] ?_
  refine .done ?_
  refine .cs ?_ ?_<;>intro B0
  ·try simp at B0
   obtain⟨e,rfl⟩:∃e,jm=some e:=by cases jm with|none=>simp at B0|some e=>exact⟨e,rfl⟩
   have fJ:=cy.1
   have iq:=cy.2.1
   have mi:=cy.2.2.1
   have mj:=cy.2.2.2.1
   have ml:=cy.2.2.2.2
   refine .ret ?_
   change kU _ _ _ _
   refine Aj ((by simp:_=some (ev c i j (some .ret))).trans rfl) ?_
   refine kc.mk (N:=N) (ps:=ps) (cY:=cY) (body:=body) (ab:=ab) (aP:=[]) (R:=fun jm n L=>match jm with|none=>1000≤n∧I (steps c i j) n L|some e=>E e n L) (.inr rfl) (some e) L' ?_ fJ (show E e n' L' from hK)
   refine bD.drop (by simp[*]) ?_
   exact bG
  try simp at B0
  obtain rfl:jm=none:=by cases jm with|none=>rfl|some e=>simp at B0
  have fJ:=cy.1
  have iq:=cy.2.1
  have mi:=cy.2.2.1
  have mj:=cy.2.2.2.1
  have ml:=cy.2.2.2.2
  refine .skip (.rn ?_)
  refine⟨(n+1,3,(n:Int)+1,0,n',L'),⟨ug,by simp only;omega,cy,by rw[If,← List.append_assoc];exact hK⟩,by simp only;omega,?_⟩
  simp only
  exact(.sub eN bG (by first|exact Nat.le_refl _|omega|(simp;omega)))
 try simp at o9
 obtain rfl:n=c.t.length - i:=by omega
 refine .exit (.seq (.sr ?_))
 refine .block ?_
 refine .FE (fun z:Nat×Int×Int×Int×Nat×bj=>([(1,.vp [.int .i64 i,.int .i64 j]),(2,.vp (dh c)),(5,.func 167 [] [.ptr (m+1004) 0,.ptr (m+1003) 0]),(7,.int .i64 ((z.1:Int)+1))],⟨z.2.2.2.2.1,(m+1004,.box [.int .i64 z.2.1,.int .i64 i,.int .i64 j,.int .i64 z.2.2.1,.int .i64 z.2.2.2.1])::(m+1003,.box [.bN (m+1002)])::(m+1002,ev c i j none)::(1001,.box [.bN 1000])::(1000,.loop N ps cY body ab none)::z.2.2.2.2.2⟩)) (fun z=>z.1≤i∧m+1005≤z.2.2.2.2.1∧Dj m z.2.2.2.2.2∧I (cg c i j++(pO c i j++og i j (c.t.length - i)++o5 i j z.1).filterMap (stepOf c i j)) z.2.2.2.2.1 z.2.2.2.2.2) (fun z=>i - z.1) (0,k,l,w,n1,L1) ⟨Nat.zero_le _,jy,hD,by simpa[o5] using hI⟩ (.sub eN bG (by first|exact Nat.le_refl _|omega|(simp;omega))) ?_
 clear hI hD jy fJ iq mi mj ml
 rintro⟨n,k,l,w,n1,L1⟩ ⟨hn,jy,hD,hI⟩
 simp only at hn jy hD hI ⊢
 have fJ:=hD.1
 have iq:=hD.2.1
 have mi:=hD.2.2.1
 have mj:=hD.2.2.2.1
 have ml:=hD.2.2.2.2
 refine .seq (.sr ?_)
 refine .cs ?_ ?_<;>intro xz
 ·try simp at xz
  have ug:n<i:=by omega
  obtain⟨r,hr⟩:=X7 i j ug
  have w3:=B4 c i j hk o6 I E pC sX cE hY (pO c i j++og i j (c.t.length - i)++o5 i j n) (r++(pP i j c.g.length++(if j<c.c.length then [⟨6,i,j,0,c.c.getD j 0⟩] else []))) (4) ((n:Int)+1) (0) (k) (l) (w) m n1 L1 (by rw[gR,hr];simp only[List.append_assoc,List.cons_append]) (hI) hD (jy)
  have xt:IntKind.i64.wrap ((n:Int)+1+1)=(n:Int)+1+1:=wrap64 (by omega) (by omega)
  refine .skip (.seq (.block (.seq (.aD dU rfl af (.rn [0,1] _ ?_)))))
  refine .step rfl rfl (.call rfl rfl rfl call167 (by decide) (((w3)).mono ?_))
  rintro _ _ ⟨jm,n',L',mN,cy,hK,rfl,rfl⟩
  refine .rn [3] [] ?_
  refine .done ?_
  refine .cs ?_ ?_<;>intro j8
  ·try simp at j8
   obtain⟨e,rfl⟩:∃e,jm=some e:=by cases jm with|none=>simp at j8|some e=>exact⟨e,rfl⟩
   have fJ:=cy.1
   have iq:=cy.2.1
   have mi:=cy.2.2.1
   have mj:=cy.2.2.2.1
   have ml:=cy.2.2.2.2
   refine .ret ?_
   change kU _ _ _ _
   refine Aj ((by simp:_=some (ev c i j (some .ret))).trans rfl) ?_
   refine kc.mk (N:=N) (ps:=ps) (cY:=cY) (body:=body) (ab:=ab) (aP:=[]) (R:=fun jm n L=>match jm with|none=>1000≤n∧I (steps c i j) n L|some e=>E e n L) (.inr rfl) (some e) L' ?_ fJ (show E e n' L' from hK)
   refine bD.drop (by simp[*]) ?_
   exact bG
  try simp at j8
  obtain rfl:jm=none:=by cases jm with|none=>rfl|some e=>simp at j8
  have fJ:=cy.1
  have iq:=cy.2.1
  have mi:=cy.2.2.1
  have mj:=cy.2.2.2.1
  have ml:=cy.2.2.2.2
  refine .skip (.rn ?_)
  refine⟨(n+1,4,(n:Int)+1,0,n',L'),⟨ug,by simp only;omega,cy,by rw[Ig,← List.append_assoc];exact hK⟩,by simp only;omega,?_⟩
  simp only
  exact(.sub eN bG (by first|exact Nat.le_refl _|omega|(simp;omega)))
 try simp at xz
 obtain rfl:i=n:=by omega
 refine .exit (.seq (.sr ?_))
 refine .block ?_
 refine .FE (fun z:Nat×Int×Int×Int×Nat×bj=>([(1,.vp [.int .i64 i,.int .i64 j]),(2,.vp (dh c)),(5,.func 167 [] [.ptr (m+1004) 0,.ptr (m+1003) 0]),(63,.int .i64 c.g.length),(64,.int .i64 z.1)],⟨z.2.2.2.2.1,(m+1004,.box [.int .i64 z.2.1,.int .i64 i,.int .i64 j,.int .i64 z.2.2.1,.int .i64 z.2.2.2.1])::(m+1003,.box [.bN (m+1002)])::(m+1002,ev c i j none)::(1001,.box [.bN 1000])::(1000,.loop N ps cY body ab none)::z.2.2.2.2.2⟩)) (fun z=>z.1≤c.g.length∧m+1005≤z.2.2.2.2.1∧Dj m z.2.2.2.2.2∧I (cg c i j++(pO c i j++og i j (c.t.length - i)++o5 i j i++pP i j z.1).filterMap (stepOf c i j)) z.2.2.2.2.1 z.2.2.2.2.2) (fun z=>c.g.length - z.1) (0,k,l,w,n1,L1) ⟨Nat.zero_le _,jy,hD,by simpa[pP] using hI⟩ (.sub eN bG (by first|exact Nat.le_refl _|omega|(simp;omega))) ?_
 clear hI hD jy fJ iq mi mj ml
 rintro⟨n,k,l,w,n1,L1⟩ ⟨hn,jy,hD,hI⟩
 simp only at hn jy hD hI ⊢
 have fJ:=hD.1
 have iq:=hD.2.1
 have mi:=hD.2.2.1
 have mj:=hD.2.2.2.1
 have ml:=hD.2.2.2.2
 refine .sr ?_
 refine .seq ?_
 refine .cs ?_ ?_<;>intro DA
 ·try simp at DA
  have ug:n<c.g.length:=by simpa using DA
  obtain⟨r,hr⟩:=X8 i j ug
  have w3:=B4 c i j hk o6 I E pC sX cE hY (pO c i j++og i j (c.t.length - i)++o5 i j i++pP i j n) (r++(if j<c.c.length then [⟨6,i,j,0,c.c.getD j 0⟩] else [])) (5) ((n:Int)) (0) (k) (l) (w) m n1 L1 (by rw[gR,hr];simp only[List.append_assoc,List.cons_append]) (hI) hD (jy)
  have xt:=fy n
  refine .skip (.seq (.block (.sr ?_)))
  refine .seq (.aD dU rfl af (.rn [0,1] _ ?_))
  refine .step rfl rfl (.call rfl rfl rfl call167 (by decide) (((w3)).mono ?_))
  rintro _ _ ⟨jm,n',L',mN,cy,hK,rfl,rfl⟩
  refine .rn [3] [] ?_
  refine .done ?_
  refine .cs ?_ ?_<;>intro jg
  ·try simp at jg
   obtain⟨e,rfl⟩:∃e,jm=some e:=by cases jm with|none=>simp at jg|some e=>exact⟨e,rfl⟩
   have fJ:=cy.1
   have iq:=cy.2.1
   have mi:=cy.2.2.1
   have mj:=cy.2.2.2.1
   have ml:=cy.2.2.2.2
   refine .ret ?_
   change kU _ _ _ _
   refine Aj ((by simp:_=some (ev c i j (some .ret))).trans rfl) ?_
   refine kc.mk (N:=N) (ps:=ps) (cY:=cY) (body:=body) (ab:=ab) (aP:=[]) (R:=fun jm n L=>match jm with|none=>1000≤n∧I (steps c i j) n L|some e=>E e n L) (.inr rfl) (some e) L' ?_ fJ (show E e n' L' from hK)
   refine bD.drop (by simp[*]) ?_
   exact bG
  try simp at jg
  obtain rfl:jm=none:=by cases jm with|none=>rfl|some e=>simp at jg
  have fJ:=cy.1
  have iq:=cy.2.1
  have mi:=cy.2.2.1
  have mj:=cy.2.2.2.1
  have ml:=cy.2.2.2.2
  refine .skip (.rn ?_)
  refine⟨(n+1,5,(n:Int),0,n',L'),⟨ug,by simp only;omega,cy,by rw[Ih,← List.append_assoc];exact hK⟩,by simp only;omega,?_⟩
  simp only
  exact(.sub eN bG (by first|exact Nat.le_refl _|omega|(simp;omega)))
 try simp at DA
 obtain rfl:n=c.g.length:=by omega
 refine .exit (.sr ?_)
 refine .cs ?_ ?_<;>intro ue
 ·try simp at ue
  have dN:j<c.c.length:=by rw[ue] at iL;simpa using iL
  rw[if_pos dN,iD] at gR
  have vt:c.c[j]=cv:=by rw[← iD,List.getD_eq_getElem?_getD,List.getElem?_eq_getElem dN];rfl
  have w3:=B4 c i j hk o6 I E pC sX cE hY (pO c i j++og i j (c.t.length - i)++o5 i j i++pP i j c.g.length) ([]) (6) (0) (cv) (k) (l) (w) m n1 L1 (gR) (hI) hD (jy)
  refine .aD lF rfl af (.rn iJ _ ?_)
  refine .step rfl rfl (.call rfl rfl rfl call167 (by decide) (((w3)).mono ?_))
  rintro _ _ ⟨jm,n',L',mN,cy,hK,rfl,rfl⟩
  have fJ:=cy.1
  have iq:=cy.2.1
  have mi:=cy.2.2.1
  have mj:=cy.2.2.2.1
  have ml:=cy.2.2.2.2
  rcases jm with _|e
  ·refine .done ?_
   change kU _ _ _ _
   refine B1 ((by simp:_=some (ev c i j none)).trans rfl) ?_
   refine kc.mk (N:=N) (ps:=ps) (cY:=cY) (body:=body) (ab:=ab) (aP:=[]) (R:=fun jm n L=>match jm with|none=>1000≤n∧I (steps c i j) n L|some e=>E e n L) (.inl rfl) none L' ?_ fJ ⟨by show 1000≤n';omega,?_⟩
   ·refine bD.drop (by simp[*]) ?_
    exact bG
   show I (cg c i j++(kS c i j).filterMap (stepOf c i j)) n' L'
   rw[gR]
   exact hK
  refine .done ?_
  change kU _ _ _ _
  refine Aj ((by simp:_=some (ev c i j (some .ret))).trans rfl) ?_
  refine kc.mk (N:=N) (ps:=ps) (cY:=cY) (body:=body) (ab:=ab) (aP:=[]) (R:=fun jm n L=>match jm with|none=>1000≤n∧I (steps c i j) n L|some e=>E e n L) (.inr rfl) (some e) L' ?_ fJ (show E e n' L' from hK)
  refine bD.drop (by simp[*]) ?_
  exact bG
 try simp at ue
 have dN:¬j<c.c.length:=by rw[ue] at iL;simpa using iL
 rw[if_neg dN,List.append_nil] at gR
 refine .skip ?_
 change kU _ _ _ _
 refine B1 ((by simp:_=some (ev c i j none)).trans rfl) ?_
 refine kc.mk (N:=N) (ps:=ps) (cY:=cY) (body:=body) (ab:=ab) (aP:=[]) (R:=fun jm n L=>match jm with|none=>1000≤n∧I (steps c i j) n L|some e=>E e n L) (.inl rfl) none L1 ?_ fJ ⟨by show 1000≤n1;omega,?_⟩
 ·refine bD.drop (by simp[*]) ?_
  exact bG
 show I (cg c i j++(kS c i j).filterMap (stepOf c i j)) n1 L1
 rw[gR]
 exact hI
end
attribute [local simp] cQ bQ jf ua yR rY sR pQ gz fG
def iu (D:Nat→Nat→Int)(x:aO):Nat→Nat→Int:=bu D x.i x.j (min (D x.i x.j) (D x.i' x.j'+x.n))
def oq (c:aq)(D:Nat→Nat→Int)(q:Nat×Nat):Nat→Nat→Int:=if q.1=0∧q.2=0 then D else (steps c (c.t.length - q.1) (c.c.length - q.2)).foldl iu (bu D (c.t.length - q.1) (c.c.length - q.2) 1099511627776)
def sY (c:aq)(a b:Nat):Nat→Nat→Int:=(mg (c.c.length+1) a b).foldl (oq c) (bu (fun _ _=>1099511627776) c.t.length c.c.length 0)
def bwd (c:aq):Nat→Nat→Int:=(places c).foldl (oq c) (bu (fun _ _=>1099511627776) c.t.length c.c.length 0)
theorem X9 (c:aq)(a b:Nat):sY c a (b+1)=oq c (sY c a b) (a,b):=by unfold sY;rw[Ii,List.foldl_append];rfl
theorem Ya (c:aq)(a:Nat):sY c a (c.c.length+1)=sY c (a+1) 0:=by unfold sY;rw[Ij]
theorem Qm (c:aq):sY c (c.t.length+1) 0=bwd c:=by unfold sY bwd;rw[Ft]
theorem Il {D:Nat→Nat→Int}(h:iN D){i j:Nat}{v:Int}(h0:0≤v)(h1:v≤1099511627776):iN (bu D i j v):=fun a b=>by
 unfold bu;split
 ·exact⟨h0,h1⟩
 exact h a b
theorem Yb {D:Nat→Nat→Int}(h:iN D){x:aO}(hn:0≤x.n):iN (iu D x):=by
 have h1:=h x.i x.j;have h2:=h x.i' x.j'
 exact Il h (by omega) (by omega)
theorem Ld:∀(l:List aO) {D:Nat→Nat→Int},(∀x∈l,0≤x.n)→iN D→iN (l.foldl iu D)
 |[],_,_,h=>h
 |x::r,_,hx,h=>Ld r (fun y hy=>hx y (List.mem_cons_of_mem _ hy)) (Yb h (hx x List.mem_cons_self))
theorem Yc {c:aq}(hr:Rt c){D:Nat→Nat→Int}(h:iN D)(q:Nat×Nat):iN (oq c D q):=by
 unfold oq;split
 ·exact h
 exact Ld _ (fun x hx=>(jh hr hx).n0) (Il h (by decide) (by decide))
theorem Qn {c:aq}(hr:Rt c)(a b:Nat):iN (sY c a b):=by
 have:∀(l:List (Nat×Nat)) (D:Nat→Nat→Int),iN D→iN (l.foldl (oq c) D):=by
  intro l
  induction l with
  |nil=>exact fun D h=>h
  |cons q r ih=>exact fun D h=>ih _ (Yc hr h q)
 exact this _ _ (Il (fun _ _=>⟨by decide,by decide⟩) (by decide) (by decide))
def Kb (c:aq)(a b:Nat)(ps:List (Nat×Nat)):Prop:=∀i j,(i,j)∈ps↔i≤c.t.length∧j≤c.c.length∧(c.t.length - i<a∨(c.t.length - i=a∧c.c.length - j<b)∨(i=c.t.length∧j=c.c.length))
theorem xA (s:Option ai):∃a b d e f:Int,BU s=[.int .i64 a,.int .i64 b,.int .i64 d,.int .i64 e,.int .i64 f]:=by
 cases s with
 |none=>exact⟨0,0,0,0,0,rfl⟩
 |some s=>exact⟨_,_,_,_,_,rfl⟩
theorem xB (x:aO){a b d e f:Int}(h:BU x.s=[.int .i64 a,.int .i64 b,.int .i64 d,.int .i64 e,.int .i64 f]):cP x=.agg [.int .i64 x.i,.int .i64 x.j,.int .i64 x.i',.int .i64 x.j',.int .i64 a,.int .i64 b,.int .i64 d,.int .i64 e,.int .i64 f,.int .i64 x.n,.bool x.s.isNone]:=by
 unfold cP;rw[h];rfl
section
variable [bE]
theorem FF (c:aq)(hk:bP c=0):aM prog 78 [aK c] fun r=>r=ik c.t.length c.c.length:=by
 have bq:=j7 hk
 have hC:dh c=(cQ c):=rfl
 unfold aK ik
 rw[hC]
 refine .bV func78 rfl rfl ?_
 refine .sr ?_
 refine .sr ?_
 refine .ret (aH ?_)
 exact zk
theorem Lg (c:aq)(hk:bP c=0):aM prog 137 [aK c] fun r=>∃ps,(∀i j,(i,j)∈ps↔i≤c.t.length∧j≤c.c.length)∧r=.az (a8 ps (bwd c)):=by
 have bq:=j7 hk
 have o4:=bq.tl
 have ep:=bq.cl
 have qL:=bq.vn
 have hC:dh c=(cQ c):=rfl
 have x6:IntKind.i64.wrap ((c.t.length:Int)+1)=(c.t.length:Int)+1:=wrap64 (by omega) (by omega)
 have mT:IntKind.i64.wrap ((c.c.length:Int)+1)=(c.c.length:Int)+1:=wrap64 (by omega) (by omega)
 have ke:=FF c hk
 have mh:=fun i j:Int=>Ie c i j
 unfold aK at ke mh ⊢
 unfold ik at ke mh
 have hC':=hC
 rw[hC] at ke mh ⊢
 have j9:o7 [.int .i64 c.t.length,.int .i64 c.c.length] [.int .i64 c.t.length,.int .i64 c.c.length] (.int .i64 0) []=some (a8 [(c.t.length,c.c.length)] (sY c 0 0)):=by
  have:=Fu (a:=c.t.length) (b:=c.c.length) (D:=fun _ _=>1099511627776) (ps:=[]) (by simp) 0
  exact this
 refine .bV func137 rfl rfl ?_
 refine .sr ?_
 refine .seq (.aD iJ rfl af (.rn [0,1] _ ?_))
 refine .pc rfl rfl rfl rfl rfl call78 (ke) ?_
 refine .rn [3,4,5,6] [] ?_
 refine .done (.seq (.sr ?_))
 refine .block ?_
 refine .dF (fun z:Nat×List (Nat×Nat)=>([(1,.ptr 0 0),(3,.ptr 2 0),(15,.int .i64 ((c.t.length:Int)+1)),(16,.int .i64 z.1)],⟨3,[(2,.box [.aY 1]),(1,.map (a8 (z.2) (sY c z.1 0))),(0,.box (cQ c))]⟩)) (fun z=>z.1≤c.t.length+1∧Kb c z.1 0 z.2) (fun z=>c.t.length+1 - z.1) (0,[(c.t.length,c.c.length)]) ⟨by simp,fun i j=>by simp;omega⟩ bx ?_
 rintro⟨a,ps⟩ ⟨ha,fE⟩
 simp only at ha fE ⊢
 refine .sr ?_
 refine .seq ?_
 refine .cs ?_ ?_<;>intro gW
 ·try simp at gW
  have eP:=fy a
  refine .skip (.seq (.block (.sr ?_)))
  refine .sr ?_
  refine .block ?_
  refine .dF (fun z:Nat×List (Nat×Nat)=>([(1,.ptr 0 0),(3,.ptr 2 0),(4,.int .i64 a),(15,.int .i64 ((c.t.length:Int)+1)),(16,.int .i64 a),(22,.int .i64 ((c.c.length:Int)+1)),(23,.int .i64 z.1)],⟨3,[(2,.box [.aY 1]),(1,.map (a8 (z.2) (sY c a z.1))),(0,.box (cQ c))]⟩)) (fun z=>z.1≤c.c.length+1∧Kb c a z.1 z.2) (fun z=>c.c.length+1 - z.1) (0,ps) ⟨by simp,fE⟩ bx ?_
  clear fE
  rintro⟨b,ps⟩ ⟨hb,fE⟩
  simp only at hb fE ⊢
  refine .sr ?_
  refine .seq ?_
  refine .cs ?_ ?_<;>intro lD
  ·try simp at lD
   have rV:=fy b
   have hac:a≤c.t.length:=by omega
   have hbc:b≤c.c.length:=by omega
   obtain⟨i,hi⟩:∃i,c.t.length - a=i:=⟨_,rfl⟩
   obtain⟨j,hj⟩:∃j,c.c.length - b=j:=⟨_,rfl⟩
   have eD:IntKind.i64.wrap ((c.t.length:Int) - (a:Int))=(i:Int):=by rw[wrap64 (by omega) (by omega)];omega
   have vy:IntKind.i64.wrap ((c.c.length:Int) - (b:Int))=(j:Int):=by rw[wrap64 (by omega) (by omega)];omega
   have mS:=X9 c a b
   have hD:=Qn bq a b
   obtain⟨D,Fw⟩:∃D,sY c a b=D:=⟨_,rfl⟩
   rw[Fw] at mS hD ⊢
   have mh:=mh i j
   refine .skip (.seq (.block (.sr ?_)))
   refine .sr ?_
   refine .seq (.seq ?_)
   refine .drawn (ms:=[0,0,2,7]) (W:=[2]) (items:=[.op 0,.op 1,.op 2,.ck 0,.op 3]) rfl af af af ?_
   iterate 2 refine .rx ?_
   refine .wp rfl rfl rfl rfl rfl call78 (ke) ?_
   refine .ck rfl eM ?_
   refine .rx ?_
   refine .done ?_
   refine .cs ?_ ?_<;>intro ka
   ·try simp at ka
    have hz:a=0∧b=0:=by omega
    rw[oq,if_pos hz] at mS
    have hq:Kb c a (b+1) ps:=fun i' j'=>by rw[fE];omega
    clear hz ka
    refine .exit (.rn ?_)
    clear hi hj eD vy
    refine⟨(b+1,ps),⟨by simp only;omega,hq⟩,by simp only;omega,by rw[mS];exact bx⟩
   try simp at ka
   have hz:¬(a=0∧b=0):=by rintro⟨rfl,rfl⟩;rw[← hi,← hj] at ka;simp at ka
   rw[oq,if_neg hz] at mS
   simp only[hi,hj] at mS
   have oh:i≤c.t.length:=by omega
   have nI:j≤c.c.length:=by omega
   have DD:(i,j)∉ps:=fun hh=>by
    have:=(fE i j).1 hh
    omega
   have vC:o7 [.int .i64 i,.int .i64 j] [.int .i64 i,.int .i64 j] (.int .i64 1099511627776) (a8 ps D)=some (a8 (ps++[(i,j)]) (bu D i j 1099511627776)):=Fu DD _
   have vD:Kb c a (b+1) (ps++[(i,j)]):=fun i' j'=>by
    rw[List.mem_append,fE,List.mem_singleton,bI]
    omega
   have iq:=Il hD (i:=i) (j:=j) (v:=1099511627776) (by decide) (by decide)
   obtain⟨qs,Qo⟩:∃qs,ps++[(i,j)]=qs:=⟨_,rfl⟩
   obtain⟨D1,dY⟩:∃D1,bu D i j 1099511627776=D1:=⟨_,rfl⟩
   rw[Qo] at vC vD
   rw[dY] at vC iq mS
   clear Qo dY Fw
   refine .skip (.sr ?_)
   refine .seq (.aD [0,1,2] rfl af (.rn [0,1] _ ?_))
   refine .pc rfl rfl rfl rfl rfl call79 (mh) ?_
   refine .done (.block ?_)
   refine .rec (ay:=[(1,.ptr 0 0),(3,.ptr 2 0),(4,.int .i64 a),(6,.ptr 3 0),(15,.int .i64 ((c.t.length:Int)+1)),(16,.int .i64 a),(22,.int .i64 ((c.c.length:Int)+1)),(23,.int .i64 b),(45,.func 138 [] [.vp [.int .i64 i,.int .i64 j],.vp (dh c)])]) (aQ:=⟨1000,[(3,.box [.int .i64 i,.int .i64 j]),(2,.box [.aY 1]),(1,.map (a8 (qs) (D1))),(0,.box (cQ c))]⟩) bx ?_
   refine K8 c i j _ (fun pre n L=>L=[(3,.box [.int .i64 i,.int .i64 j]),(2,.box [.aY 1]),(1,.map (a8 (qs) (pre.foldl iu D1))),(0,.box (cQ c))]) (fun _ _ _=>False) hk oh nI rfl rfl (by decide) rfl (fun _ _ _ _ h _=>h) ?_ ?_ (fun _ _ h=>h.elim) (fun _ _ _ h=>h.elim)
   ·skip
    rintro pre x jS n L im hn rfl
    have hx:x∈steps c i j:=by rw[im];simp
    have ib:=jh bq hx
    have pE:=ib.fi
    have w7:=ib.fj
    have BX:=ib.n0
    have jy:=ib.n1
    have Yd:=ib.it
    have Kf:=ib.jt
    have cT:=ib.uh
    have dE:=ib.ui
    have hon:=ib.on
    obtain⟨m,rfl⟩:∃m,n=m+1000:=⟨n - 1000,by omega⟩
    have Im:=Ld pre (D:=D1) (fun y hy=>(jh bq (show y∈steps c i j by rw[im];simp[hy])).n0) iq
    obtain⟨Dp,FG⟩:∃Dp,pre.foldl iu D1=Dp:=⟨_,rfl⟩
    have qQ:(pre++[x]).foldl iu D1=bu Dp i j (min (Dp i j) (Dp x.i' x.j'+x.n)):=by rw[List.foldl_append,FG];show iu Dp x=_;unfold iu;rw[pE,w7]
    rw[FG] at Im ⊢
    obtain⟨a0,a1,a2,a3,a4,gd⟩:=xA x.s
    rw[xB x gd,pE,w7]
    have lW:(i,j)∈qs:=(vD i j).2 (by omega)
    have cj:(x.i',x.j')∈qs:=(vD _ _).2 (by omega)
    have jN:kq [.int .i64 i,.int .i64 j] (a8 qs Dp)=some (some (.int .i64 (Dp i j))):=by
     have:=vx i j Dp qs
     rw[if_pos lW] at this
     exact this
    have xy:kq [.int .i64 x.i',.int .i64 x.j'] (a8 qs Dp)=some (some (.int .i64 (Dp x.i' x.j'))):=by
     have:=vx x.i' x.j' Dp qs
     rw[if_pos cj] at this
     exact this
    have sU:∀v,o7 [.int .i64 i,.int .i64 j] [.int .i64 i,.int .i64 j] (.int .i64 v) (a8 qs Dp)=some (a8 qs (bu Dp i j v)):=fun v=>Fq lW v
    have h0:=Im i j
    have h1:=Im x.i' x.j'
    obtain⟨d0,mz⟩:∃d,Dp i j=d:=⟨_,rfl⟩
    obtain⟨d1,j3⟩:∃d,Dp x.i' x.j'=d:=⟨_,rfl⟩
    rw[mz,j3] at qQ
    rw[mz] at jN h0
    rw[j3] at xy h1
    have BO:IntKind.i64.wrap (d1+x.n)=d1+x.n:=wrap64 (by omega) (by omega)
    have u5:(if d1+x.n<d0 then d1+x.n else d0)=min d0 (d1+x.n):=by split<;>omega
    clear hD iq mS fE vD DD vC im hx ib Im pE w7 gd
    unfold DB
    refine .rn ?_
    refine .block ?_
    refine .drawn (ms:=[0,0,0,0,12,0,0,64,224,0,512,2016,4092,8191]) (W:=[13]) (items:=xr) rfl af af af ?_
    iterate 13 refine .rx ?_
    refine .wv ?_
    refine .done ?_
    refine⟨none,[(3,.box [.int .i64 i,.int .i64 j]),(2,.box [.aY 1]),(1,.map (a8 (qs) (bu Dp i j (min d0 (d1+x.n))))),(0,.box (cQ c))],rfl,bG,kI,?_⟩
    show _=_
    rw[qQ]
   skip
   rintro n L hn rfl
   rw[← mS]
   refine .rn ?_
   refine⟨(b+1,qs),⟨by simp only;omega,vD⟩,by simp only;omega,bx⟩
  try simp at lD
  obtain rfl:b=c.c.length+1:=by omega
  refine .exit (.rn ?_)
  refine⟨(a+1,ps),⟨by simp only;omega,fun i' j'=>by rw[fE];omega⟩,by simp only;omega,by rw[← Ya];exact bx⟩
 try simp at gW
 obtain rfl:a=c.t.length+1:=by omega
 rw[Qm]
 refine .exit (.sr ?_)
 refine .ret (aH ?_)
 exact⟨ps,fun i j=>by rw[fE];omega,rfl⟩
end
def aZ (c:aq):Nat→Nat→Int:=fwd c fun _=>true
def Kp (c:aq)(ps:List (Nat×Nat)):Prop:=∀i j,(i,j)∈ps↔i≤c.t.length∧j≤c.c.length
def Io (c:aq)(ps:List (Nat×Nat)):List PV:=dh c++[.az (a8 (places c) (aZ c)),.az (a8 ps (bwd c)),.int .i64 (aZ c c.t.length c.c.length)]
def sZ (c:aq)(ps:List (Nat×Nat)):PV:=.agg (Io c ps)
theorem Ip {c:aq}(hr:Rt c)(p:aO→Bool):iN (fwd c p):=by rw[← P8];exact Qa hr p _ _
theorem Qp {c:aq}(hr:Rt c):iN (bwd c):=by rw[← Qm];exact Qn hr _ _
def iw (c:aq)(x:aO):Bool:=decide (aZ c x.i x.j+x.n+bwd c x.i' x.j'=aZ c c.t.length c.c.length)
def Ak (s:ai)(x:aO):Bool:=decide (x.s=some s)
theorem B5 {c:aq}{ps:List (Nat×Nat)}(h:Kp c ps){i j:Nat}(hi:i≤c.t.length)(hj:j≤c.c.length)(D:Nat→Nat→Int):kq [.int .i64 i,.int .i64 j] (a8 ps D)=some (some (.int .i64 (D i j))):=by
 have:=vx i j D ps
 rw[if_pos ((h i j).2 ⟨hi,hj⟩)] at this
 exact this
theorem FH (c:aq):Kp c (places c):=fun i j=>xu
section
variable [bE]
theorem Lh (x:aO):aM prog 136 [cP x] fun r=>r=.bool true:=by
 obtain⟨a0,a1,a2,a3,a4,gd⟩:=xA x.s
 rw[xB x gd]
 refine .bV func136 rfl rfl ?_
 refine .sr ?_
 refine .sr ?_
 refine .ret (aH ?_)
 exact zk
theorem Al (c:aq)(hk:bP c=0):aM prog 77 [aK c] fun r=>∃ps,Kp c ps∧r=sZ c ps:=by
 have bq:=j7 hk
 have hC:dh c=(cQ c):=rfl
 have ke:=FF c hk
 have nK:=Fv c (fun _=>true) 136 [] [] hk rfl rfl call136 Lh
 have B6:=Lg c hk
 have hf:=B5 (FH c) (Nat.le_refl _) (Nat.le_refl _) (aZ c)
 rw[show fwd c (fun _=>true)=aZ c from rfl] at nK
 unfold aK at ke nK B6 ⊢
 unfold ik at ke
 rw[hC] at ke nK B6 ⊢
 refine .bV func77 rfl rfl ?_
 refine .sr ?_
 refine .seq (.aD [0,1,2] rfl af (.rn [0] _ ?_))
 refine .pc rfl rfl rfl rfl rfl call135 (nK) ?_
 refine .rn [2] [] ?_
 refine .done (.seq ?_)
 refine .drawn (ms:=[0,0,0,4,0,0,44,124,255,511]) (W:=[3,6,9]) (items:=[.op 0,.op 1,.op 2,.op 4,.op 5,.op 3,.ck 5,.ck 0,.op 6,.ck 0,.op 7,.op 8,.op 9]) rfl af af af ?_
 iterate 5 refine .rx ?_
 refine .wr rfl rfl (by decide) (.pure rfl rfl rfl call137 (by decide) (B6) (by first|rfl|simp[*]) ?_)
 rintro _ ⟨ps,fE,rfl⟩
 refine .ck rfl eM ?_
 refine .ck rfl eM ?_
 refine .wp rfl rfl rfl rfl rfl call78 (ke) ?_
 refine .ck rfl eM ?_
 iterate 2 refine .rx ?_
 refine .wv ?_
 refine .done (.ret (aH ?_))
 exact⟨ps,fE,rfl⟩
theorem Qq (c:aq)(ps:List (Nat×Nat))(x:aO)(hk:bP c=0)(fE:Kp c ps)(i j:Nat)(hx:x∈steps c i j)(hi:i≤c.t.length)(hj:j≤c.c.length):aM prog 80 [sZ c ps,cP x] fun r=>r=.bool (iw c x):=by
 have bq:=j7 hk
 have hC:dh c=(cQ c):=rfl
 obtain⟨a0,a1,a2,a3,a4,gd⟩:=xA x.s
 rw[xB x gd]
 have ib:=jh bq hx
 have h0:=Ip bq (fun _=>true) x.i x.j
 have h1:=Qp bq x.i' x.j'
 have hf:=B5 (FH c) (show x.i≤c.t.length by rw[ib.fi];exact hi) (show x.j≤c.c.length by rw[ib.fj];exact hj) (aZ c)
 have hb:=B5 fE ib.it ib.jt (bwd c)
 have BX:=ib.n0
 have jy:=ib.n1
 unfold iw
 rw[show fwd c (fun _=>true)=aZ c from rfl] at h0
 obtain⟨F,hF⟩:∃F,aZ c x.i x.j=F:=⟨_,rfl⟩
 obtain⟨B,hB⟩:∃B,bwd c x.i' x.j'=B:=⟨_,rfl⟩
 rw[hF] at h0 hf ⊢
 rw[hB] at h1 hb ⊢
 have x6:IntKind.i64.wrap (F+x.n)=F+x.n:=wrap64 (by omega) (by omega)
 have mT:IntKind.i64.wrap (F+x.n+B)=F+x.n+B:=wrap64 (by omega) (by omega)
 unfold sZ Io
 rw[hC]
 clear hk fE hx ib gd h0 h1
 refine .bV func80 rfl rfl ?_
 refine .sr ?_
 refine .seq ?_
 refine .drawn (ms:=[0,1,0,4,15,0,32,127,0,256,0,1024,3840,8191,0,16384,65535,131071]) (W:=[]) (items:=[.op 0,.op 1,.op 2,.op 3,.op 4,.op 5,.op 6,.op 7,.op 8,.op 9,.op 10,.op 11,.op 12,.op 13,.op 14,.op 15,.op 16,.op 17]) rfl af af af ?_
 iterate 18 refine .rx ?_
 refine .done (.ret (aH ?_))
 exact zk
theorem Li (p:aO→Bool)(f:FuncId)(xs ys:List PV)(hx:PV.aG xs=true)(hy:PV.aG ys=true)(dM:∀cs w,(callFunc f cs).run prog w=.ok (.enter f cs) w)(hp:∀x:aO,aM prog f (xs++[cP x]++ys) fun r=>r=.bool (p x))(x:aO):aM prog 140 [cP x,.vp [.func f xs ys]] fun r=>r=.bool (!p x):=by
 obtain⟨a0,a1,a2,a3,a4,gd⟩:=xA x.s
 have pR:=hp x
 rw[xB x gd] at pR ⊢
 have Qd:∀vh,b9 vh xs=some xs:=fun vh=>vz vh hx
 have Qe:∀vh,b9 vh ys=some ys:=fun vh=>vz vh hy
 clear hp
 refine .bV func140 rfl rfl ?_
 refine .sr ?_
 refine .seq (.aD gy rfl af (.rn [0,1] _ ?_))
 refine .step rfl rfl (.pure rfl rfl rfl dM (by decide) (pR) (by first|rfl|simp[*]) ?_)
 rintro _ rfl
 refine .rn [3,4] [] ?_
 refine .done (.ret (aH ?_))
 exact zk
theorem FI (s:ai)(x:aO):aM prog 142 [cP x,.vp [.int .i64 s.k,.int .i64 s.a,.int .i64 s.i,.int .i64 s.l,.int .i64 s.w]] fun r=>r=.bool (Ak s x):=by
 refine .bV func142 rfl rfl ?_
 obtain⟨i,j,i',j',n,s0⟩:=x;rcases s0 with _|s0
 ·
  unfold cP BU Ak
  refine .sr ?_
  refine .seq (.aD ij rfl af (.rn dU _ ?_))
  refine .split (t:=7) rfl (fun c7=>?_) (fun c7=>?_)
  ·try subst c7
   try simp at c7
  try subst c7
  try simp at c7
  refine .rn [4,5,6,7,8,9] [] ?_
  refine .done (.ret (aH ?_))
  exact zk
 ·
  unfold cP BU Ak
  have he:decide ((some s0:Option ai)=some s)=(s0.k==s.k&&s0.a==s.a&&s0.i==s.i&&s0.l==s.l&&s0.w==s.w):=by
   obtain⟨a,b,c,d,e⟩:=s
   obtain⟨a',b',c',d',e'⟩:=s0
   simp only[ax,ai.mk.injEq]
   rw[Bool.eq_iff_iff]
   simp[and_assoc]
  simp only[he]
  refine .sr ?_
  refine .seq (.aD ij rfl af (.rn dU _ ?_))
  refine .split (t:=7) rfl (fun c7=>?_) (fun c7=>?_)
  ·try subst c7
   try simp at c7
   refine .rn [4,5,6,7,8,9] [] ?_
   refine .done (.ret (aH ?_))
   exact zk
  try subst c7
  try simp at c7
theorem Lj (c:aq)(ps:List (Nat×Nat))(p:aO→Bool)(f:FuncId)(xs ys:List PV)(hk:bP c=0)(hx:PV.aG xs=true)(hy:PV.aG ys=true)(dM:∀cs w,(callFunc f cs).run prog w=.ok (.enter f cs) w)(hp:∀x:aO,aM prog f (xs++[cP x]++ys) fun r=>r=.bool (p x)):aM prog 83 [sZ c ps,.func f xs ys] fun r=>r=.bp [.int .i64 (fwd c (fun x=>!p x) c.t.length c.c.length - aZ c c.t.length c.c.length),.bool (decide (fwd c (fun x=>!p x) c.t.length c.c.length<1099511627776))]:=by
 have bq:=j7 hk
 have hC:dh c=(cQ c):=rfl
 have ke:=FF c hk
 have nK:=Fv c (fun x=>!p x) 140 [] [.vp [.func f xs ys]] hk rfl (by simp[PV.aG,PV.aB]) call140 (fun x=>Li p f xs ys hx hy dM hp x)
 have hf:=B5 (FH c) (Nat.le_refl _) (Nat.le_refl _) (fwd c fun x=>!p x)
 have h0:=Ip bq (fun x=>!p x) c.t.length c.c.length
 have h1:=Ip bq (fun _=>true) c.t.length c.c.length
 rw[show fwd c (fun _=>true)=aZ c from rfl] at h1
 have Qd:∀vh,b9 vh xs=some xs:=fun vh=>vz vh hx
 have Qe:∀vh,b9 vh ys=some ys:=fun vh=>vz vh hy
 obtain⟨G,hG⟩:∃G,fwd c (fun x=>!p x)=G:=⟨_,rfl⟩
 rw[hG] at nK hf h0 ⊢
 obtain⟨d,hd⟩:∃d,G c.t.length c.c.length=d:=⟨_,rfl⟩
 rw[hd] at hf h0 ⊢
 obtain⟨e,he⟩:∃e,aZ c c.t.length c.c.length=e:=⟨_,rfl⟩
 rw[he] at h1
 have hw:IntKind.i64.wrap (d - e)=d - e:=wrap64 (by omega) (by omega)
 unfold sZ Io
 rw[he]
 unfold aK at ke nK
 unfold ik at ke
 rw[hC] at ke nK ⊢
 clear hk hp hd hG he h0 h1
 refine .bV func83 rfl rfl ?_
 refine .sr ?_
 refine .seq ?_
 refine .drawn (ms:=[0,1,0,7,0,16,63,127,255]) (W:=[3,6]) (items:=[.op 0,.op 1,.op 2,.op 4,.op 5,.op 3,.ck 5,.op 6,.op 7,.op 8]) rfl af af af ?_
 iterate 5 refine .rx ?_
 refine .wr rfl rfl (by decide) (.FJ rfl rfl rfl call135 (by decide) (by first|(simp<;>rfl)|(simp[*]<;>rfl)|(simp[*];done)) (nK) ?_)
 rintro _ rfl
 refine .ck rfl eM ?_
 refine .wp rfl rfl rfl rfl rfl call78 (ke) ?_
 iterate 2 refine .rx ?_
 refine .done (.sr ?_)
 refine .ret (aH ?_)
 exact zk
end
def nL (c:aq):List aO:=(graph c).filter (iw c)
theorem Qr {i M:Nat}(h:i<M):∃r,List.range M=List.range i++i::r:=by
 obtain⟨d,rfl⟩:∃d,M=i+1+d:=⟨M - i - 1,by omega⟩
 clear h
 induction d with
 |zero=>exact⟨[],by rw[Nat.add_zero,List.range_succ]⟩
 |succ d ih=>obtain⟨r,hr⟩:=ih;exact⟨r++[i+1+d],by rw[← Nat.add_assoc,List.range_succ,hr];simp⟩
theorem Lk (c:aq){i j:Nat}(hi:i≤c.t.length)(hj:j≤c.c.length):∃r,places c=mg (c.c.length+1) i j++(i,j)::r:=by
 obtain⟨r1,h1⟩:=Qr (show i<c.t.length+1 by omega)
 obtain⟨r2,h2⟩:=Qr (show j<c.c.length+1 by omega)
 have hp:places c=(List.range (c.t.length+1)).flatMap (lG (c.c.length+1)):=rfl
 refine⟨r2.map (fun j=>(i,j))++r1.flatMap (lG (c.c.length+1)),?_⟩
 rw[hp,h1,List.flatMap_append,List.flatMap_cons]
 have h3:lG (c.c.length+1) i=lG j i++(i,j)::r2.map fun j=>(i,j):=by unfold lG;rw[h2,List.map_append];rfl
 rw[h3]
 unfold mg
 simp
theorem Ye (c:aq){i j:Nat}(hi:i≤c.t.length)(hj:j≤c.c.length){pre jS:List aO}{x:aO}(hs:steps c i j=pre++x::jS)(hx:iw c x=true):∃r,nL c=rZ c (iw c) i j++pre.filter (iw c)++x::r:=by
 obtain⟨r,hr⟩:=Lk c hi hj
 unfold nL graph rZ
 rw[hr,List.flatMap_append,List.flatMap_cons,List.filter_append,List.filter_append,hs,List.filter_append,List.filter_cons,if_pos hx]
 exact⟨jS.filter (iw c)++(r.flatMap fun p=>steps c p.1 p.2).filter (iw c),by simp only[List.append_assoc,List.cons_append]⟩
def D9 (L:bj):Prop:=bh 900 L=none∧bh 901 L=none
variable [bE] in
theorem Yf (c:aq)(ps:List (Nat×Nat))(hk:bP c=0)(fE:Kp c ps)(f:FuncId)(xs ys:List PV)(dM:∀cs w,(callFunc f cs).run prog w=.ok (.enter f cs) w)(L0:bj)(J:List aO→Nat→bj→Prop)(h0:J [] 900 L0)
  (cE:∀pre n n' L,J pre n L→n≤n'→J pre n' L)
  (qU:∀pre x jS n L,nL c=pre++x::jS→900≤n→J pre n L→Iq prog f (xs++[cP x]++ys) n L fun _ n' L'=>J (pre++[x]) n' L')
  (bC:∀pre n L,J pre n L→900≤n→D9 L→∃L',J pre 1000 L'∧D9 L'∧∀i j:Nat,Wk 900 [(2,.ptr 900 0),(3,.ptr 901 0),(4,.int .i64 i),(11,.int .i64 ((c.t.length:Int)+1)),(12,.int .i64 i),(19,.int .i64 ((c.c.length:Int)+1)),(20,.int .i64 j)] ⟨n,(901,.box [.func f xs ys])::(900,.box (bQ c (.az (a8 (places c) (aZ c))) (.az (a8 ps (bwd c))) (.int .i64 (aZ c c.t.length c.c.length))))::L⟩ [(2,.ptr 900 0),(3,.ptr 901 0),(4,.int .i64 i),(11,.int .i64 ((c.t.length:Int)+1)),(12,.int .i64 i),(19,.int .i64 ((c.c.length:Int)+1)),(20,.int .i64 j)] ⟨1000,(901,.box [.func f xs ys])::(900,.box (bQ c (.az (a8 (places c) (aZ c))) (.az (a8 ps (bwd c))) (.int .i64 (aZ c c.t.length c.c.length))))::L'⟩) :
  cR prog 81 [sZ c ps,.func f xs ys] ⟨900,L0⟩ fun v ak=>∃L',bD L' ak.be∧J (nL c) ak.next L':=by
 have bq:=j7 hk
 have o4:=bq.tl
 have ep:=bq.cl
 have hC:dh c=(cQ c):=rfl
 have x6:IntKind.i64.wrap ((c.t.length:Int)+1)=(c.t.length:Int)+1:=wrap64 (by omega) (by omega)
 have mT:IntKind.i64.wrap ((c.c.length:Int)+1)=(c.c.length:Int)+1:=wrap64 (by omega) (by omega)
 have mh:=fun i j:Nat=>Ie c i j
 have qV:=fun (x:aO) i j hx hi hj=>Qq c ps x hk fE i j hx hi hj
 unfold sZ Io at qV ⊢
 unfold aK ik at mh
 rw[hC] at mh qV ⊢
 refine cR.DC fun jN=>?_
 have kV:D9 L0:=⟨jN _ (by omega),jN _ (by omega)⟩
 have K9:∀x,dm 900 x L0=L0:=fun x=>uf kV.1
 have Ql:∀x,dm 901 x L0=L0:=fun x=>uf kV.2
 clear jN
 refine .bV func81 rfl rfl ?_
 refine .sr ?_
 refine .sr ?_
 refine .block ?_
 refine .FE (fun z:Nat×bj=>([(2,.ptr 900 0),(3,.ptr 901 0),(11,.int .i64 ((c.t.length:Int)+1)),(12,.int .i64 z.1)],⟨1000,(901,.box [.func f xs ys])::(900,.box (bQ c (.az (a8 (places c) (aZ c))) (.az (a8 ps (bwd c))) (.int .i64 (aZ c c.t.length c.c.length))))::z.2⟩)) (fun z=>z.1≤c.t.length+1∧D9 z.2∧J (rZ c (iw c) z.1 0) 1000 z.2) (fun z=>c.t.length+1 - z.1) (0,L0) ⟨by simp,kV,cE _ _ _ _ h0 (by omega)⟩ (.sub eN bG (by first|exact Nat.le_refl _|omega|(simp;done)|(simp;omega))) ?_
 clear kV K9 Ql h0
 rintro⟨i,L1⟩ ⟨hi,kV,hJ⟩
 simp only at hi kV hJ ⊢
 have mz:=kV.1
 have j3:=kV.2
 refine .sr ?_
 refine .seq ?_
 refine .cs ?_ ?_<;>intro pW
 ·try simp at pW
  have eP:=fy i
  have oh:i≤c.t.length:=by omega
  refine .skip (.seq (.block (.sr ?_)))
  refine .sr ?_
  refine .block ?_
  refine .FE (fun z:Nat×bj=>([(2,.ptr 900 0),(3,.ptr 901 0),(4,.int .i64 i),(11,.int .i64 ((c.t.length:Int)+1)),(12,.int .i64 i),(19,.int .i64 ((c.c.length:Int)+1)),(20,.int .i64 z.1)],⟨1000,(901,.box [.func f xs ys])::(900,.box (bQ c (.az (a8 (places c) (aZ c))) (.az (a8 ps (bwd c))) (.int .i64 (aZ c c.t.length c.c.length))))::z.2⟩)) (fun z=>z.1≤c.c.length+1∧D9 z.2∧J (rZ c (iw c) i z.1) 1000 z.2) (fun z=>c.c.length+1 - z.1) (0,L1) ⟨by simp,kV,hJ⟩ (.sub eN bG (by first|exact Nat.le_refl _|omega|(simp;done)|(simp;omega))) ?_
  clear kV mz j3 hJ
  rintro⟨j,L1⟩ ⟨hj,kV,hJ⟩
  simp only at hj kV hJ ⊢
  have mz:=kV.1
  have j3:=kV.2
  refine .sr ?_
  refine .seq ?_
  refine .cs ?_ ?_<;>intro dG
  ·try simp at dG
   have rV:=fy j
   have nI:j≤c.c.length:=by omega
   have mh:=mh i j
   refine .skip (.seq (.block (.sr ?_)))
   refine .seq (.aD jR rfl af (.rn gy _ ?_))
   refine .pc rfl rfl rfl rfl rfl call79 (mh) ?_
   refine .done (.block ?_)
   refine .wk (ay:=(28,.func 138 [] [.vp [.int .i64 i,.int .i64 j],.vp (dh c)])::[(2,.ptr 900 0),(3,.ptr 901 0),(4,.int .i64 i),(11,.int .i64 ((c.t.length:Int)+1)),(12,.int .i64 i),(19,.int .i64 ((c.c.length:Int)+1)),(20,.int .i64 j)]) (aQ:=⟨1000,(901,.box [.func f xs ys])::(900,.box (bQ c (.az (a8 (places c) (aZ c))) (.az (a8 ps (bwd c))) (.int .i64 (aZ c c.t.length c.c.length))))::L1⟩) (.sub eN bG (by first|exact Nat.le_refl _|omega|(simp;done)|(simp;omega))) ?_
   refine K8 c i j _ (fun pre n L=>∃Lw,L=(901,.box [.func f xs ys])::(900,.box (bQ c (.az (a8 (places c) (aZ c))) (.az (a8 ps (bwd c))) (.int .i64 (aZ c c.t.length c.c.length))))::Lw∧D9 Lw∧J (rZ c (iw c) i j++pre.filter (iw c)) n Lw) (fun _ _ _=>False) hk oh nI ⟨L1,rfl,kV,by simpa using hJ⟩ rfl (by decide) rfl (fun pre n n' L ⟨Lw,h1,h2,h3⟩ h=>⟨Lw,h1,h2,cE _ _ _ _ h3 h⟩) ?_ ?_ (fun _ _ h=>h.elim) (fun _ _ _ h=>h.elim)
   ·skip
    clear kV mz j3 hJ
    rintro pre x jS n _ im hn ⟨Lw,rfl,kV,hJ⟩
    have hx:x∈steps c i j:=by rw[im];simp
    have qV:=qV x i j hx oh nI
    have vE:=fun ht:iw c x=true=>Ye c oh nI im ht
    have vF:(pre++[x]).filter (iw c)=pre.filter (iw c)++if iw c x=true then [x] else []:=by rw[List.filter_append,List.filter_cons,List.filter_nil]
    obtain⟨m,rfl⟩:∃m,n=m+1000:=⟨n - 1000,by omega⟩
    refine VW.DC fun hf=>?_
    have Bq:bh (m+1000) Lw=none:=vB (vB (hf _ (Nat.le_refl _)))
    have mz:=kV.1
    have j3:=kV.2
    have qpn:∀x,dm (m+1000) x Lw=Lw:=fun x=>uf Bq
    obtain⟨a0,a1,a2,a3,a4,gd⟩:=xA x.s
    have Ir:∀r,nL c=rZ c (iw c) i j++pre.filter (iw c)++x::r→_:=fun r hr=>qU _ x r (m+1001) Lw hr (by omega) (cE _ _ _ _ hJ (by omega))
    rw[xB x gd] at qV Ir ⊢
    obtain⟨tb,FK⟩:∃b,iw c x=b:=⟨_,rfl⟩
    rw[FK] at qV vE vF
    clear hf im hx gd qU bC
    refine .rn ?_
    refine .block (.seq (.aD [0,1,2] rfl af (.rn [0,1] _ ?_)))
    refine .pc rfl rfl rfl rfl rfl call80 (qV) ?_
    refine .done ?_
    refine .cs ?_ ?_<;>intro eX
    ·try simp at eX
     obtain⟨r,hr⟩:=vE eX
     have Ir:=(Ir r hr).Ll (S:=[(m+1000,.box [.int .i64 x.i,.int .i64 x.j,.int .i64 x.i',.int .i64 x.j',.int .i64 a0,.int .i64 a1,.int .i64 a2,.int .i64 a3,.int .i64 a4,.int .i64 x.n,.bool x.s.isNone]),(901,.box [.func f xs ys]),(900,.box (bQ c (.az (a8 (places c) (aZ c))) (.az (a8 ps (bwd c))) (.int .i64 (aZ c c.t.length c.c.length))))]) B3
     refine .aD [0,1,2] rfl af (.rn [0,1] _ ?_)
     refine .step rfl rfl (.call rfl rfl rfl dM (by decide) (((Ir)).mono ?_))
     rintro v _ ⟨n',L',mN,fZ,hK,rfl⟩
     refine .done ?_
     refine⟨none,(901,.box [.func f xs ys])::(900,.box (bQ c (.az (a8 (places c) (aZ c))) (.az (a8 ps (bwd c))) (.int .i64 (aZ c c.t.length c.c.length))))::L',rfl,?_,?_,?_⟩
     ·have e0:bh (m+1000) L'=none:=fZ _ (by omega) Bq
      exact bD.skip (by simp[*]) (bD.refl _)
     ·refine jj.fR rfl (jj.fR rfl ?_)
      intro q hq JU
      exact fZ q (by omega) (vB (vB JU))
     show ∃Lw,_=_∧_
     exact⟨L',rfl,⟨fZ _ (by omega) mz,fZ _ (by omega) j3⟩,by rw[vF,if_pos eX,← List.append_assoc];exact hK⟩
    try simp at eX
    refine .skip ?_
    refine⟨none,(901,.box [.func f xs ys])::(900,.box (bQ c (.az (a8 (places c) (aZ c))) (.az (a8 ps (bwd c))) (.int .i64 (aZ c c.t.length c.c.length))))::Lw,rfl,?_,jj.refl _ _,?_⟩
    ·exact bD.skip (by simp[*]) (bD.refl _)
    show ∃Lw,_=_∧_
    exact⟨Lw,rfl,kV,by rw[vF,if_neg (by rw[eX];simp),List.append_nil];exact cE _ _ _ _ hJ (by simp)⟩
   skip
   clear kV mz j3 hJ
   rintro n _ hn ⟨Lw,rfl,kV,hJ⟩
   obtain⟨L2,Qt,oO,yF⟩:=bC _ n Lw hJ (by omega) kV
   rw[← Yg] at Qt
   refine .wk (.trans (.sub (ay:=[(2,.ptr 900 0),(3,.ptr 901 0),(4,.int .i64 i),(11,.int .i64 ((c.t.length:Int)+1)),(12,.int .i64 i),(19,.int .i64 ((c.c.length:Int)+1)),(20,.int .i64 j)]) eN (bD.refl _) (Nat.le_refl _)) (yF i j)) ?_
   refine .rn ?_
   refine⟨(j+1,L2),⟨by simp only;omega,oO,Qt⟩,by simp only;omega,(.sub eN bG (by first|exact Nat.le_refl _|omega|(simp;done)|(simp;omega)))⟩
  try simp at dG
  obtain rfl:j=c.c.length+1:=by omega
  refine .exit (.rn ?_)
  refine⟨(i+1,L1),⟨by simp only;omega,kV,by simp only[← Yh];exact hJ⟩,by simp only;omega,(.sub eN bG (by first|exact Nat.le_refl _|omega|(simp;done)|(simp;omega)))⟩
 try simp at pW
 obtain rfl:i=c.t.length+1:=by omega
 refine .exit ?_
 exact⟨_,rfl,L1,bD.skip j3 (bD.skip mz (bD.refl _)),by rw[Yi] at hJ;exact hJ⟩
theorem s4 (c:aq)(ps:List (Nat×Nat)):sZ c ps=.agg (bQ c (.az (a8 (places c) (aZ c))) (.az (a8 ps (bwd c))) (.int .i64 (aZ c c.t.length c.c.length))):=rfl
def B7 (c:aq)(s:ai):Option Int:=match aR c s with
 |some (n,i',w)=>if hasB c s.i.toNat w then some (aZ c s.a.toNat s.i.toNat+n+bwd c i' (s.i.toNat+w.length) - aZ c c.t.length c.c.length) else none
 |none=>none
def uj (c:aq)(s:ai):Int:=fwd c (fun x=>!Ak s x) c.t.length c.c.length
theorem Yj {c:aq}{j:Nat}{l:List Int}(h:hasB c j l=true):j+l.length≤c.c.length:=by unfold hasB at h;rw[bR,decide_eq_true_eq] at h;exact h.1
theorem Qu {c:aq}{s:ai}{n:Int}{i':Nat}{w:List Int}(h:aR c s=some (n,i',w)):0≤s.a∧s.a≤(c.t.length:Int)∧0≤s.i:=by
 unfold aR at h
 split at h
 ·rename_i hh;exact hh
 cases h
theorem Qv {c:aq}(hr:Rt c):iN (aZ c):=Ip hr _
theorem Yk (c:aq)(s:ai):bP c≠0∨(bP c=0∧aR c s=none∧B7 c s=none)∨(bP c=0∧∃n i' w,aR c s=some (n,i',w)∧hasB c s.i.toNat w=false∧B7 c s=none)∨
  (bP c=0∧∃n i' w,aR c s=some (n,i',w)∧hasB c s.i.toNat w=true∧B7 c s=some (aZ c s.a.toNat s.i.toNat+n+bwd c i' (s.i.toNat+w.length) - aZ c c.t.length c.c.length)):=by
 by_cases hk:bP c=0
 ·refine .inr ?_
  unfold B7
  rcases hd:aR c s with _|⟨n,i',w⟩
  ·exact .inl ⟨hk,rfl,rfl⟩
  refine .inr ?_
  cases hb:hasB c s.i.toNat w
  ·exact .inl ⟨hk,n,i',w,rfl,hb,by simp[hb]⟩
  exact .inr ⟨hk,n,i',w,rfl,hb,by simp[hb]⟩
 exact .inl hk
section
variable [bE]
theorem Qw (c:aq)(hB:BC c):aM prog 43 [aK c] fun r=>r=.bp [.int .i64 (if bP c=0 then aZ c c.t.length c.c.length else 0),.int .i64 (bP c)]:=by
 have eE:=yE c hB
 have fP:=Al c
 have hC:dh c=(cQ c):=rfl
 obtain⟨e,he⟩:∃e,bP c=e:=⟨_,rfl⟩
 rw[he] at eE fP ⊢
 unfold aK at eE fP ⊢
 rw[hC] at eE fP ⊢
 refine .bV func43 rfl rfl ?_
 refine .sr ?_
 refine .seq (.seq (.aD [0,1,2] rfl af (.rn [0] _ ?_)))
 refine .pc rfl rfl rfl rfl rfl call55 (eE) ?_
 refine .rn [2] [] ?_
 refine .done (.sr ?_)
 refine .cs ?_ ?_<;>intro c8
 ·try simp at c8
  refine .sr ?_
  refine .ret (aH ?_)
  exact zk
 try simp at c8
 subst c8
 refine .skip (.seq (.aD gy rfl af (.rn [0] _ ?_)))
 refine .step rfl rfl (.pure rfl rfl rfl call77 (by decide) (fP rfl) (by first|rfl|simp[*]) ?_)
 rintro _ ⟨ps,fE,rfl⟩
 rw[s4]
 refine .rn [2,3,4] [] ?_
 refine .done (.ret (aH ?_))
 exact zk
theorem Qx (s:ai):aM prog 89 [encS s] fun r=>r=.func 142 [] [.vp [.int .i64 s.k,.int .i64 s.a,.int .i64 s.i,.int .i64 s.l,.int .i64 s.w]]:=by
 unfold encS
 refine .bV func89 rfl rfl ?_
 refine .sr ?_
 refine .sr ?_
 refine .ret (aH ?_)
 exact zk
theorem Yl (c:aq)(s:ai)(hB:BC c):aM prog 30 [aK c,encS s] fun r=>r=.bp [.int .i64 (if bP c=0 then (B7 c s).getD 0 else 0),.int .i64 (if bP c=0 then (if B7 c s=none then 5 else 0) else bP c)]:=by
 have eE:=yE c hB
 have fP:=Al c
 have db:=Ff c s
 have hC:dh c=(cQ c):=rfl
 have hE:encS s=.agg [.int .i64 s.k,.int .i64 s.a,.int .i64 s.i,.int .i64 s.l,.int .i64 s.w]:=rfl
 unfold aK at eE fP db ⊢
 rw[hE] at db ⊢
 rw[hC] at eE fP db ⊢
 refine .bV func30 rfl rfl ?_
 rcases Yk c s with hk|⟨hk,hd,hm⟩|⟨hk,n,i',w,hd,hb,hm⟩|⟨hk,n,i',w,hd,hb,hm⟩
 ·
  rw[if_neg hk,if_neg hk]
  obtain⟨e,he⟩:∃e,bP c=e:=⟨_,rfl⟩
  rw[he] at eE hk ⊢
  refine .sr ?_
  refine .seq (.seq (.aD [0,1,2] rfl af (.rn [0] _ ?_)))
  refine .pc rfl rfl rfl rfl rfl call55 (eE) ?_
  refine .rn [2] [] ?_
  refine .done (.sr ?_)
  refine .cs ?_ ?_<;>intro cq
  ·try simp at cq
   refine .sr ?_
   refine .ret (aH ?_)
   exact zk
  try simp at cq
  exact absurd cq hk
 ·
  rw[if_pos hk,if_pos hk,hm,if_pos rfl]
  rw[hk] at eE
  have db:=db hk
  rw[Ah hd] at db
  unfold ik at db
  refine .sr ?_
  refine .seq (.seq (.aD [0,1,2] rfl af (.rn [0] _ ?_)))
  refine .pc rfl rfl rfl rfl rfl call55 (eE) ?_
  refine .rn [2] [] ?_
  refine .done (.sr ?_)
  refine .cs ?_ ?_<;>intro cq
  ·try simp at cq
  try simp at cq
  refine .skip (.seq (.aD j5 rfl af (.rn [0,1] _ ?_)))
  refine .pc rfl rfl rfl rfl rfl call95 (db) ?_
  refine .rn [3,4,5,6,7,8,9,10,11,12] [] ?_
  refine .done (.seq (.seq (.aD ij rfl af ?_)))
  refine .rn [0,1,2] _ ?_
  refine .split (t:=27) rfl (fun eZ=>?_) (fun eZ=>?_)
  ·try subst eZ
   try simp at eZ
   refine .rn [3,4,5,6,7,8,9] [] ?_
   refine .done (.eK rfl (.sr ?_))
   refine .ret (aH ?_)
   exact zk
  try subst eZ
  try simp at eZ
 ·
  rw[if_pos hk,if_pos hk,hm,if_pos rfl]
  rw[hk] at eE
  have db:=db hk
  rw[yI hd] at db
  unfold ik at db
  have bq:=j7 hk
  have mP:=Qu hd
  have ss:=(mf bq hd).2.2.2.2.2
  have kr:=sQ c w s.i.toNat bq.cl (by omega)
  rw[hb,Int.toNat_of_nonneg mP.2.2] at kr
  unfold aK at kr
  rw[hC] at kr
  refine .sr ?_
  refine .seq (.seq (.aD [0,1,2] rfl af (.rn [0] _ ?_)))
  refine .pc rfl rfl rfl rfl rfl call55 (eE) ?_
  refine .rn [2] [] ?_
  refine .done (.sr ?_)
  refine .cs ?_ ?_<;>intro cq
  ·try simp at cq
  try simp at cq
  refine .skip (.seq (.aD j5 rfl af (.rn [0,1] _ ?_)))
  refine .pc rfl rfl rfl rfl rfl call95 (db) ?_
  refine .rn [3,4,5,6,7,8,9,10,11,12] [] ?_
  refine .done (.seq (.seq (.aD ij rfl af ?_)))
  refine .rn [0,1,2] _ ?_
  refine .split (t:=27) rfl (fun eZ=>?_) (fun eZ=>?_)
  ·try subst eZ
   try simp at eZ
  try subst eZ
  try simp at eZ
  refine .rn [3,4,5,6] _ ?_
  refine .pc rfl rfl rfl rfl rfl call96 (kr) ?_
  refine .rn [8,9] [] ?_
  refine .done ?_
  refine .cs ?_ ?_<;>intro na
  ·try simp at na
   refine .sr ?_
   refine .ret (aH ?_)
   exact zk
  try simp at na
 ·
  rw[if_pos hk,if_pos hk,hm,if_neg (by simp)]
  rw[hk] at eE
  have db:=db hk
  rw[yI hd] at db
  unfold ik at db
  have bq:=j7 hk
  have mP:=Qu hd
  have im:=mf bq hd
  have ss:=im.2.2.2.2.2
  have Lm:=im.2.2.2.1
  have hn:=im.1
  have kr:=sQ c w s.i.toNat bq.cl (by omega)
  rw[hb,Int.toNat_of_nonneg mP.2.2] at kr
  unfold aK at kr
  rw[hC] at kr
  have hle:=Yj hb
  have ep:=bq.cl
  obtain⟨i,hi⟩:∃i,s.a.toNat=i:=⟨_,rfl⟩
  obtain⟨j,hj⟩:∃j,s.i.toNat=j:=⟨_,rfl⟩
  obtain⟨j1,dN⟩:∃j1,j+w.length=j1:=⟨_,rfl⟩
  have qP:s.a=(i:Int):=by omega
  have Is:s.i=(j:Int):=by omega
  have vy:IntKind.i64.wrap (s.i+w.length)=(j1:Int):=by rw[Is,wrap64 (by omega) (by omega)];omega
  rw[vy] at db
  rw[hi,hj,dN]
  rw[hj,dN] at hle
  have fP:=fP hk
  have kQ:=Qv bq c.t.length c.c.length
  have jN:=Qv bq i j
  have Ym:=Qp bq i' j1
  have hf:=B5 (FH c) (show i≤c.t.length by omega) (show j≤c.c.length by omega) (aZ c)
  have Ln:=fun (ps:List (Nat×Nat)) (fE:Kp c ps)=>B5 fE Lm hle (bwd c)
  obtain⟨F,hF⟩:∃F,aZ c i j=F:=⟨_,rfl⟩
  obtain⟨B,Lo⟩:∃B,bwd c i' j1=B:=⟨_,rfl⟩
  obtain⟨Z,hZ⟩:∃Z,aZ c c.t.length c.c.length=Z:=⟨_,rfl⟩
  rw[hF] at hf jN ⊢
  rw[Lo] at Ym ⊢
  simp only[Lo] at Ln
  rw[hZ] at kQ ⊢
  have x6:IntKind.i64.wrap (F+n)=F+n:=wrap64 (by omega) (by omega)
  have mT:IntKind.i64.wrap (F+n+B)=F+n+B:=wrap64 (by omega) (by omega)
  have eP:IntKind.i64.wrap (F+n+B - Z)=F+n+B - Z:=wrap64 (by omega) (by omega)
  rw[qP,Is] at db ⊢
  rw[Is] at kr
  clear hd hm ss hi hj dN vy qP Is hF Lo im mP hb hE
  refine .sr ?_
  refine .seq (.seq (.aD [0,1,2] rfl af (.rn [0] _ ?_)))
  refine .pc rfl rfl rfl rfl rfl call55 (eE) ?_
  refine .rn [2] [] ?_
  refine .done (.sr ?_)
  refine .cs ?_ ?_<;>intro cq
  ·try simp at cq
  try simp at cq
  refine .skip (.seq (.aD j5 rfl af (.rn [0,1] _ ?_)))
  refine .pc rfl rfl rfl rfl rfl call95 (db) ?_
  refine .rn [3,4,5,6,7,8,9,10,11,12] [] ?_
  refine .done (.seq (.seq (.aD ij rfl af ?_)))
  refine .rn [0,1,2] _ ?_
  refine .split (t:=27) rfl (fun eZ=>?_) (fun eZ=>?_)
  ·try subst eZ
   try simp at eZ
  try subst eZ
  try simp at eZ
  refine .rn [3,4,5,6] _ ?_
  refine .pc rfl rfl rfl rfl rfl call96 (kr) ?_
  refine .rn [8,9] [] ?_
  refine .done ?_
  refine .cs ?_ ?_<;>intro na
  ·try simp at na
  try simp at na
  refine .skip (.seq (.aD dU rfl af (.rn [0] _ ?_)))
  refine .step rfl rfl (.pure rfl rfl rfl call77 (by decide) (fP) (by first|rfl|simp[*]) ?_)
  rintro _ ⟨ps,fE,rfl⟩
  have Ln:=Ln ps fE
  rw[s4,hZ]
  refine .rn [2,3] [] ?_
  refine .done (.seq ?_)
  refine .drawn (ms:=[0,1,0,4,0,16,60,127,0,511,0,1024,0,7168,16383,0,32768,131071,262143,524287]) (W:=[]) (items:=Fj) rfl af af af ?_
  iterate 20 refine .rx ?_
  refine .done (.ret (aH ?_))
  exact zk
theorem Yn (c:aq)(s:ai)(hB:BC c):aM prog 32 [aK c,encS s] fun r=>r=.bp [.int .i64 (if bP c=0 then (if uj c s<1099511627776 then uj c s - aZ c c.t.length c.c.length else 0) else 0),.int .i64 (if bP c=0 then (if uj c s<1099511627776 then 0 else 5) else bP c)]:=by
 have eE:=yE c hB
 have fP:=Al c
 have FL:=Qx s
 have ot:=fun ps hk=>Lj c ps (Ak s) 142 [] [.vp [.int .i64 s.k,.int .i64 s.a,.int .i64 s.i,.int .i64 s.l,.int .i64 s.w]] hk rfl (by simp[PV.aG,PV.aB]) call142 (fun x=>FI s x)
 have hC:dh c=(cQ c):=rfl
 have hE:encS s=.agg [.int .i64 s.k,.int .i64 s.a,.int .i64 s.i,.int .i64 s.l,.int .i64 s.w]:=rfl
 simp only[show fwd c (fun x=>!Ak s x) c.t.length c.c.length=uj c s from rfl,s4] at ot
 obtain⟨wo,DE⟩:∃w,uj c s=w:=⟨_,rfl⟩
 simp only[DE] at ot ⊢
 obtain⟨e,he⟩:∃e,bP c=e:=⟨_,rfl⟩
 obtain⟨lt,aU⟩:∃b,decide (wo<1099511627776)=b:=⟨_,rfl⟩
 rw[he] at eE fP ot ⊢
 simp only[aU] at ot
 unfold aK at eE fP ⊢
 rw[hE] at FL ⊢
 rw[hC] at eE fP ⊢
 clear hE
 refine .bV func32 rfl rfl ?_
 refine .sr ?_
 refine .seq (.seq (.aD [0,1,2] rfl af (.rn [0] _ ?_)))
 refine .pc rfl rfl rfl rfl rfl call55 (eE) ?_
 refine .rn [2] [] ?_
 refine .done (.sr ?_)
 refine .cs ?_ ?_<;>intro uk
 ·try simp at uk
  refine .sr ?_
  refine .ret (aH ?_)
  simp[uk]
 try simp at uk
 subst uk
 refine .skip (.seq ?_)
 refine .drawn (ms:=[0,1,0,7,15,31,63,63,127,511]) (W:=[1,3,4]) (items:=[.op 0,.op 2,.op 1,.ck 2,.op 3,.op 4,.op 5,.op 6,.op 7,.op 8,.op 9]) rfl af af af ?_
 iterate 2 refine .rx ?_
 refine .wr rfl rfl (by decide) (.pure rfl rfl rfl call77 (by decide) (fP rfl) (by first|rfl|simp[*]) ?_)
 rintro _ ⟨ps,fE,rfl⟩
 have ot:=ot ps rfl
 rw[s4]
 refine .ck rfl eM ?_
 refine .wp rfl rfl rfl rfl rfl call89 (FL) ?_
 refine .wp rfl rfl rfl rfl rfl call83 (ot) ?_
 iterate 5 refine .rx ?_
 refine .done (.seq (.sr ?_))
 refine .cs ?_ ?_<;>intro fO
 ·try simp at fO
  refine .sr ?_
  refine .ret (aH ?_)
  simp[fO] at aU;simp[show ¬wo<1099511627776 by omega]
 try simp at fO
 refine .skip (.sr ?_)
 refine .ret (aH ?_)
 simp[fO] at aU;simp[aU]
theorem Yo (i:Nat)(x:aO):aM prog 84 [cP x,.vp [.int .i64 i]] fun r=>r=.bool (decide (x.s=none∧x.i=i)):=by
 obtain⟨a0,a1,a2,a3,a4,gd⟩:=xA x.s
 rw[xB x gd]
 obtain⟨b,hb⟩:∃b,x.s.isNone=b:=⟨_,rfl⟩
 have cK:x.s=none↔b=true:=by rw[← hb];cases x.s<;>simp
 rw[hb]
 simp only[cK]
 clear hb cK gd
 refine .bV func84 rfl rfl ?_
 refine .sr ?_
 refine .seq (.aD ij rfl af (.rn [0,1,2] _ ?_))
 refine .split (t:=6) rfl (fun c6=>?_) (fun c6=>?_)
 ·try subst c6
  try simp at c6
  refine .rn [3,4,5,6,7,8,9] [] ?_
  refine .done (.ret (aH ?_))
  show PV.bool _=PV.bool _
  congr 1
  rw[Bool.eq_iff_iff]
  simp
  omega
 try subst c6
 try simp at c6
 refine .rn [3,4,5,6,7,8,9] [] ?_
 refine .done (.ret (aH ?_))
 rfl
theorem Yp (c:aq)(ps:List (Nat×Nat))(hk:bP c=0)(i j i' j':Nat)(n:Int)(s:ai):aM prog 88 [sZ c ps,cP ⟨i,j,i',j',n,some s⟩] fun r=>r=.bool (Bool.or (!decide (uj c s<1099511627776)) (decide (0<uj c s - aZ c c.t.length c.c.length))):=by
 have FL:=Qx s
 have ot:=Lj c ps (Ak s) 142 [] [.vp [.int .i64 s.k,.int .i64 s.a,.int .i64 s.i,.int .i64 s.l,.int .i64 s.w]] hk rfl (by simp[PV.aG,PV.aB]) call142 (fun x=>FI s x)
 have hE:encS s=.agg [.int .i64 s.k,.int .i64 s.a,.int .i64 s.i,.int .i64 s.l,.int .i64 s.w]:=rfl
 rw[show fwd c (fun x=>!Ak s x) c.t.length c.c.length=uj c s from rfl] at ot
 obtain⟨wo,DE⟩:∃w,uj c s=w:=⟨_,rfl⟩
 obtain⟨z,hz⟩:∃w,aZ c c.t.length c.c.length=w:=⟨_,rfl⟩
 obtain⟨lt,aU⟩:∃b,decide (wo<1099511627776)=b:=⟨_,rfl⟩
 rw[s4] at ot ⊢
 rw[DE,hz,aU] at ot ⊢
 rw[hE] at FL
 unfold cP BU
 clear hE aU DE
 refine .bV func88 rfl rfl ?_
 refine .sr ?_
 refine .seq ?_
 refine .drawn (ms:=[0,0,2,6,15,31,63,63,127,511]) (W:=[3,4]) (items:=[.op 0,.op 1,.op 2,.op 3,.ck 0,.op 4,.op 5,.op 6,.op 7,.op 8,.op 9]) rfl af af af ?_
 iterate 3 refine .rx ?_
 refine .wp rfl rfl rfl rfl rfl call89 (FL) ?_
 refine .ck rfl eM ?_
 refine .wp rfl rfl rfl rfl rfl call83 (ot) ?_
 iterate 5 refine .rx ?_
 refine .done (.seq (.aD iJ rfl af ?_))
 refine .rn [0,1,2] _ ?_
 refine .split (t:=17) rfl (fun gW=>?_) (fun gW=>?_)
 ·try subst gW
  try simp at gW
  refine .rn [3,4,5,6] [] ?_
  refine .done (.ret (aH ?_))
  exact zk
 try subst gW
 try simp at gW
 refine .rn [3,4,5,6] [] ?_
 refine .done (.ret (aH ?_))
 exact zk
theorem Yq (c:aq)(ps:List (Nat×Nat))(x:aO):aM prog 94 [sZ c ps,cP x] fun r=>r=.bool true:=by
 obtain⟨a0,a1,a2,a3,a4,gd⟩:=xA x.s
 rw[xB x gd,s4]
 refine .bV func94 rfl rfl ?_
 refine .sr ?_
 refine .sr ?_
 refine .ret (aH ?_)
 exact zk
theorem yU (c:aq)(ps:List (Nat×Nat))(hk:bP c=0)(fE:Kp c ps)(f:FuncId)(xs ys:List PV)(dM:∀cs w,(callFunc f cs).run prog w=.ok (.enter f cs) w)(L0:bj)(J:List aO→Nat→bj→Prop)(h0:J [] 900 L0)
  (cE:∀pre n n' L,J pre n L→n≤n'→J pre n' L)
  (qU:∀pre x jS n L,nL c=pre++x::jS→900≤n→J pre n L→Iq prog f (xs++[cP x]++ys) n L fun _ n' L'=>J (pre++[x]) n' L')
  (bC:∀pre n L,J pre n L→900≤n→D9 L→∃L',J pre 1000 L'∧D9 L'∧∀i j:Nat,Wk 900 [(2,.ptr 900 0),(3,.ptr 901 0),(4,.int .i64 i),(11,.int .i64 ((c.t.length:Int)+1)),(12,.int .i64 i),(19,.int .i64 ((c.c.length:Int)+1)),(20,.int .i64 j)] ⟨n,(901,.box [.func f xs ys])::(900,.box (bQ c (.az (a8 (places c) (aZ c))) (.az (a8 ps (bwd c))) (.int .i64 (aZ c c.t.length c.c.length))))::L⟩ [(2,.ptr 900 0),(3,.ptr 901 0),(4,.int .i64 i),(11,.int .i64 ((c.t.length:Int)+1)),(12,.int .i64 i),(19,.int .i64 ((c.c.length:Int)+1)),(20,.int .i64 j)] ⟨1000,(901,.box [.func f xs ys])::(900,.box (bQ c (.az (a8 (places c) (aZ c))) (.az (a8 ps (bwd c))) (.int .i64 (aZ c c.t.length c.c.length))))::L'⟩) :
  cR prog 81 [sZ c ps,.func f xs ys] ⟨900,L0⟩ fun v ak=>∃n L',J (nL c) n L'∧ak=⟨n,L'⟩:=
 (Yf c ps hk fE f xs ys dM L0 J h0 cE qU bC).post fun v b6 ⟨L',h1,h2⟩=>⟨⟨b6.next,L'⟩,h1,Nat.le_refl _,_,L',h2,rfl⟩
end
def qW (D:Nat→Nat→Int)(x:aO):Nat→Nat→Int:=bu D x.i' x.j' (min 1073741824 (D x.i' x.j'+D x.i x.j))
def mA:Nat→Nat→Int:=bu (fun _ _=>0) 0 0 1
def vG (c:aq):Int:=(nL c).foldl qW mA c.t.length c.c.length
def Z0 (ks:List (Nat×Nat))(D:Nat→Nat→Int):Prop:=(∀i j,(i,j)∉ks→D i j=0)∧∀i j,0≤D i j∧D i j≤1073741824
theorem Lq {ks:List (Nat×Nat)}{D:Nat→Nat→Int}(h:Z0 ks D)(i j:Nat):(∃d,D i j=d∧0≤d∧d≤1073741824∧kq [.int .i64 i,.int .i64 j] (a8 ks D)=some (some (.int .i64 d)))∨(D i j=0∧kq [.int .i64 i,.int .i64 j] (a8 ks D)=some none):=by
 have hf:=vx i j D ks
 by_cases hm:(i,j)∈ks
 ·rw[if_pos hm] at hf;exact .inl ⟨D i j,rfl,(h.2 i j).1,(h.2 i j).2,hf⟩
 rw[if_neg hm] at hf;exact .inr ⟨h.1 i j hm,hf⟩
theorem It {ks:List (Nat×Nat)}{D:Nat→Nat→Int}(h:Z0 ks D)(i j:Nat){v:Int}(h0:0≤v)(h1:v≤1073741824):∃qX,Z0 qX (bu D i j v)∧o7 [.int .i64 i,.int .i64 j] [.int .i64 i,.int .i64 j] (.int .i64 v) (a8 ks D)=some (a8 qX (bu D i j v)):=by
 have hb:∀a b,0≤bu D i j v a b∧bu D i j v a b≤1073741824:=fun a b=>by
  unfold bu;split
  ·exact⟨h0,h1⟩
  exact h.2 a b
 by_cases hm:(i,j)∈ks
 ·refine⟨ks,⟨fun a b jF=>?_,hb⟩,Fq hm v⟩
  unfold bu;split
  ·rename_i hh;exact absurd (by rw[hh.1,hh.2];exact hm) jF
  exact h.1 a b jF
 refine⟨ks++[(i,j)],⟨fun a b jF=>?_,hb⟩,Fu hm v⟩
 rw[List.mem_append,List.mem_singleton,bI,not_or] at jF
 unfold bu;rw[if_neg jF.2];exact h.1 a b jF.1
section
variable [bE]
theorem Lr (c:aq)(n:Nat)(ks:List (Nat×Nat))(D:Nat→Nat→Int)(x:aO)(hn:900≤n)(hz:Z0 ks D):cR prog 106 [cP x,.ptr 2 0] ⟨n,[(2,.box [.aY 1]),(1,.map (a8 (ks) (D))),(0,.box (cQ c))]⟩ fun v ak=>∃qX,Z0 qX (qW D x)∧bD [(2,.box [.aY 1]),(1,.map (a8 (qX) (qW D x))),(0,.box (cQ c))] ak.be∧n≤ak.next:=by
 obtain⟨a0,a1,a2,a3,a4,gd⟩:=xA x.s
 rw[xB x gd]
 obtain⟨m,rfl⟩:∃m,n=m+900:=⟨n - 900,by omega⟩
 have gR:qW D x=bu D x.i' x.j' (min 1073741824 (D x.i' x.j'+D x.i x.j)):=rfl
 clear gd
 refine .bV func106 rfl rfl ?_
 rcases Lq hz x.i' x.j' with⟨d0,e0,xC,h01,jN⟩|⟨e0,jN⟩<;>rcases Lq hz x.i x.j with⟨d1,e1,qY,h11,xy⟩|⟨e1,xy⟩
 ·
  rw[e0,e1] at gR
  have hm:(if d0+d1<1073741824 then d0+d1 else 1073741824)=min 1073741824 (d0+d1):=by split<;>omega
  have hw:IntKind.i64.wrap (d0+d1)=d0+d1:=wrap64 (by omega) (by omega)
  obtain⟨qX,iC,sU⟩:=It hz x.i' x.j' (v:=min 1073741824 (d0+d1)) (by omega) (by omega)
  rw[← gR] at iC
  refine .sr ?_
  refine .drawn (ms:=[0,0,2,0,0,16,56,0,0,256,896,2040,4088,8191]) (W:=[13]) (items:=xr) rfl af af af ?_
  iterate 13 refine .rx ?_
  refine .wv ?_
  refine .done ?_
  refine⟨_,gj,qX,iC,?_,by simp⟩
  rw[gR]
  exact bG
 ·
  rw[e0,e1,Int.add_zero] at gR
  have hm:(if d0<1073741824 then d0 else 1073741824)=min 1073741824 d0:=by split<;>omega
  have hw:IntKind.i64.wrap d0=d0:=wrap64 (by omega) (by omega)
  obtain⟨qX,iC,sU⟩:=It hz x.i' x.j' (v:=min 1073741824 d0) (by omega) (by omega)
  rw[← gR] at iC
  refine .sr ?_
  refine .drawn (ms:=[0,0,2,0,0,16,56,0,0,256,896,2040,4088,8191]) (W:=[13]) (items:=xr) rfl af af af ?_
  iterate 13 refine .rx ?_
  refine .wv ?_
  refine .done ?_
  refine⟨_,gj,qX,iC,?_,by simp⟩
  rw[gR]
  exact bG
 ·
  rw[e0,e1,Int.zero_add] at gR
  have hm:(if d1<1073741824 then d1 else 1073741824)=min 1073741824 d1:=by split<;>omega
  have hw:IntKind.i64.wrap d1=d1:=wrap64 (by omega) (by omega)
  obtain⟨qX,iC,sU⟩:=It hz x.i' x.j' (v:=min 1073741824 d1) (by omega) (by omega)
  rw[← gR] at iC
  refine .sr ?_
  refine .drawn (ms:=[0,0,2,0,0,16,56,0,0,256,896,2040,4088,8191]) (W:=[13]) (items:=xr) rfl af af af ?_
  iterate 13 refine .rx ?_
  refine .wv ?_
  refine .done ?_
  refine⟨_,gj,qX,iC,?_,by simp⟩
  rw[gR]
  exact bG
 ·
  rw[e0,e1] at gR
  have hm:min (1073741824:Int) (0+0)=0:=by decide
  have hw:IntKind.i64.wrap 0=0:=by decide
  rw[hm] at gR
  obtain⟨qX,iC,sU⟩:=It hz x.i' x.j' (v:=0) (by omega) (by omega)
  rw[← gR] at iC
  refine .sr ?_
  refine .drawn (ms:=[0,0,2,0,0,16,56,0,0,256,896,2040,4088,8191]) (W:=[13]) (items:=xr) rfl af af af ?_
  iterate 13 refine .rx ?_
  refine .wv ?_
  refine .done ?_
  refine⟨_,gj,qX,iC,?_,by simp⟩
  rw[gR]
  exact bG
theorem Qy (c:aq)(hB:BC c):aM prog 48 [aK c] fun r=>r=.bp [.int .i64 (if bP c=0 then vG c else 0),.int .i64 (bP c)]:=by
 have eE:=yE c hB
 have fP:=Al c
 have ke:=FF c
 have hC:dh c=(cQ c):=rfl
 obtain⟨e,he⟩:∃e,bP c=e:=⟨_,rfl⟩
 have eC:=he
 rw[he] at eE fP ke ⊢
 unfold aK at eE fP ke ⊢
 unfold ik at ke
 rw[hC] at eE fP ke ⊢
 have j9:o7 [.int .i64 0,.int .i64 0] [.int .i64 0,.int .i64 0] (.int .i64 1) []=some (a8 [(0,0)] mA):=Fu (a:=0) (b:=0) (D:=fun _ _=>0) (ps:=[]) (by simp) 1
 have Yr:Z0 [(0,0)] mA:=⟨fun i j h=>by
  unfold mA bu
  rw[if_neg (fun hh=>h (by rw[hh.1,hh.2];simp))],fun i j=>by unfold mA bu;split<;>simp⟩
 refine .bV func48 rfl rfl ?_
 refine .sr ?_
 refine .seq (.seq (.aD [0,1,2] rfl af (.rn [0] _ ?_)))
 refine .pc rfl rfl rfl rfl rfl call55 (eE) ?_
 refine .rn [2] [] ?_
 refine .done (.sr ?_)
 refine .cs ?_ ?_<;>intro c9
 ·try simp at c9
  refine .sr ?_
  refine .ret (aH ?_)
  exact zk
 try simp at c9
 subst c9
 have ke:=ke rfl
 refine .skip (.sr ?_)
 refine .seq (.aD dU rfl af (.rn [0] _ ?_))
 refine .step rfl rfl (.pure rfl rfl rfl call77 (by decide) (fP rfl) (by first|rfl|simp[*]) ?_)
 rintro _ ⟨ps,fE,rfl⟩
 have qZ:=yU c ps eC fE 106 [] [.ptr 2 0] call106 [(2,.box [.aY 1]),(1,.map (a8 ([(0,0)]) (mA))),(0,.box (cQ c))] (fun pre n L=>∃ks,Z0 ks (pre.foldl qW mA)∧L=[(2,.box [.aY 1]),(1,.map (a8 (ks) (pre.foldl qW mA))),(0,.box (cQ c))]) ⟨[(0,0)],Yr,rfl⟩ (fun _ _ _ _ h _=>h) (fun pre x jS n L im hn ⟨ks,hz,hL⟩=>by
 subst hL
 exact(Lr c n ks _ x hn hz).mono fun v ak ⟨qX,h1,h2,h3⟩=>⟨_,h2,h3,kI,qX,by rw[List.foldl_append];exact h1,by rw[List.foldl_append];rfl⟩) (fun pre n L ⟨ks,hz,hL⟩ hn hd=>by
 subst hL
 exact⟨_,⟨ks,hz,rfl⟩,⟨rfl,rfl⟩,fun i j=>Rec.wk bx⟩)
 rw[s4] at qZ ⊢
 refine .rn [2] _ ?_
 refine .step rfl rfl (.s5 (ay:=[(1,.ptr 0 0),(5,.ptr 2 0),(15,.agg (bQ c (.az (a8 (places c) (aZ c))) (.az (a8 ps (bwd c))) (.int .i64 (aZ c c.t.length c.c.length)))),(16,.func 106 [] [.ptr 2 0])]) (aQ:=⟨900,[(2,.box [.aY 1]),(1,.map (a8 ([(0,0)]) (mA))),(0,.box (cQ c))]⟩) bx (.call rfl rfl rfl call81 (by decide) (((qZ)).mono ?_)))
 rintro _ _ ⟨n,L,⟨ks,hz,rfl⟩,rfl⟩
 obtain⟨D,hD⟩:∃D,(nL c).foldl qW mA=D:=⟨_,rfl⟩
 have iD:vG c=D c.t.length c.c.length:=by unfold vG;rw[hD]
 rw[hD] at hz ⊢
 rw[iD]
 have FM:=Lq hz c.t.length c.c.length
 clear qZ
 refine .done (.seq ?_)
 refine .drawn (ms:=[0,0,2,7,15,31]) (W:=[2]) (items:=[.op 0,.op 1,.op 2,.ck 0,.op 3,.op 4,.op 5]) rfl af af af ?_
 iterate 2 refine .rx ?_
 refine .wp rfl rfl rfl rfl rfl call78 (ke) ?_
 rcases FM with⟨d,e,h0,h1,hf⟩|⟨e,hf⟩
 ·skip
  refine .ck rfl eM ?_
  iterate 3 refine .rx ?_
  refine .done (.ret (aH ?_))
  rw[e];rfl
 skip
 refine .ck rfl eM ?_
 iterate 3 refine .rx ?_
 refine .done (.ret (aH ?_))
 rw[e];rfl
end
def B8 (i0:Int)(q:Int×Int)(x:aO):Int×Int:=if (x.i:Int)<i0∧i0≤(x.i':Int) then (min q.1 x.j',max q.2 x.j') else q
def B9 (c:aq)(i0:Int):Int×Int:=(nL c).foldl (B8 i0) ((c.c.length:Int),0)
def s6 (c:aq)(i0:Int):(Int×Int)×Int:=if bP c≠0 then ((0,0),bP c) else if ¬(0≤i0∧i0≤(c.t.length:Int)) then ((0,0),1) else if i0=0 then ((0,0),0) else (B9 c i0,0)
section
variable [bE]
theorem Ys (c:aq)(n:Nat)(i0:Int)(q:Int×Int)(x:aO)(hn:900≤n):cR prog 86 [cP x,.ptr 1 0,.ptr 3 0] ⟨n,[(3,.box [.int .i64 (q.1),.int .i64 (q.2)]),(2,.box [.int .i64 0,.int .i64 0]),(1,.box [.int .i64 i0]),(0,.box (cQ c))]⟩ fun v ak=>bD [(3,.box [.int .i64 ((B8 i0 q x).1),.int .i64 ((B8 i0 q x).2)]),(2,.box [.int .i64 0,.int .i64 0]),(1,.box [.int .i64 i0]),(0,.box (cQ c))] ak.be∧n≤ak.next:=by
 obtain⟨a0,a1,a2,a3,a4,gd⟩:=xA x.s
 rw[xB x gd]
 obtain⟨m,rfl⟩:∃m,n=m+900:=⟨n - 900,by omega⟩
 obtain⟨lo,hi⟩:=q
 have vF:B8 i0 (lo,hi) x=if (x.i:Int)<i0∧i0≤(x.i':Int) then (min lo x.j',max hi x.j') else (lo,hi):=rfl
 obtain⟨e0,eC⟩:∃b,decide ((x.i:Int)<i0)=b:=⟨_,rfl⟩
 obtain⟨e1,iL⟩:∃b,decide (i0≤(x.i':Int))=b:=⟨_,rfl⟩
 have lW:(if (x.j':Int)<lo then (x.j':Int) else lo)=min lo x.j':=by split<;>omega
 have cj:(if hi<(x.j':Int) then (x.j':Int) else hi)=max hi x.j':=by split<;>omega
 clear gd
 refine .bV func86 rfl rfl ?_
 refine .sr ?_
 refine .seq (.aD yJ rfl af (.rn jR _ ?_))
 refine .split (t:=9) rfl (fun c9=>?_) (fun c9=>?_)
 ·try subst c9
  try simp at c9
  refine .rn [6,7,8,9,10,11] [] ?_
  refine .done ?_
  refine .cs ?_ ?_<;>intro cq
  ·try simp at cq
   refine .rn ?_
   subst cq
   refine⟨_,gj,?_,by simp⟩
   rw[vF,if_pos ⟨by simpa using eC,by simpa using iL⟩]
   exact bG
  try simp at cq
  refine .skip ?_
  subst cq
  refine⟨_,gj,?_,by simp⟩
  rw[vF,if_neg (fun hh=>by simp[hh.2] at iL)]
  exact bG
 try subst c9
 try simp at c9
 refine .rn [6,7,8,9,10,11] [] ?_
 refine .done (.iM rfl (.skip ?_))
 refine⟨_,gj,?_,by simp⟩
 rw[vF,if_neg (fun hh=>by simp[hh.1] at eC)]
 exact bG
theorem Yt (c:aq)(i0:Int)(hB:BC c):aM prog 24 [aK c,.int .i64 i0] fun r=>r=.bp [.agg [.int .i64 (s6 c i0).1.1,.int .i64 (s6 c i0).1.2],.int .i64 (s6 c i0).2]:=by
 have eE:=yE c hB
 have fP:=Al c
 have jx:=vg i0 0 c.t.length
 have hC:dh c=(cQ c):=rfl
 obtain⟨e,he⟩:∃e,bP c=e:=⟨_,rfl⟩
 have eC:=he
 obtain⟨wi,eD⟩:∃b,(decide (0≤i0)&&decide (i0≤(c.t.length:Int)))=b:=⟨_,rfl⟩
 rw[eD] at jx
 have hv:s6 c i0=if e≠0 then ((0,0),e) else if ¬(0≤i0∧i0≤(c.t.length:Int)) then ((0,0),1) else if i0=0 then ((0,0),0) else (B9 c i0,0):=by unfold s6;rw[he]
 rw[he] at eE fP
 unfold aK at eE fP ⊢
 rw[hC] at eE fP ⊢
 refine .bV func24 rfl rfl ?_
 refine .sr ?_
 refine .seq (.seq (.aD [0,1,2] rfl af (.rn [0] _ ?_)))
 refine .pc rfl rfl rfl rfl rfl call55 (eE) ?_
 refine .rn [2] [] ?_
 refine .done (.sr ?_)
 refine .cs ?_ ?_<;>intro ku
 ·try simp at ku
  rw[if_pos ku] at hv
  refine .sr ?_
  refine .ret (aH ?_)
  exact zk
 try simp at ku
 subst ku
 rw[if_neg (by simp)] at hv
 refine .skip (.seq (.seq (.aD jR rfl af (.rn dU _ ?_))))
 refine .pc rfl rfl rfl rfl rfl call85 (jx) ?_
 refine .rn [5] [] ?_
 refine .done ?_
 refine .cs ?_ ?_<;>intro jJ
 ·try simp at jJ
  have di:¬(0≤i0∧i0≤(c.t.length:Int)):=fun hh=>by rw[jJ] at eD;simp[hh.1,hh.2] at eD
  rw[if_pos di] at hv
  refine .sr ?_
  refine .ret (aH ?_)
  exact zk
 try simp at jJ
 have di:0≤i0∧i0≤(c.t.length:Int):=by rw[jJ] at eD;simpa using eD
 rw[if_neg (by simp[di])] at hv
 refine .skip (.seq (.sr ?_))
 refine .cs ?_ ?_<;>intro ub
 ·try simp at ub
  rw[if_pos ub] at hv
  refine .sr ?_
  refine .ret (aH ?_)
  exact zk
 try simp at ub
 rw[if_neg ub] at hv
 refine .skip (.sr ?_)
 refine .seq (.aD dU rfl af (.rn [0] _ ?_))
 refine .step rfl rfl (.pure rfl rfl rfl call77 (by decide) (fP rfl) (by first|rfl|simp[*]) ?_)
 rintro _ ⟨ps,fE,rfl⟩
 have qZ:=yU c ps eC fE 86 [] [.ptr 1 0,.ptr 3 0] call86 [(3,.box [.int .i64 ((c.c.length:Int)),.int .i64 (0)]),(2,.box [.int .i64 0,.int .i64 0]),(1,.box [.int .i64 i0]),(0,.box (cQ c))] (fun pre n L=>L=[(3,.box [.int .i64 ((pre.foldl (B8 i0) ((c.c.length:Int),0)).1),.int .i64 ((pre.foldl (B8 i0) ((c.c.length:Int),0)).2)]),(2,.box [.int .i64 0,.int .i64 0]),(1,.box [.int .i64 i0]),(0,.box (cQ c))]) rfl (fun _ _ _ _ h _=>h) (fun pre x jS n L im hn hL=>by
 subst hL
 exact(Ys c n i0 _ x hn).mono fun v ak ⟨h2,h3⟩=>⟨_,h2,h3,kI,by rw[List.foldl_append];rfl⟩) (fun pre n L hL hn hd=>by
 subst hL
 exact⟨_,rfl,⟨rfl,rfl⟩,fun i j=>Rec.wk (.mk [] [] FN FP rfl rfl rfl)⟩)
 rw[s4] at qZ ⊢
 refine .rn [2] _ ?_
 refine .step rfl rfl (.s5 (ay:=[(2,.ptr 0 0),(3,.ptr 1 0),(4,.ptr 2 0),(7,.ptr 3 0),(29,.agg (bQ c (.az (a8 (places c) (aZ c))) (.az (a8 ps (bwd c))) (.int .i64 (aZ c c.t.length c.c.length)))),(30,.func 86 [] [.ptr 1 0,.ptr 3 0])]) (aQ:=⟨900,[(3,.box [.int .i64 ((c.c.length:Int)),.int .i64 (0)]),(2,.box [.int .i64 0,.int .i64 0]),(1,.box [.int .i64 i0]),(0,.box (cQ c))]⟩) (.mk [] [] FN FP rfl rfl rfl) (.call rfl rfl rfl call81 (by decide) (((qZ)).mono ?_)))
 rintro _ _ ⟨n,L,rfl,rfl⟩
 obtain⟨q,hq⟩:∃q,(nL c).foldl (B8 i0) ((c.c.length:Int),0)=q:=⟨_,rfl⟩
 have iD:B9 c i0=q:=hq
 rw[hq]
 rw[iD] at hv
 obtain⟨lo,hi⟩:=q
 clear qZ hq
 refine .done (.sr ?_)
 refine .ret (aH ?_)
 exact zk
end
end Go.Am.Sl
end
