/-
 What is used in the proof of a statement (part SlC); no condition.
-/
import Derived.Test.YthnmgbgmlhackaaGreatDoorSlZ
import Derived.Test.YthnmgbgmlhackaaGreatDoorVm2
import Derived.Test.YthnmgbgmlhackaaGreatDoorSlT
import Derived.Test.YthnmgbgmlhackaaGreatDoorSlB
import Derived.Test.YthnmgbgmlhackaaGreatDoorSlA
set_option linter.all false
set_option maxHeartbeats 40000000
set_option maxRecDepth 100000
section
namespace Go.Am.Sl
open Go Go.Am Go.Proofs Tryz
attribute [local simp] fZ jh tW eo jM pg ai.back dE ji nr bm Nat.testBit_eq_decide_div_mod_eq cN jL o9 vO sy kh sA jY dh qq qo ss ki su rp oz tU rm sv sg sd sh se sf sj sn pO gz lq fY sB qt rq sC sD pN tR tS kg pa iz gO iA nc jF qZ qe qf kL rY bp rl gN bZ cm nR ai.get ai.alloc ai.put ai.drop ai.empty bs dN jz kx gA cG chunk List.range List.range.loop ns tX oA bK cA PV.aH PV.aJ PV.dU PV.gM kQ kj ru PV.one PV.ids PV.di ia beq_eq vc xq
attribute [local simp] cQ bQ km tZ jk gr
attribute [local simp ↓ high] xu vi
theorem Qe (c:ao):cw c=(cQ c):=rfl
noncomputable abbrev eN (c:ao) (i j:Int) (x:Option Code):aL:=sM f138 0 [(1,.vp [.int .i64 i,.int .i64 j]),(2,.vp (cw c)),(3,.ptr 1001 0),(52,.func 166 [] [.vp [.int .i64 i,.int .i64 j],.vp (cw c)])] x
def sX (c:ao)(i j:Nat)(s:aq)(n:Nat)(L:bk)(K:JM→Nat→bk→Prop)(jm:JM)(n':Nat)(L':bk):Prop:=match stepOf c i j s with
 |some x=>K jm n' L'
 |none=>jm=none∧L'=L
variable [bG] in
theorem Yc (c:ao)(i j:Nat)(k l w k0 l0 w0:Int)(m n:Nat)(L:bk)(hk:bf c=0)(hj:j≤48)(N0:Nat)(ps:Array Tmp)(db body:Code)(cY:aX)(K:JM→Nat→bk→Prop)(pJ:ps.size=1)(sY:ps.toList.all (Nat.blt · N0)=true)(hn:m+1005≤n)
  (Cc:bs 1000 L=none) (rF:bs 1001 L=none) (K6:bs (m+1002) L=none) (Yd:bs (m+1003) L=none) (Qf:bs (m+1004) L=none)
  (y3:∀i,n≤i→bs i L=none) (hY:∀x,stepOf c i j ⟨k,i,j,l,w⟩=some x→∀n1,n≤n1→DD prog N0 ps db body cY n1 L (cV x) K):du prog 167 [.int .i64 k,.int .i64 l,.int .i64 w,.ptr (m+1004) 0,.ptr (m+1003) 0] ⟨n,(m+1004,.box [.int .i64 k0,.int .i64 i,.int .i64 j,.int .i64 l0,.int .i64 w0])::(m+1003,.box [.bw (m+1002)])::(m+1002,eN c i j none)::(1001,.box [.bw 1000])::(1000,.loop N0 ps db body cY none)::L⟩
  fun v ak=>∃(jm:JM) (n':Nat) (L':bk),n≤n'∧jo n L L'∧sX c i j ⟨k,i,j,l,w⟩ n L K jm n' L'∧v=.bool jm.isNone∧ak=⟨n',(m+1004,.box [.int .i64 k,.int .i64 i,.int .i64 j,.int .i64 l,.int .i64 w])::(m+1003,.box [.bw (m+1002)])::(m+1002,eN c i j (bif jm.isNone then none else some .ret))::(1001,.box [.bw 1000])::(1000,.loop N0 ps db body cY jm.code)::L'⟩:=by
 have bj:=iC hk
 have eJ:=bj.cl
 have b7:=BQ c ⟨k,i,j,l,w⟩ hk
 have vt:=P2 c i j ⟨k,i,j,l,w⟩
 have hE:encS ⟨k,i,j,l,w⟩=.agg [.int .i64 k,.int .i64 i,.int .i64 j,.int .i64 l,.int .i64 w]:=rfl
 have hC:=Qe c
 rw[hE] at b7
 unfold aD at b7
 have qd:jz (m+1002) L=L:=Iq K6
 have qp:∀x,dN (m+1004) x L=L:=fun x=>ug Qf
 have hN:∀d,d≤1004→(n=m+d)=False:=fun d hd=>by simp;omega
 have hN':∀d,d≤1004→(m+d=n)=False:=fun d hd=>by simp;omega
 have hM:∀d,d≤1004→(n=d)=False:=fun d hd=>by simp;omega
 have ot:∀d,d≤1004→(d=n)=False:=fun d hd=>by simp;omega
 have qn:∀x,dN n x L=L:=fun x=>ug (y3 _ (Nat.le_refl _))
 have qn1:∀x,dN (n+1) x L=L:=fun x=>ug (y3 _ (by omega))
 refine .bP func167 rfl rfl ?_
 rcases vt with⟨hd,dB⟩|⟨n1,i',wr,hd,hb,dB⟩|⟨n1,i',wr,hd,hb,dB⟩
 ·
  rw[xy hd] at b7
  unfold gd at b7
  refine .sr ?_
  refine .sr ?_
  refine .seq (.au dt rfl af (.rn [0,1] _ ?_))
  refine .step rfl rfl (.yield rfl rfl rfl ((by simp:_=some (eN c i j none)).trans rfl) rfl (by decide) rfl ?_)
  refine .rn ?_
  refine .block (.seq (.au gb rfl af (.rn [0,1] _ ?_)))
  refine .pc rfl rfl rfl rfl rfl call95 (b7) ?_
  refine .rn [3,4,5,6,7,8,9,10,11,12] [] ?_
  refine .done (.seq (.au kR rfl af ?_))
  refine .rn [0,1] _ ?_
  refine .split (t:=63) rfl (fun ed=>?_) (fun ed=>?_)
  ·try subst ed
   try simp at ed
  try subst ed
  try simp at ed
  refine .rn [2,3,4,5,6,7,8,9,10,11,12,13,14,15,16,17] [] ?_
  refine .done (.gn rfl (.skip ?_))
  change bE _ _ _ _ _ _ _ _
  refine .rn [3] [] ?_
  refine .done ?_
  refine .wk (ax:=[(8,.bool true)]) (aP:=⟨n+2,(m+1004,.box [.int .i64 k,.int .i64 i,.int .i64 j,.int .i64 l,.int .i64 w])::(m+1003,.box [.bw (m+1002)])::(m+1002,eN c i j none)::(1001,.box [.bw 1000])::(1000,.loop N0 ps db body cY none)::L⟩) (.sub eV bN (by first|exact Nat.le_refl _|omega|(simp;omega))) ?_
  refine .ret ?_
  refine⟨_,gp,none,n+2,L,by omega,jo.refl _ _,?_,rfl,rfl⟩
  unfold sX
  rw[dB]
  exact⟨rfl,rfl⟩
 ·
  rw[ua hd] at b7
  unfold gd at b7
  have qc:=(kS bj hd).2.2.2.2.2
  have ic:=pn c wr j eJ (by omega)
  rw[hb] at ic
  unfold aD at ic
  refine .sr ?_
  refine .sr ?_
  refine .seq (.au dt rfl af (.rn [0,1] _ ?_))
  refine .step rfl rfl (.yield rfl rfl rfl ((by simp:_=some (eN c i j none)).trans rfl) rfl (by decide) rfl ?_)
  refine .rn ?_
  refine .block (.seq (.au gb rfl af (.rn [0,1] _ ?_)))
  refine .pc rfl rfl rfl rfl rfl call95 (b7) ?_
  refine .rn [3,4,5,6,7,8,9,10,11,12] [] ?_
  refine .done (.seq (.au kR rfl af ?_))
  refine .rn [0,1] _ ?_
  refine .split (t:=63) rfl (fun ed=>?_) (fun ed=>?_)
  ·try subst ed
   try simp at ed
   refine .rn [2,3,4,5] _ ?_
   refine .pc rfl rfl rfl rfl rfl call96 (ic) ?_
   refine .rn [7,8] _ ?_
   refine .split (t:=70) rfl (fun fh=>?_) (fun fh=>?_)
   ·try subst fh
    try simp at fh
   try subst fh
   try simp at fh
   refine .rn [9,10,11,12,13,14,15,16,17] [] ?_
   refine .done (.gn rfl (.skip ?_))
   change bE _ _ _ _ _ _ _ _
   refine .rn [3] [] ?_
   refine .done ?_
   refine .wk (ax:=[(8,.bool true)]) (aP:=⟨n+2,(m+1004,.box [.int .i64 k,.int .i64 i,.int .i64 j,.int .i64 l,.int .i64 w])::(m+1003,.box [.bw (m+1002)])::(m+1002,eN c i j none)::(1001,.box [.bw 1000])::(1000,.loop N0 ps db body cY none)::L⟩) (.sub eV bN (by first|exact Nat.le_refl _|omega|(simp;omega))) ?_
   refine .ret ?_
   refine⟨_,gp,none,n+2,L,by omega,jo.refl _ _,?_,rfl,rfl⟩
   unfold sX
   rw[dB]
   exact⟨rfl,rfl⟩
  try subst ed
  try simp at ed
 ·
  rw[ua hd] at b7
  unfold gd at b7
  have iE:=kS bj hd
  have qc:=iE.2.2.2.2.2
  have ic:=pn c wr j eJ (by omega)
  have cZ:j+wr.length≤c.c.length:=by unfold hasB at hb;rw[bV,decide_eq_true_eq] at hb;exact hb.1
  rw[hb] at ic
  unfold aD at ic
  obtain⟨j1,Cb⟩:∃j1,j+wr.length=j1:=⟨_,rfl⟩
  have vz:IntKind.i64.wrap ((j:Int)+(wr.length:Int))=(j1:Int):=by rw[wrap64 (by omega) (by omega)];omega
  rw[Cb] at cZ dB
  simp only[vz] at b7
  have FL:=hY _ dB (n+2) (by omega)
  have y2:cV ⟨i,j,i',j1,n1,some ⟨k,i,j,l,w⟩⟩=.agg [.int .i64 i,.int .i64 j,.int .i64 i',.int .i64 j1,.int .i64 k,.int .i64 i,.int .i64 j,.int .i64 l,.int .i64 w,.int .i64 n1,.bool false]:=rfl
  rw[y2] at FL
  clear vz hE hb hd iE qc y2 hY
  refine .sr ?_
  refine .sr ?_
  refine .seq (.au dt rfl af (.rn [0,1] _ ?_))
  refine .step rfl rfl (.yield rfl rfl rfl ((by simp:_=some (eN c i j none)).trans rfl) rfl (by decide) rfl ?_)
  refine .rn ?_
  refine .block (.seq (.au gb rfl af (.rn [0,1] _ ?_)))
  refine .pc rfl rfl rfl rfl rfl call95 (b7) ?_
  refine .rn [3,4,5,6,7,8,9,10,11,12] [] ?_
  refine .done (.seq (.au kR rfl af ?_))
  refine .rn [0,1] _ ?_
  refine .split (t:=63) rfl (fun ed=>?_) (fun ed=>?_)
  ·try subst ed
   try simp at ed
   refine .rn [2,3,4,5] _ ?_
   refine .pc rfl rfl rfl rfl rfl call96 (ic) ?_
   refine .rn [7,8] _ ?_
   refine .split (t:=70) rfl (fun fh=>?_) (fun fh=>?_)
   ·try subst fh
    try simp at fh
    refine .rn [9,10,11,12,13,14] _ ?_
    refine .step rfl rfl (.wk (aP:=⟨n+2,(m+1004,.box [.int .i64 k,.int .i64 i,.int .i64 j,.int .i64 l,.int .i64 w])::(m+1003,.box [.bw (m+1002)])::(1001,.box [.bw 1000])::(1000,.loop N0 ps db body cY none)::L⟩) (.sub (iG.refl _) bN (Nat.le_refl _)) (.Qg (S:=[(m+1004,.box [.int .i64 k,.int .i64 i,.int .i64 j,.int .i64 l,.int .i64 w]),(m+1003,.box [.bw (m+1002)]),(1001,.box [.bw 1000]),(1000,.loop N0 ps db body cY none)]) rfl (by first|rfl|simp[*]) (by first|rfl|(simp[*];done)) (by simp) pJ.symm sY (by decide) Cd FL ?_))
    rintro jm n' L' na gf pK hK
    have gf:=gf.mono (show n≤n+2 by omega)
    have Ye:bs 1000 L'=none:=gf _ (by omega) Cc
    have Yf:bs 1001 L'=none:=gf _ (by omega) rF
    have Yg:bs (m+1002) L'=none:=gf _ (by omega) K6
    have Yh:bs (m+1003) L'=none:=gf _ (by omega) Yd
    have Lh:bs (m+1004) L'=none:=gf _ (by omega) Qf
    have qp':∀x,dN (m+1004) x L'=L':=fun x=>ug Lh
    change bE _ _ _ _ _ _ _ ⟨n',(1000,.loop N0 ps db body cY jm.code)::(m+1004,.box [.int .i64 k,.int .i64 i,.int .i64 j,.int .i64 l,.int .i64 w])::(m+1003,.box [.bw (m+1002)])::(1001,.box [.bw 1000])::L'⟩
    refine .rn [16,17] [] ?_
    refine .done ?_
    refine .cs ?_ ?_<;>intro pV
    ·try simp at pV
     obtain⟨je,rfl⟩:∃je,jm=some je:=by cases jm with|none=>simp at pV|some je=>exact⟨je,rfl⟩
     refine .ret ?_
     change bE _ _ _ _ _ _ _ _
     refine .rn [3] [] ?_
     refine .done ?_
     refine .wk (ax:=[(8,.bool false)]) (aP:=⟨n',(m+1004,.box [.int .i64 k,.int .i64 i,.int .i64 j,.int .i64 l,.int .i64 w])::(m+1003,.box [.bw (m+1002)])::(m+1002,eN c i j (some .ret))::(1001,.box [.bw 1000])::(1000,.loop N0 ps db body cY (JM.code (some je)))::L'⟩) (.sub eV bN (by first|exact Nat.le_refl _|omega|(simp;omega))) ?_
     refine .ret ?_
     refine⟨_,gp,some je,n',L',by omega,gf,?_,rfl,rfl⟩
     unfold sX
     rw[dB]
     exact hK
    try simp at pV
    obtain rfl:jm=none:=by cases jm with|none=>rfl|some je=>simp at pV
    refine .skip ?_
    change bE _ _ _ _ _ _ _ _
    refine .rn [3] [] ?_
    refine .done ?_
    refine .wk (ax:=[(8,.bool true)]) (aP:=⟨n',(m+1004,.box [.int .i64 k,.int .i64 i,.int .i64 j,.int .i64 l,.int .i64 w])::(m+1003,.box [.bw (m+1002)])::(m+1002,eN c i j none)::(1001,.box [.bw 1000])::(1000,.loop N0 ps db body cY none)::L'⟩) (.sub eV bN (by first|exact Nat.le_refl _|omega|(simp;omega))) ?_
    refine .ret ?_
    refine⟨_,gp,none,n',L',by omega,gf,?_,rfl,rfl⟩
    unfold sX
    rw[dB]
    exact hK
   try subst fh
   try simp at fh
  try subst ed
  try simp at ed
theorem Yi (i j:Nat){n T:Nat}(h:n<T):∃r,lu i j T=lu i j n++⟨3,i,j,(n:Int)+1,0⟩::r:=by
 obtain⟨d,rfl⟩:∃d,T=n+1+d:=⟨T - n - 1,by omega⟩
 clear h
 induction d with
 |zero=>exact⟨[],by rw[Nat.add_zero,Fu];rfl⟩
 |succ d ih=>obtain⟨r,hr⟩:=ih;exact⟨r++[⟨3,i,j,(n+1+d+1:Nat),0⟩],by rw[← Nat.add_assoc,Fu,hr];simp⟩
theorem Yj (i j:Nat){n T:Nat}(h:n<T):∃r,mr i j T=mr i j n++⟨4,i,j,(n:Int)+1,0⟩::r:=by
 obtain⟨d,rfl⟩:∃d,T=n+1+d:=⟨T - n - 1,by omega⟩
 clear h
 induction d with
 |zero=>exact⟨[],by rw[Nat.add_zero,Fv];rfl⟩
 |succ d ih=>obtain⟨r,hr⟩:=ih;exact⟨r++[⟨4,i,j,(n+1+d+1:Nat),0⟩],by rw[← Nat.add_assoc,Fv,hr];simp⟩
theorem Yk (i j:Nat){n T:Nat}(h:n<T):∃r,nz i j T=nz i j n++⟨5,i,j,(n:Int),0⟩::r:=by
 obtain⟨d,rfl⟩:∃d,T=n+1+d:=⟨T - n - 1,by omega⟩
 clear h
 induction d with
 |zero=>exact⟨[],by rw[Nat.add_zero,Fw]⟩
 |succ d ih=>obtain⟨r,hr⟩:=ih;exact⟨r++[⟨5,i,j,(n+1+d:Nat),0⟩],by rw[← Nat.add_assoc,Fw,hr];simp⟩
def Dj (m:Nat)(L:bk):Prop:=bs 1000 L=none∧bs 1001 L=none∧bs (m+1002) L=none∧bs (m+1003) L=none∧bs (m+1004) L=none
theorem Dj.new {m n:Nat}{L L':bk}(h:Dj m L)(hn:m+1005≤n)(hw:jo n L L'):Dj m L':=⟨hw _ (by omega) h.1,hw _ (by omega) h.2.1,hw _ (by omega) h.2.2.1,hw _ (by omega) h.2.2.2.1,hw _ (by omega) h.2.2.2.2⟩
section
variable [bG]
theorem Ce {N:Nat}{ae:aX}{ps:Array Tmp}{db body:Code}(c:ao)(i j:Nat)(hk:bf c=0)(hj:j≤48)(I:List aR→Nat→bk→Prop)(E:Option Nat→Nat→bk→Prop)(pJ:ps.size=1)(sY:ps.toList.all (Nat.blt · N)=true)(cJ:∀pre n n' L,I pre n L→n≤n'→I pre n' L)
  (hY:∀pre x j4 n L,steps c i j=pre++x::j4→1000≤n→I pre n L→DD prog N ps db body ae n L (cV x) fun jm n' L'=>match jm with|none=>I (pre++[x]) n' L'|some e=>E e n' L')
  (done rest:List aq) (k l w k0 l0 w0:Int) (m n:Nat) (L:bk) (iE:kE c i j=done++⟨k,i,j,l,w⟩::rest) (hC:I (cp c i j++done.filterMap (stepOf c i j)) n L) (hD:Dj m L) (hn:m+1005≤n) :
  du prog 167 [.int .i64 k,.int .i64 l,.int .i64 w,.ptr (m+1004) 0,.ptr (m+1003) 0] ⟨n,(m+1004,.box [.int .i64 k0,.int .i64 i,.int .i64 j,.int .i64 l0,.int .i64 w0])::(m+1003,.box [.bw (m+1002)])::(m+1002,eN c i j none)::(1001,.box [.bw 1000])::(1000,.loop N ps db body ae none)::L⟩
   fun v ak=>∃(jm:JM) (n':Nat) (L':bk),n≤n'∧Dj m L'∧(match jm with|none=>I (cp c i j++(done++[(⟨k,i,j,l,w⟩:aq)]).filterMap (stepOf c i j)) n' L'|some e=>E e n' L')∧v=.bool jm.isNone∧ak=⟨n',(m+1004,.box [.int .i64 k,.int .i64 i,.int .i64 j,.int .i64 l,.int .i64 w])::(m+1003,.box [.bw (m+1002)])::(m+1002,eN c i j (bif jm.isNone then none else some .ret))::(1001,.box [.bw 1000])::(1000,.loop N ps db body ae jm.code)::L'⟩:=by
 refine du.DE fun hf=>?_
 have y3:∀q,n≤q→bs q L=none:=fun q hq=>vC (vC (vC (vC (vC (hf q hq)))))
 refine(Yc c i j k l w k0 l0 w0 m n L hk hj N ps db body ae (fun jm n' L'=>match jm with|none=>I (cp c i j++(done++[(⟨k,i,j,l,w⟩:aq)]).filterMap (stepOf c i j)) n' L'|some e=>E e n' L') pJ sY hn hD.1 hD.2.1 hD.2.2.1 hD.2.2.2.1 hD.2.2.2.2 y3 (fun x hx n1 iR=>?_)).mono ?_
 ·have h1:=hY (cp c i j++done.filterMap (stepOf c i j)) x (rest.filterMap (stepOf c i j)) n1 L (by
   show cp c i j++_=_
   rw[iE,List.filterMap_append,List.filterMap_cons,hx]
   simp) (by omega) (cJ _ _ _ _ hC iR)
  have h2:cp c i j++(done++[(⟨k,i,j,l,w⟩:aq)]).filterMap (stepOf c i j)=cp c i j++done.filterMap (stepOf c i j)++[x]:=by
   rw[List.filterMap_append,List.filterMap_cons,hx,List.append_assoc];rfl
  rw[h2]
  exact h1
 rintro v ak ⟨jm,n',L',h1,h2,h3,h4,h5⟩
 refine⟨jm,n',L',h1,hD.new hn h2,?_,h4,h5⟩
 unfold sX at h3
 cases dB:stepOf c i j ⟨k,i,j,l,w⟩ with
 |some x=>rw[dB] at h3;exact h3
 |none=>
  rw[dB] at h3
  obtain⟨rfl,rfl⟩:=h3
  rw[List.filterMap_append,List.filterMap_cons,dB]
  simp only[List.filterMap_nil,List.append_nil]
  exact cJ _ _ _ _ hC h1
theorem Li {N b:Nat}{Q:ie}{ae:aX}{g0:Operand}{ps:Array Tmp}{db body:Code}(c:ao)(i j:Nat)(L0:bk)(I:List aR→Nat→bk→Prop)(E:Option Nat→Nat→bk→Prop)(hk:bf c=0)(oE:i≤c.t.length)(ny:j≤c.c.length)(h0:I [] 1000 L0)(pJ:ps.size=1)(sY:ps.toList.all (Nat.blt · N)=true)
  (hg:cN ae g0=some (.func 138 [] [.vp [.int .i64 i,.int .i64 j],.vp (cw c)])) (cJ:∀pre n n' L,I pre n L→n≤n'→I pre n' L)
  (hY:∀pre x j4 n L,steps c i j=pre++x::j4→1000≤n→I pre n L→DD prog N ps db body ae n L (cV x) fun jm n' L'=>match jm with|none=>I (pre++[x]) n' L'|some e=>E e n' L')
  (hN:∀n L,1000≤n→I (steps c i j) n L→Q .normal ae ⟨n,L⟩) (hR:∀n L,E none n L→Q .ret ae ⟨n,L⟩) (hX:∀id n L,E (some id) n L→Q (.exit id) ae ⟨n,L⟩):VW prog N b (.rangeFunc g0 ps db body) Q ae ⟨1000,L0⟩:=by
 have bj:=iC hk
 have oB:=bj.tl
 have eJ:=bj.cl
 have pS:=bj.sH
 have iD:j≤48:=by omega
 have hC:=Qe c
 have lU:=BY c i j
 unfold aD gd at lU
 obtain⟨e0,er⟩:∃b,decide (i<c.t.length)=b:=⟨_,rfl⟩
 obtain⟨e1,fG⟩:∃b,decide (j<c.c.length)=b:=⟨_,rfl⟩
 obtain⟨cv,gq⟩:∃v,c.c.getD j 0=v:=⟨_,rfl⟩
 obtain⟨tv,nV⟩:∃v,c.t.getD i 0=v:=⟨_,rfl⟩
 have hP:=K8 c i j
 have dW:=gD i
 have vz:=gD j
 refine .DE fun jV=>?_
 have Cc:bs 1000 L0=none:=jV _ (by omega)
 have rF:bs 1001 L0=none:=jV _ (by omega)
 have Lj:∀x,dN 1001 x L0=L0:=fun x=>ug rF
 refine .rangeFunc hg call138 func138 rfl rfl rfl ?_
 refine .Lk (N:=N) (ps:=ps) (db:=db) (body:=body) (R:=fun jm n L=>match jm with|none=>1000≤n∧I (steps c i j) n L|some e=>E e n L) (fun n L h=>hN n L h.1 h.2) (fun n L h=>hR n L h) (fun id n L h=>hX id n L h) ?_
 refine .sr ?_
 refine .Qh (fun z:Nat×bk=>([(1,.vp [.int .i64 i,.int .i64 j]),(2,.vp (cw c)),(3,.ptr 1001 0)],⟨z.1,(1001,.box [.bw 1000])::(1000,.loop N ps db body ae none)::z.2⟩)) (fun z=>1002≤z.1∧bs 1000 z.2=none∧bs 1001 z.2=none∧I (cp c i j) z.1 z.2) ?_ ?_
 ·skip
  refine .seq ?_
  refine .drawn (ms:=[0,1,0,4,12,31,63,127,255,127,639,1663,4095,8191,16383,32767,65535,32767,163839,524287,1048575,32767,2129919,32767,8421375,31490047,65044479,134217727,268435455]) (W:=[]) (items:=B7) rfl af af af ?_
  iterate 7 refine .rx ?_
  refine .split (t:=15) rfl (fun cb=>?_) (fun cb=>?_)
  ·try subst cb
   try simp at cb
   iterate 8 refine .rx ?_
   refine .split (t:=23) rfl (fun fm=>?_) (fun fm=>?_)
   ·try subst fm
    try simp at fm
    have vw:i<c.t.length:=by simpa using er
    have cZ:j<c.c.length:=by simpa using fG
    have DC:c.t[i]=tv:=by rw[← nV,List.getD_eq_getElem?_getD,List.getElem?_eq_getElem vw];rfl
    have Yb:c.c[j]=cv:=by rw[← gq,List.getD_eq_getElem?_getD,List.getElem?_eq_getElem cZ];rfl
    iterate 14 refine .rx ?_
    refine .done ?_
    refine .cs ?_ ?_<;>intro nX
    ·try simp at nX
     have tQ:cp c i j=[⟨i,j,i+1,j+1,0,none⟩]:=by unfold cp;rw[if_pos ⟨vw,cZ,by rw[nV,gq];exact nX⟩]
     have FL:=hY [] ⟨i,j,i+1,j+1,0,none⟩ ((kE c i j).filterMap (stepOf c i j)) 1002 L0 (by show cp c i j++_=_;rw[tQ];rfl) (by omega) (cJ _ _ _ _ h0 (by omega))
     have y2:cV ⟨i,j,i+1,j+1,0,none⟩=.agg [.int .i64 i,.int .i64 j,.int .i64 ((i:Int)+1),.int .i64 ((j:Int)+1),.int .i64 0,.int .i64 0,.int .i64 0,.int .i64 0,.int .i64 0,.int .i64 0,.bool true]:=rfl
     rw[y2] at FL
     refine .seq (.au vk rfl af (.rn fw _ ?_))
     refine .step rfl rfl (.Qg (S:=[(1001,.box [.bw 1000]),(1000,.loop N ps db body ae none)]) rfl (by first|rfl|simp[*]) (by first|rfl|(simp[*];done)) rfl pJ.symm sY (by decide) Cd FL ?_)
     rintro jm n' L' na gf pK hK
     have fN:bs 1000 L'=none:=gf _ (by omega) Cc
     have iF:bs 1001 L'=none:=gf _ (by omega) rF
     change bE _ _ _ _ _ _ _ ⟨n',(1000,.loop N ps db body ae jm.code)::(1001,.box [.bw 1000])::L'⟩
     refine .rn [11] [] ?_
     refine .done ?_
     refine .cs ?_ ?_<;>intro nW
     ·try simp at nW
      obtain⟨e,rfl⟩:∃e,jm=some e:=by cases jm with|none=>simp at nW|some e=>exact⟨e,rfl⟩
      refine .ret ?_
      refine kp.mk (N:=N) (ps:=ps) (db:=db) (body:=body) (ae:=ae) (aS:=[]) (R:=fun jm n L=>match jm with|none=>1000≤n∧I (steps c i j) n L|some e=>E e n L) (.inr rfl) (some e) L' ?_ fN (show E e n' L' from hK)
      exact bN
     try simp at nW
     obtain rfl:jm=none:=by cases jm with|none=>rfl|some e=>simp at nW
     refine .skip ?_
     refine⟨(n',L'),⟨na,fN,iF,by rw[tQ];exact hK⟩,(.sub eV bN (by first|exact Nat.le_refl _|omega|(simp;omega)))⟩
    try simp at nX
    have tQ:cp c i j=[]:=by unfold cp;rw[if_neg (fun hh=>nX (by rw[← nV,← gq];exact hh.2.2))]
    refine .skip ?_
    refine⟨(1002,L0),⟨by simp,Cc,rF,by rw[tQ];exact cJ _ _ _ _ h0 (by omega)⟩,(.sub eV bN (by first|exact Nat.le_refl _|omega|(simp;omega)))⟩
   try subst fm
   try simp at fm
   have tQ:cp c i j=[]:=by unfold cp;rw[if_neg (fun hh=>by simp[hh.2.1] at fG)]
   iterate 13 refine .ux ?_
   refine .rx ?_
   refine .done (.gn rfl (.skip ?_))
   refine⟨(1002,L0),⟨by simp,Cc,rF,by rw[tQ];exact cJ _ _ _ _ h0 (by omega)⟩,(.sub eV bN (by first|exact Nat.le_refl _|omega|(simp;omega)))⟩
  try subst cb
  try simp at cb
  have tQ:cp c i j=[]:=by unfold cp;rw[if_neg (fun hh=>by simp[hh.1] at er)]
  iterate 6 refine .ux ?_
  iterate 2 refine .rx ?_
  iterate 13 refine .ux ?_
  refine .rx ?_
  refine .done (.gn rfl (.skip ?_))
  refine⟨(1002,L0),⟨by simp,Cc,rF,by rw[tQ];exact cJ _ _ _ _ h0 (by omega)⟩,(.sub eV bN (by first|exact Nat.le_refl _|omega|(simp;omega)))⟩
 skip
 rintro⟨n1,L1⟩ ⟨iR,Ll,oD,Lm⟩
 simp only at iR Ll oD Lm ⊢
 obtain⟨m,rfl⟩:∃m,n1=m+1002:=⟨n1 - 1002,by omega⟩
 clear jV Cc rF Lj h0
 refine .DE fun hf=>?_
 have y3:∀q,m+1002≤q→bs q L1=none:=fun q hq=>vC (vC (hf q hq))
 have fN:=Ll
 have iF:=oD
 have my:bs (m+1002) L1=none:=y3 _ (by omega)
 have mz:bs (m+1003) L1=none:=y3 _ (by omega)
 have mA:bs (m+1004) L1=none:=y3 _ (by omega)
 have hD:Dj m L1:=⟨fN,iF,my,mz,mA⟩
 have Qi:∀x,dN (m+1002) x L1=L1:=fun x=>ug my
 have qp2:∀x,dN (m+1003) x L1=L1:=fun x=>ug mz
 have qp3:∀x,dN (m+1004) x L1=L1:=fun x=>ug mA
 clear hf y3
 refine .seq (.au [0,1,2] rfl af (.rn [0,1] _ ?_))
 refine .pc rfl rfl rfl rfl rfl call139 (lU) ?_
 refine .done (.block ?_)
 refine .wk (ax:=[(1,.vp [.int .i64 i,.int .i64 j]),(2,.vp (cw c)),(3,.ptr 1001 0),(52,.func 166 [] [.vp [.int .i64 i,.int .i64 j],.vp (cw c)])]) (aP:=⟨m+1002,(1001,.box [.bw 1000])::(1000,.loop N ps db body ae none)::L1⟩) (.sub eV bN (by first|exact Nat.le_refl _|omega|(simp;omega))) ?_
 refine .rangeFunc rfl call166 func166 rfl rfl rfl ?_
 refine .sr ?_
 refine .sr ?_
 refine .sr ?_
 refine .Qh (fun z:Nat×bk=>([(1,.vp [.int .i64 i,.int .i64 j]),(2,.vp (cw c)),(5,.func 167 [] [.ptr (m+1004) 0,.ptr (m+1003) 0])],⟨z.1,(m+1004,.box [.int .i64 2,.int .i64 i,.int .i64 j,.int .i64 0,.int .i64 0])::(m+1003,.box [.bw (m+1002)])::(m+1002,eN c i j none)::(1001,.box [.bw 1000])::(1000,.loop N ps db body ae none)::z.2⟩)) (fun z=>m+1005≤z.1∧Dj m z.2∧I (cp c i j++(ls c i j).filterMap (stepOf c i j)) z.1 z.2) ?_ ?_
 ·skip
  refine .seq ?_
  refine .wk (ax:=[(1,.vp [.int .i64 i,.int .i64 j]),(2,.vp (cw c)),(5,.func 167 [] [.ptr (m+1004) 0,.ptr (m+1003) 0])]) (aP:=⟨m+1005,(m+1004,.box [.int .i64 0,.int .i64 i,.int .i64 j,.int .i64 0,.int .i64 0])::(m+1003,.box [.bw (m+1002)])::(m+1002,eN c i j none)::(1001,.box [.bw 1000])::(1000,.loop N ps db body ae none)::L1⟩) (.sub eV bN (by first|exact Nat.le_refl _|omega|(simp;omega))) ?_
  refine .au B8 rfl af (.rn gE _ ?_)
  refine .split (t:=21) rfl (fun dz=>?_) (fun dz=>?_)
  ·try subst dz
   try simp at dz
   have cZ:j<c.c.length:=by simpa using fG
   have sL:c.c[j]=cv:=by rw[← gq,List.getD_eq_getElem?_getD,List.getElem?_eq_getElem cZ];rfl
   have hA:ls c i j=[⟨1,i,j,0,cv⟩,⟨2,i,j,0,0⟩]:=by unfold ls;rw[if_pos cZ,gq];rfl
   have w1:=Ce c i j hk iD I E pJ sY cJ hY ([]) (⟨2,i,j,0,0⟩::(lu i j (c.t.length - i)++mr i j i++nz i j c.g.length++(if j<c.c.length then [⟨6,i,j,0,c.c.getD j 0⟩] else []))) (1) (0) (cv) (0) (0) (0) m (m+1005) L1 (by rw[hP,hA];simp) (by simpa using cJ _ _ (m+1005) _ Lm (by omega)) hD (Nat.le_refl _)
   refine .rn [7,8,9,10,11,12,13] _ ?_
   refine .step rfl rfl (.call rfl rfl rfl call167 (by decide) (((w1)).mono ?_))
   rintro _ _ ⟨jm,n',L',na,cD,hK,rfl,rfl⟩
   refine .rn [15,16,17] _ ?_
   refine .split (t:=32) rfl (fun eC=>?_) (fun eC=>?_)
   ·try subst eC
    try simp at eC
    obtain⟨e,rfl⟩:∃e,jm=some e:=by cases jm with|none=>simp at eC|some e=>exact⟨e,rfl⟩
    have fN:=cD.1
    have iF:=cD.2.1
    have my:=cD.2.2.1
    have mz:=cD.2.2.2.1
    have mA:=cD.2.2.2.2
    refine .rn [18,19,20,21] [] ?_
    refine .done (.ep rfl (.ret ?_))
    change j3 _ _ _ _
    refine Ax ((by simp:_=some (eN c i j (some .ret))).trans rfl) ?_
    refine kp.mk (N:=N) (ps:=ps) (db:=db) (body:=body) (ae:=ae) (aS:=[]) (R:=fun jm n L=>match jm with|none=>1000≤n∧I (steps c i j) n L|some e=>E e n L) (.inr rfl) (some e) L' ?_ fN (show E e n' L' from hK)
    refine bF.drop (by simp[*]) ?_
    exact bN
   try subst eC
   try simp at eC
   obtain rfl:jm=none:=by cases jm with|none=>rfl|some e=>simp at eC
   have fN:=cD.1
   have iF:=cD.2.1
   have my:=cD.2.2.1
   have mz:=cD.2.2.2.1
   have mA:=cD.2.2.2.2
   have w2:=Ce c i j hk iD I E pJ sY cJ hY ([⟨1,i,j,0,cv⟩]) (lu i j (c.t.length - i)++mr i j i++nz i j c.g.length++(if j<c.c.length then [⟨6,i,j,0,c.c.getD j 0⟩] else [])) (2) (0) (0) (1) (0) (cv) m n' L' (by rw[hP,hA];simp) (hK) cD (by omega)
   clear hK
   refine .rn [18] _ ?_
   refine .step rfl rfl (.call rfl rfl rfl call167 (by decide) (((w2)).mono ?_))
   rintro _ _ ⟨jm,n',L',na,cD,hK,rfl,rfl⟩
   refine .rn [20,21] [] ?_
   refine .done ?_
   refine .cs ?_ ?_<;>intro gT
   ·try simp at gT
    obtain⟨e,rfl⟩:∃e,jm=some e:=by cases jm with|none=>simp at gT|some e=>exact⟨e,rfl⟩
    have fN:=cD.1
    have iF:=cD.2.1
    have my:=cD.2.2.1
    have mz:=cD.2.2.2.1
    have mA:=cD.2.2.2.2
    refine .ret ?_
    change j3 _ _ _ _
    refine Ax ((by simp:_=some (eN c i j (some .ret))).trans rfl) ?_
    refine kp.mk (N:=N) (ps:=ps) (db:=db) (body:=body) (ae:=ae) (aS:=[]) (R:=fun jm n L=>match jm with|none=>1000≤n∧I (steps c i j) n L|some e=>E e n L) (.inr rfl) (some e) L' ?_ fN (show E e n' L' from hK)
    refine bF.drop (by simp[*]) ?_
    exact bN
   try simp at gT
   obtain rfl:jm=none:=by cases jm with|none=>rfl|some e=>simp at gT
   have fN:=cD.1
   have iF:=cD.2.1
   have my:=cD.2.2.1
   have mz:=cD.2.2.2.1
   have mA:=cD.2.2.2.2
   refine .skip ?_
   refine⟨(n',L'),⟨by simp only;omega,cD,by rw[hA];exact hK⟩,(.sub eV bN (by first|exact Nat.le_refl _|omega|(simp;omega)))⟩
  try subst dz
  try simp at dz
  have cZ:¬j<c.c.length:=by simpa using fG
  have hA:ls c i j=[⟨2,i,j,0,0⟩]:=by unfold ls;rw[if_neg cZ];rfl
  have w2:=Ce c i j hk iD I E pJ sY cJ hY ([]) (lu i j (c.t.length - i)++mr i j i++nz i j c.g.length++(if j<c.c.length then [⟨6,i,j,0,c.c.getD j 0⟩] else [])) (2) (0) (0) (0) (0) (0) m (m+1005) L1 (by rw[hP,hA];simp) (by simpa using cJ _ _ (m+1005) _ Lm (by omega)) hD (Nat.le_refl _)
  refine .rn [7,8,9,10,11,12,13,14,15,16,17,18] _ ?_
  refine .step rfl rfl (.call rfl rfl rfl call167 (by decide) (((w2)).mono ?_))
  rintro _ _ ⟨jm,n',L',na,cD,hK,rfl,rfl⟩
  refine .rn [20,21] [] ?_
  refine .done ?_
  refine .cs ?_ ?_<;>intro gT
  ·try simp at gT
   obtain⟨e,rfl⟩:∃e,jm=some e:=by cases jm with|none=>simp at gT|some e=>exact⟨e,rfl⟩
   have fN:=cD.1
   have iF:=cD.2.1
   have my:=cD.2.2.1
   have mz:=cD.2.2.2.1
   have mA:=cD.2.2.2.2
   refine .ret ?_
   change j3 _ _ _ _
   refine Ax ((by simp:_=some (eN c i j (some .ret))).trans rfl) ?_
   refine kp.mk (N:=N) (ps:=ps) (db:=db) (body:=body) (ae:=ae) (aS:=[]) (R:=fun jm n L=>match jm with|none=>1000≤n∧I (steps c i j) n L|some e=>E e n L) (.inr rfl) (some e) L' ?_ fN (show E e n' L' from hK)
   refine bF.drop (by simp[*]) ?_
   exact bN
  try simp at gT
  obtain rfl:jm=none:=by cases jm with|none=>rfl|some e=>simp at gT
  have fN:=cD.1
  have iF:=cD.2.1
  have my:=cD.2.2.1
  have mz:=cD.2.2.2.1
  have mA:=cD.2.2.2.2
  refine .skip ?_
  refine⟨(n',L'),⟨by simp only;omega,cD,by rw[hA];exact hK⟩,(.sub eV bN (by first|exact Nat.le_refl _|omega|(simp;omega)))⟩
 skip
 rintro⟨n1,L1⟩ ⟨iR,hD,hI⟩
 simp only at iR hD hI ⊢
 have fN:=hD.1
 have iF:=hD.2.1
 have my:=hD.2.2.1
 have mz:=hD.2.2.2.1
 have mA:=hD.2.2.2.2
 have BV:IntKind.i64.wrap ((c.t.length:Int) - (i:Int))=(c.t.length:Int) - (i:Int):=wrap64 (by omega) (by omega)
 refine .seq (.sr ?_)
 refine .block ?_
 refine .FM (fun z:Nat×Int×Int×Int×Nat×bk=>([(1,.vp [.int .i64 i,.int .i64 j]),(2,.vp (cw c)),(5,.func 167 [] [.ptr (m+1004) 0,.ptr (m+1003) 0]),(6,.int .i64 ((z.1:Int)+1))],⟨z.2.2.2.2.1,(m+1004,.box [.int .i64 z.2.1,.int .i64 i,.int .i64 j,.int .i64 z.2.2.1,.int .i64 z.2.2.2.1])::(m+1003,.box [.bw (m+1002)])::(m+1002,eN c i j none)::(1001,.box [.bw 1000])::(1000,.loop N ps db body ae none)::z.2.2.2.2.2⟩)) (fun z=>z.1≤c.t.length - i∧m+1005≤z.2.2.2.2.1∧Dj m z.2.2.2.2.2∧I (cp c i j++(ls c i j++lu i j z.1).filterMap (stepOf c i j)) z.2.2.2.2.1 z.2.2.2.2.2) (fun z=>c.t.length - i - z.1) (0,2,0,0,n1,L1) ⟨Nat.zero_le _,iR,hD,by simpa[lu] using hI⟩ (.sub eV bN (by first|exact Nat.le_refl _|omega|(simp;omega))) ?_
 clear hI hD iR fN iF my mz mA
 rintro⟨n,k,l,w,n1,L1⟩ ⟨hn,iR,hD,hI⟩
 simp only at hn iR hD hI ⊢
 have fN:=hD.1
 have iF:=hD.2.1
 have my:=hD.2.2.1
 have mz:=hD.2.2.2.1
 have mA:=hD.2.2.2.2
 refine .seq (.sr ?_)
 refine .cs ?_ ?_<;>intro sR
 ·try simp at sR
  have rG:n<c.t.length - i:=by omega
  obtain⟨r,hr⟩:=Yi i j rG
  have w3:=Ce c i j hk iD I E pJ sY cJ hY (ls c i j++lu i j n) (r++(mr i j i++(nz i j c.g.length++(if j<c.c.length then [⟨6,i,j,0,c.c.getD j 0⟩] else [])))) (3) ((n:Int)+1) (0) (k) (l) (w) m n1 L1 (by rw[hP,hr];simp only[List.append_assoc,List.cons_append]) (hI) hD (iR)
  have xC:IntKind.i64.wrap ((n:Int)+1+1)=(n:Int)+1+1:=wrap64 (by omega) (by omega)
  refine .skip (.seq (.block (.seq (.au dt rfl af (.rn [0,1] _ ?_)))))
  refine .step rfl rfl (.call rfl rfl rfl call167 (by decide) (((w3)).mono ?_))
  rintro _ _ ⟨jm,n',L',na,cD,hK,rfl,rfl⟩
  refine .rn [3] [] ?_
  refine .done ?_
  refine .cs ?_ ?_<;>intro xD
  ·try simp at xD
   obtain⟨e,rfl⟩:∃e,jm=some e:=by cases jm with|none=>simp at xD|some e=>exact⟨e,rfl⟩
   have fN:=cD.1
   have iF:=cD.2.1
   have my:=cD.2.2.1
   have mz:=cD.2.2.2.1
   have mA:=cD.2.2.2.2
   refine .ret ?_
   change j3 _ _ _ _
   refine Ax ((by simp:_=some (eN c i j (some .ret))).trans rfl) ?_
   refine kp.mk (N:=N) (ps:=ps) (db:=db) (body:=body) (ae:=ae) (aS:=[]) (R:=fun jm n L=>match jm with|none=>1000≤n∧I (steps c i j) n L|some e=>E e n L) (.inr rfl) (some e) L' ?_ fN (show E e n' L' from hK)
   refine bF.drop (by simp[*]) ?_
   exact bN
  try simp at xD
  obtain rfl:jm=none:=by cases jm with|none=>rfl|some e=>simp at xD
  have fN:=cD.1
  have iF:=cD.2.1
  have my:=cD.2.2.1
  have mz:=cD.2.2.2.1
  have mA:=cD.2.2.2.2
  refine .skip (.rn ?_)
  refine⟨(n+1,3,(n:Int)+1,0,n',L'),⟨rG,by simp only;omega,cD,by rw[Fu,← List.append_assoc];exact hK⟩,by simp only;omega,?_⟩
  simp only
  exact(.sub eV bN (by first|exact Nat.le_refl _|omega|(simp;omega)))
 try simp at sR
 obtain rfl:n=c.t.length - i:=by omega
 refine .exit (.seq (.sr ?_))
 refine .block ?_
 refine .FM (fun z:Nat×Int×Int×Int×Nat×bk=>([(1,.vp [.int .i64 i,.int .i64 j]),(2,.vp (cw c)),(5,.func 167 [] [.ptr (m+1004) 0,.ptr (m+1003) 0]),(7,.int .i64 ((z.1:Int)+1))],⟨z.2.2.2.2.1,(m+1004,.box [.int .i64 z.2.1,.int .i64 i,.int .i64 j,.int .i64 z.2.2.1,.int .i64 z.2.2.2.1])::(m+1003,.box [.bw (m+1002)])::(m+1002,eN c i j none)::(1001,.box [.bw 1000])::(1000,.loop N ps db body ae none)::z.2.2.2.2.2⟩)) (fun z=>z.1≤i∧m+1005≤z.2.2.2.2.1∧Dj m z.2.2.2.2.2∧I (cp c i j++(ls c i j++lu i j (c.t.length - i)++mr i j z.1).filterMap (stepOf c i j)) z.2.2.2.2.1 z.2.2.2.2.2) (fun z=>i - z.1) (0,k,l,w,n1,L1) ⟨Nat.zero_le _,iR,hD,by simpa[mr] using hI⟩ (.sub eV bN (by first|exact Nat.le_refl _|omega|(simp;omega))) ?_
 clear hI hD iR fN iF my mz mA
 rintro⟨n,k,l,w,n1,L1⟩ ⟨hn,iR,hD,hI⟩
 simp only at hn iR hD hI ⊢
 have fN:=hD.1
 have iF:=hD.2.1
 have my:=hD.2.2.1
 have mz:=hD.2.2.2.1
 have mA:=hD.2.2.2.2
 refine .seq (.sr ?_)
 refine .cs ?_ ?_<;>intro sS
 ·try simp at sS
  have rG:n<i:=by omega
  obtain⟨r,hr⟩:=Yj i j rG
  have w3:=Ce c i j hk iD I E pJ sY cJ hY (ls c i j++lu i j (c.t.length - i)++mr i j n) (r++(nz i j c.g.length++(if j<c.c.length then [⟨6,i,j,0,c.c.getD j 0⟩] else []))) (4) ((n:Int)+1) (0) (k) (l) (w) m n1 L1 (by rw[hP,hr];simp only[List.append_assoc,List.cons_append]) (hI) hD (iR)
  have xC:IntKind.i64.wrap ((n:Int)+1+1)=(n:Int)+1+1:=wrap64 (by omega) (by omega)
  refine .skip (.seq (.block (.seq (.au dt rfl af (.rn [0,1] _ ?_)))))
  refine .step rfl rfl (.call rfl rfl rfl call167 (by decide) (((w3)).mono ?_))
  rintro _ _ ⟨jm,n',L',na,cD,hK,rfl,rfl⟩
  refine .rn [3] [] ?_
  refine .done ?_
  refine .cs ?_ ?_<;>intro jB
  ·try simp at jB
   obtain⟨e,rfl⟩:∃e,jm=some e:=by cases jm with|none=>simp at jB|some e=>exact⟨e,rfl⟩
   have fN:=cD.1
   have iF:=cD.2.1
   have my:=cD.2.2.1
   have mz:=cD.2.2.2.1
   have mA:=cD.2.2.2.2
   refine .ret ?_
   change j3 _ _ _ _
   refine Ax ((by simp:_=some (eN c i j (some .ret))).trans rfl) ?_
   refine kp.mk (N:=N) (ps:=ps) (db:=db) (body:=body) (ae:=ae) (aS:=[]) (R:=fun jm n L=>match jm with|none=>1000≤n∧I (steps c i j) n L|some e=>E e n L) (.inr rfl) (some e) L' ?_ fN (show E e n' L' from hK)
   refine bF.drop (by simp[*]) ?_
   exact bN
  try simp at jB
  obtain rfl:jm=none:=by cases jm with|none=>rfl|some e=>simp at jB
  have fN:=cD.1
  have iF:=cD.2.1
  have my:=cD.2.2.1
  have mz:=cD.2.2.2.1
  have mA:=cD.2.2.2.2
  refine .skip (.rn ?_)
  refine⟨(n+1,4,(n:Int)+1,0,n',L'),⟨rG,by simp only;omega,cD,by rw[Fv,← List.append_assoc];exact hK⟩,by simp only;omega,?_⟩
  simp only
  exact(.sub eV bN (by first|exact Nat.le_refl _|omega|(simp;omega)))
 try simp at sS
 obtain rfl:i=n:=by omega
 refine .exit (.seq (.sr ?_))
 refine .block ?_
 refine .FM (fun z:Nat×Int×Int×Int×Nat×bk=>([(1,.vp [.int .i64 i,.int .i64 j]),(2,.vp (cw c)),(5,.func 167 [] [.ptr (m+1004) 0,.ptr (m+1003) 0]),(63,.int .i64 c.g.length),(64,.int .i64 z.1)],⟨z.2.2.2.2.1,(m+1004,.box [.int .i64 z.2.1,.int .i64 i,.int .i64 j,.int .i64 z.2.2.1,.int .i64 z.2.2.2.1])::(m+1003,.box [.bw (m+1002)])::(m+1002,eN c i j none)::(1001,.box [.bw 1000])::(1000,.loop N ps db body ae none)::z.2.2.2.2.2⟩)) (fun z=>z.1≤c.g.length∧m+1005≤z.2.2.2.2.1∧Dj m z.2.2.2.2.2∧I (cp c i j++(ls c i j++lu i j (c.t.length - i)++mr i j i++nz i j z.1).filterMap (stepOf c i j)) z.2.2.2.2.1 z.2.2.2.2.2) (fun z=>c.g.length - z.1) (0,k,l,w,n1,L1) ⟨Nat.zero_le _,iR,hD,by simpa[nz] using hI⟩ (.sub eV bN (by first|exact Nat.le_refl _|omega|(simp;omega))) ?_
 clear hI hD iR fN iF my mz mA
 rintro⟨n,k,l,w,n1,L1⟩ ⟨hn,iR,hD,hI⟩
 simp only at hn iR hD hI ⊢
 have fN:=hD.1
 have iF:=hD.2.1
 have my:=hD.2.2.1
 have mz:=hD.2.2.2.1
 have mA:=hD.2.2.2.2
 refine .sr ?_
 refine .seq ?_
 refine .cs ?_ ?_<;>intro y0
 ·try simp at y0
  have rG:n<c.g.length:=by simpa using y0
  obtain⟨r,hr⟩:=Yk i j rG
  have w3:=Ce c i j hk iD I E pJ sY cJ hY (ls c i j++lu i j (c.t.length - i)++mr i j i++nz i j n) (r++(if j<c.c.length then [⟨6,i,j,0,c.c.getD j 0⟩] else [])) (5) ((n:Int)) (0) (k) (l) (w) m n1 L1 (by rw[hP,hr];simp only[List.append_assoc,List.cons_append]) (hI) hD (iR)
  have xC:=gD n
  refine .skip (.seq (.block (.sr ?_)))
  refine .seq (.au dt rfl af (.rn [0,1] _ ?_))
  refine .step rfl rfl (.call rfl rfl rfl call167 (by decide) (((w3)).mono ?_))
  rintro _ _ ⟨jm,n',L',na,cD,hK,rfl,rfl⟩
  refine .rn [3] [] ?_
  refine .done ?_
  refine .cs ?_ ?_<;>intro fh
  ·try simp at fh
   obtain⟨e,rfl⟩:∃e,jm=some e:=by cases jm with|none=>simp at fh|some e=>exact⟨e,rfl⟩
   have fN:=cD.1
   have iF:=cD.2.1
   have my:=cD.2.2.1
   have mz:=cD.2.2.2.1
   have mA:=cD.2.2.2.2
   refine .ret ?_
   change j3 _ _ _ _
   refine Ax ((by simp:_=some (eN c i j (some .ret))).trans rfl) ?_
   refine kp.mk (N:=N) (ps:=ps) (db:=db) (body:=body) (ae:=ae) (aS:=[]) (R:=fun jm n L=>match jm with|none=>1000≤n∧I (steps c i j) n L|some e=>E e n L) (.inr rfl) (some e) L' ?_ fN (show E e n' L' from hK)
   refine bF.drop (by simp[*]) ?_
   exact bN
  try simp at fh
  obtain rfl:jm=none:=by cases jm with|none=>rfl|some e=>simp at fh
  have fN:=cD.1
  have iF:=cD.2.1
  have my:=cD.2.2.1
  have mz:=cD.2.2.2.1
  have mA:=cD.2.2.2.2
  refine .skip (.rn ?_)
  refine⟨(n+1,5,(n:Int),0,n',L'),⟨rG,by simp only;omega,cD,by rw[Fw,← List.append_assoc];exact hK⟩,by simp only;omega,?_⟩
  simp only
  exact(.sub eV bN (by first|exact Nat.le_refl _|omega|(simp;omega)))
 try simp at y0
 obtain rfl:n=c.g.length:=by omega
 refine .exit (.sr ?_)
 refine .cs ?_ ?_<;>intro po
 ·try simp at po
  have cZ:j<c.c.length:=by rw[po] at fG;simpa using fG
  rw[if_pos cZ,gq] at hP
  have sL:c.c[j]=cv:=by rw[← gq,List.getD_eq_getElem?_getD,List.getElem?_eq_getElem cZ];rfl
  have w3:=Ce c i j hk iD I E pJ sY cJ hY (ls c i j++lu i j (c.t.length - i)++mr i j i++nz i j c.g.length) ([]) (6) (0) (cv) (k) (l) (w) m n1 L1 (hP) (hI) hD (iR)
  refine .au lV rfl af (.rn gE _ ?_)
  refine .step rfl rfl (.call rfl rfl rfl call167 (by decide) (((w3)).mono ?_))
  rintro _ _ ⟨jm,n',L',na,cD,hK,rfl,rfl⟩
  have fN:=cD.1
  have iF:=cD.2.1
  have my:=cD.2.2.1
  have mz:=cD.2.2.2.1
  have mA:=cD.2.2.2.2
  rcases jm with _|e
  ·refine .done ?_
   change j3 _ _ _ _
   refine vx ((by simp:_=some (eN c i j none)).trans rfl) ?_
   refine kp.mk (N:=N) (ps:=ps) (db:=db) (body:=body) (ae:=ae) (aS:=[]) (R:=fun jm n L=>match jm with|none=>1000≤n∧I (steps c i j) n L|some e=>E e n L) (.inl rfl) none L' ?_ fN ⟨by show 1000≤n';omega,?_⟩
   ·refine bF.drop (by simp[*]) ?_
    exact bN
   show I (cp c i j++(kE c i j).filterMap (stepOf c i j)) n' L'
   rw[hP]
   exact hK
  refine .done ?_
  change j3 _ _ _ _
  refine Ax ((by simp:_=some (eN c i j (some .ret))).trans rfl) ?_
  refine kp.mk (N:=N) (ps:=ps) (db:=db) (body:=body) (ae:=ae) (aS:=[]) (R:=fun jm n L=>match jm with|none=>1000≤n∧I (steps c i j) n L|some e=>E e n L) (.inr rfl) (some e) L' ?_ fN (show E e n' L' from hK)
  refine bF.drop (by simp[*]) ?_
  exact bN
 try simp at po
 have cZ:¬j<c.c.length:=by rw[po] at fG;simpa using fG
 rw[if_neg cZ,List.append_nil] at hP
 refine .skip ?_
 change j3 _ _ _ _
 refine vx ((by simp:_=some (eN c i j none)).trans rfl) ?_
 refine kp.mk (N:=N) (ps:=ps) (db:=db) (body:=body) (ae:=ae) (aS:=[]) (R:=fun jm n L=>match jm with|none=>1000≤n∧I (steps c i j) n L|some e=>E e n L) (.inl rfl) none L1 ?_ fN ⟨by show 1000≤n1;omega,?_⟩
 ·refine bF.drop (by simp[*]) ?_
  exact bN
 show I (cp c i j++(kE c i j).filterMap (stepOf c i j)) n1 L1
 rw[hP]
 exact hI
end
attribute [local simp] cQ bQ km tZ y1 ue uf sU jk gr
def iH (D:Nat→Nat→Int)(x:aR):Nat→Nat→Int:=bz D x.i x.j (min (D x.i x.j) (D x.i' x.j'+x.n))
def oF (c:ao)(D:Nat→Nat→Int)(q:Nat×Nat):Nat→Nat→Int:=if q.1=0∧q.2=0 then D else (steps c (c.t.length - q.1) (c.c.length - q.2)).foldl iH (bz D (c.t.length - q.1) (c.c.length - q.2) 1099511627776)
def sZ (c:ao)(a b:Nat):Nat→Nat→Int:=(mu (c.c.length+1) a b).foldl (oF c) (bz (fun _ _=>1099511627776) c.t.length c.c.length 0)
def bwd (c:ao):Nat→Nat→Int:=(places c).foldl (oF c) (bz (fun _ _=>1099511627776) c.t.length c.c.length 0)
theorem Yl (c:ao)(a b:Nat):sZ c a (b+1)=oF c (sZ c a b) (a,b):=by unfold sZ;rw[Io,List.foldl_append];rfl
theorem Ym (c:ao)(a:Nat):sZ c a (c.c.length+1)=sZ c (a+1) 0:=by unfold sZ;rw[Ip]
theorem Qj (c:ao):sZ c (c.t.length+1) 0=bwd c:=by unfold sZ bwd;rw[FD]
theorem Ir {D:Nat→Nat→Int}(h:iS D){i j:Nat}{v:Int}(h0:0≤v)(h1:v≤1099511627776):iS (bz D i j v):=fun a b=>by
 unfold bz;split
 ·exact⟨h0,h1⟩
 exact h a b
theorem Yn {D:Nat→Nat→Int}(h:iS D){x:aR}(hn:0≤x.n):iS (iH D x):=by
 have h1:=h x.i x.j;have h2:=h x.i' x.j'
 exact Ir h (by omega) (by omega)
theorem Ln:∀(l:List aR) {D:Nat→Nat→Int},(∀x∈l,0≤x.n)→iS D→iS (l.foldl iH D)
 |[],_,_,h=>h
 |x::r,_,hx,h=>Ln r (fun y hy=>hx y (List.mem_cons_of_mem _ hy)) (Yn h (hx x List.mem_cons_self))
theorem Yo {c:ao}(hr:Rt c){D:Nat→Nat→Int}(h:iS D)(q:Nat×Nat):iS (oF c D q):=by
 unfold oF;split
 ·exact h
 exact Ln _ (fun x hx=>(jn hr hx).n0) (Ir h (by decide) (by decide))
theorem Qk {c:ao}(hr:Rt c)(a b:Nat):iS (sZ c a b):=by
 have:∀(l:List (Nat×Nat)) (D:Nat→Nat→Int),iS D→iS (l.foldl (oF c) D):=by
  intro l
  induction l with
  |nil=>exact fun D h=>h
  |cons q r ih=>exact fun D h=>ih _ (Yo hr h q)
 exact this _ _ (Ir (fun _ _=>⟨by decide,by decide⟩) (by decide) (by decide))
def Kb (c:ao)(a b:Nat)(ps:List (Nat×Nat)):Prop:=∀i j,(i,j)∈ps↔i≤c.t.length∧j≤c.c.length∧(c.t.length - i<a∨(c.t.length - i=a∧c.c.length - j<b)∨(i=c.t.length∧j=c.c.length))
theorem xG (s:Option aq):∃a b d e f:Int,B9 s=[.int .i64 a,.int .i64 b,.int .i64 d,.int .i64 e,.int .i64 f]:=by
 cases s with
 |none=>exact⟨0,0,0,0,0,rfl⟩
 |some s=>exact⟨_,_,_,_,_,rfl⟩
theorem xH (x:aR){a b d e f:Int}(h:B9 x.s=[.int .i64 a,.int .i64 b,.int .i64 d,.int .i64 e,.int .i64 f]):cV x=.agg [.int .i64 x.i,.int .i64 x.j,.int .i64 x.i',.int .i64 x.j',.int .i64 a,.int .i64 b,.int .i64 d,.int .i64 e,.int .i64 f,.int .i64 x.n,.bool x.s.isNone]:=by
 unfold cV;rw[h];rfl
section
variable [bG]
theorem FN (c:ao)(hk:bf c=0):aN prog 78 [aD c] fun r=>r=gd c.t.length c.c.length:=by
 have bj:=iC hk
 have hC:cw c=(cQ c):=rfl
 unfold aD gd
 rw[hC]
 refine .bP func78 rfl rfl ?_
 refine .sr ?_
 refine .sr ?_
 refine .ret (aA ?_)
 exact zk
theorem Lo (c:ao)(hk:bf c=0):aN prog 137 [aD c] fun r=>∃ps,(∀i j,(i,j)∈ps↔i≤c.t.length∧j≤c.c.length)∧r=.aC (a8 ps (bwd c)):=by
 have bj:=iC hk
 have oB:=bj.tl
 have eJ:=bj.cl
 have pS:=bj.sH
 have hC:cw c=(cQ c):=rfl
 have w6:IntKind.i64.wrap ((c.t.length:Int)+1)=(c.t.length:Int)+1:=wrap64 (by omega) (by omega)
 have np:IntKind.i64.wrap ((c.c.length:Int)+1)=(c.c.length:Int)+1:=wrap64 (by omega) (by omega)
 have kq:=FN c hk
 have kG:=fun i j:Int=>Fs c i j
 unfold aD at kq kG ⊢
 unfold gd at kq kG
 have hC':=hC
 rw[hC] at kq kG ⊢
 have ko:qz [.int .i64 c.t.length,.int .i64 c.c.length] [.int .i64 c.t.length,.int .i64 c.c.length] (.int .i64 0) []=some (a8 [(c.t.length,c.c.length)] (sZ c 0 0)):=by
  have:=FE (a:=c.t.length) (b:=c.c.length) (D:=fun _ _=>1099511627776) (ps:=[]) (by simp) 0
  exact this
 refine .bP func137 rfl rfl ?_
 refine .sr ?_
 refine .seq (.au gE rfl af (.rn [0,1] _ ?_))
 refine .pc rfl rfl rfl rfl rfl call78 (kq) ?_
 refine .rn [3,4,5,6] [] ?_
 refine .done (.seq (.sr ?_))
 refine .block ?_
 refine .ec (fun z:Nat×List (Nat×Nat)=>([(1,.ptr 0 0),(3,.ptr 2 0),(15,.int .i64 ((c.t.length:Int)+1)),(16,.int .i64 z.1)],⟨3,[(2,.box [.ba 1]),(1,.map (a8 (z.2) (sZ c z.1 0))),(0,.box (cQ c))]⟩)) (fun z=>z.1≤c.t.length+1∧Kb c z.1 0 z.2) (fun z=>c.t.length+1 - z.1) (0,[(c.t.length,c.c.length)]) ⟨by simp,fun i j=>by simp;omega⟩ bT ?_
 rintro⟨a,ps⟩ ⟨ha,fy⟩
 simp only at ha fy ⊢
 refine .sr ?_
 refine .seq ?_
 refine .cs ?_ ?_<;>intro iT
 ·try simp at iT
  have eO:=gD a
  refine .skip (.seq (.block (.sr ?_)))
  refine .sr ?_
  refine .block ?_
  refine .ec (fun z:Nat×List (Nat×Nat)=>([(1,.ptr 0 0),(3,.ptr 2 0),(4,.int .i64 a),(15,.int .i64 ((c.t.length:Int)+1)),(16,.int .i64 a),(22,.int .i64 ((c.c.length:Int)+1)),(23,.int .i64 z.1)],⟨3,[(2,.box [.ba 1]),(1,.map (a8 (z.2) (sZ c a z.1))),(0,.box (cQ c))]⟩)) (fun z=>z.1≤c.c.length+1∧Kb c a z.1 z.2) (fun z=>c.c.length+1 - z.1) (0,ps) ⟨by simp,fy⟩ bT ?_
  clear fy
  rintro⟨b,ps⟩ ⟨hb,fy⟩
  simp only at hb fy ⊢
  refine .sr ?_
  refine .seq ?_
  refine .cs ?_ ?_<;>intro nv
  ·try simp at nv
   have rB:=gD b
   have hac:a≤c.t.length:=by omega
   have hbc:b≤c.c.length:=by omega
   obtain⟨i,hi⟩:∃i,c.t.length - a=i:=⟨_,rfl⟩
   obtain⟨j,hj⟩:∃j,c.c.length - b=j:=⟨_,rfl⟩
   have dW:IntKind.i64.wrap ((c.t.length:Int) - (a:Int))=(i:Int):=by rw[wrap64 (by omega) (by omega)];omega
   have vz:IntKind.i64.wrap ((c.c.length:Int) - (b:Int))=(j:Int):=by rw[wrap64 (by omega) (by omega)];omega
   have nk:=Yl c a b
   have hD:=Qk bj a b
   obtain⟨D,FG⟩:∃D,sZ c a b=D:=⟨_,rfl⟩
   rw[FG] at nk hD ⊢
   have kG:=kG i j
   refine .skip (.seq (.block (.sr ?_)))
   refine .sr ?_
   refine .seq (.seq ?_)
   refine .drawn (ms:=[0,0,2,7]) (W:=[2]) (items:=[.op 0,.op 1,.op 2,.ck 0,.op 3]) rfl af af af ?_
   iterate 2 refine .rx ?_
   refine .wp rfl rfl rfl rfl rfl call78 (kq) ?_
   refine .ck rfl eQ ?_
   refine .rx ?_
   refine .done ?_
   refine .cs ?_ ?_<;>intro mw
   ·try simp at mw
    have hz:a=0∧b=0:=by omega
    rw[oF,if_pos hz] at nk
    have hq:Kb c a (b+1) ps:=fun i' j'=>by rw[fy];omega
    clear hz mw
    refine .exit (.rn ?_)
    clear hi hj dW vz
    refine⟨(b+1,ps),⟨by simp only;omega,hq⟩,by simp only;omega,by rw[nk];exact bT⟩
   try simp at mw
   have hz:¬(a=0∧b=0):=by rintro⟨rfl,rfl⟩;rw[← hi,← hj] at mw;simp at mw
   rw[oF,if_neg hz] at nk
   simp only[hi,hj] at nk
   have oE:i≤c.t.length:=by omega
   have ny:j≤c.c.length:=by omega
   have DF:(i,j)∉ps:=fun hh=>by
    have:=(fy i j).1 hh
    omega
   have vD:qz [.int .i64 i,.int .i64 j] [.int .i64 i,.int .i64 j] (.int .i64 1099511627776) (a8 ps D)=some (a8 (ps++[(i,j)]) (bz D i j 1099511627776)):=FE DF _
   have vE:Kb c a (b+1) (ps++[(i,j)]):=fun i' j'=>by
    rw[List.mem_append,fy,List.mem_singleton,bO]
    omega
   have iF:=Ir hD (i:=i) (j:=j) (v:=1099511627776) (by decide) (by decide)
   obtain⟨qs,Ql⟩:∃qs,ps++[(i,j)]=qs:=⟨_,rfl⟩
   obtain⟨D1,et⟩:∃D1,bz D i j 1099511627776=D1:=⟨_,rfl⟩
   rw[Ql] at vD vE
   rw[et] at vD iF nk
   clear Ql et FG
   refine .skip (.sr ?_)
   refine .seq (.au [0,1,2] rfl af (.rn [0,1] _ ?_))
   refine .pc rfl rfl rfl rfl rfl call79 (kG) ?_
   refine .done (.block ?_)
   refine .rec (ax:=[(1,.ptr 0 0),(3,.ptr 2 0),(4,.int .i64 a),(6,.ptr 3 0),(15,.int .i64 ((c.t.length:Int)+1)),(16,.int .i64 a),(22,.int .i64 ((c.c.length:Int)+1)),(23,.int .i64 b),(45,.func 138 [] [.vp [.int .i64 i,.int .i64 j],.vp (cw c)])]) (aP:=⟨1000,[(3,.box [.int .i64 i,.int .i64 j]),(2,.box [.ba 1]),(1,.map (a8 (qs) (D1))),(0,.box (cQ c))]⟩) bT ?_
   refine Li c i j _ (fun pre n L=>L=[(3,.box [.int .i64 i,.int .i64 j]),(2,.box [.ba 1]),(1,.map (a8 (qs) (pre.foldl iH D1))),(0,.box (cQ c))]) (fun _ _ _=>False) hk oE ny rfl rfl (by decide) rfl (fun _ _ _ _ h _=>h) ?_ ?_ (fun _ _ h=>h.elim) (fun _ _ _ h=>h.elim)
   ·skip
    rintro pre x j4 n L iE hn rfl
    have hx:x∈steps c i j:=by rw[iE];simp
    have ir:=jn bj hx
    have pL:=ir.fi
    have xc:=ir.fj
    have Lc:=ir.n0
    have iR:=ir.n1
    have PZ:=ir.it
    have Km:=ir.jt
    have dx:=ir.uh
    have dY:=ir.ui
    have hon:=ir.on
    obtain⟨m,rfl⟩:∃m,n=m+1000:=⟨n - 1000,by omega⟩
    have Is:=Ln pre (D:=D1) (fun y hy=>(jn bj (show y∈steps c i j by rw[iE];simp[hy])).n0) iF
    obtain⟨Dp,FP⟩:∃Dp,pre.foldl iH D1=Dp:=⟨_,rfl⟩
    have qA:(pre++[x]).foldl iH D1=bz Dp i j (min (Dp i j) (Dp x.i' x.j'+x.n)):=by rw[List.foldl_append,FP];show iH Dp x=_;unfold iH;rw[pL,xc]
    rw[FP] at Is ⊢
    obtain⟨a0,a1,a2,a3,a4,fL⟩:=xG x.s
    rw[xH x fL,pL,xc]
    have mF:(i,j)∈qs:=(vE i j).2 (by omega)
    have cq:(x.i',x.j')∈qs:=(vE _ _).2 (by omega)
    have jV:kV [.int .i64 i,.int .i64 j] (a8 qs Dp)=some (some (.int .i64 (Dp i j))):=by
     have:=vy i j Dp qs
     rw[if_pos mF] at this
     exact this
    have xF:kV [.int .i64 x.i',.int .i64 x.j'] (a8 qs Dp)=some (some (.int .i64 (Dp x.i' x.j'))):=by
     have:=vy x.i' x.j' Dp qs
     rw[if_pos cq] at this
     exact this
    have sW:∀v,qz [.int .i64 i,.int .i64 j] [.int .i64 i,.int .i64 j] (.int .i64 v) (a8 qs Dp)=some (a8 qs (bz Dp i j v)):=fun v=>FB mF v
    have h0:=Is i j
    have h1:=Is x.i' x.j'
    obtain⟨d0,mM⟩:∃d,Dp i j=d:=⟨_,rfl⟩
    obtain⟨d1,ke⟩:∃d,Dp x.i' x.j'=d:=⟨_,rfl⟩
    rw[mM,ke] at qA
    rw[mM] at jV h0
    rw[ke] at xF h1
    have BU:IntKind.i64.wrap (d1+x.n)=d1+x.n:=wrap64 (by omega) (by omega)
    have uY:(if d1+x.n<d0 then d1+x.n else d0)=min d0 (d1+x.n):=by split<;>omega
    clear hD iF nk fy vE DF vD iE hx ir Is pL xc fL
    unfold DD
    refine .rn ?_
    refine .block ?_
    refine .drawn (ms:=[0,0,0,0,12,0,0,64,224,0,512,2016,4092,8191]) (W:=[13]) (items:=xB) rfl af af af ?_
    iterate 13 refine .rx ?_
    refine .wv ?_
    refine .done ?_
    refine⟨none,[(3,.box [.int .i64 i,.int .i64 j]),(2,.box [.ba 1]),(1,.map (a8 (qs) (bz Dp i j (min d0 (d1+x.n))))),(0,.box (cQ c))],rfl,bN,kW,?_⟩
    show _=_
    rw[qA]
   skip
   rintro n L hn rfl
   rw[← nk]
   refine .rn ?_
   refine⟨(b+1,qs),⟨by simp only;omega,vE⟩,by simp only;omega,bT⟩
  try simp at nv
  obtain rfl:b=c.c.length+1:=by omega
  refine .exit (.rn ?_)
  refine⟨(a+1,ps),⟨by simp only;omega,fun i' j'=>by rw[fy];omega⟩,by simp only;omega,by rw[← Ym];exact bT⟩
 try simp at iT
 obtain rfl:a=c.t.length+1:=by omega
 rw[Qj]
 refine .exit (.sr ?_)
 refine .ret (aA ?_)
 exact⟨ps,fun i j=>by rw[fy];omega,rfl⟩
end
def aZ (c:ao):Nat→Nat→Int:=fwd c fun _=>true
def Kp (c:ao)(ps:List (Nat×Nat)):Prop:=∀i j,(i,j)∈ps↔i≤c.t.length∧j≤c.c.length
def It (c:ao)(ps:List (Nat×Nat)):List PV:=cw c++[.aC (a8 (places c) (aZ c)),.aC (a8 ps (bwd c)),.int .i64 (aZ c c.t.length c.c.length)]
def s4 (c:ao)(ps:List (Nat×Nat)):PV:=.agg (It c ps)
theorem Iu {c:ao}(hr:Rt c)(p:aR→Bool):iS (fwd c p):=by rw[← P6];exact P8 hr p _ _
theorem Qm {c:ao}(hr:Rt c):iS (bwd c):=by rw[← Qj];exact Qk hr _ _
def iI (c:ao)(x:aR):Bool:=decide (aZ c x.i x.j+x.n+bwd c x.i' x.j'=aZ c c.t.length c.c.length)
def Ay (s:aq)(x:aR):Bool:=decide (x.s=some s)
theorem Cf {c:ao}{ps:List (Nat×Nat)}(h:Kp c ps){i j:Nat}(hi:i≤c.t.length)(hj:j≤c.c.length)(D:Nat→Nat→Int):kV [.int .i64 i,.int .i64 j] (a8 ps D)=some (some (.int .i64 (D i j))):=by
 have:=vy i j D ps
 rw[if_pos ((h i j).2 ⟨hi,hj⟩)] at this
 exact this
theorem FQ (c:ao):Kp c (places c):=fun i j=>xE
section
variable [bG]
theorem Lq (x:aR):aN prog 136 [cV x] fun r=>r=.bool true:=by
 obtain⟨a0,a1,a2,a3,a4,fL⟩:=xG x.s
 rw[xH x fL]
 refine .bP func136 rfl rfl ?_
 refine .sr ?_
 refine .sr ?_
 refine .ret (aA ?_)
 exact zk
theorem Az (c:ao)(hk:bf c=0):aN prog 77 [aD c] fun r=>∃ps,Kp c ps∧r=s4 c ps:=by
 have bj:=iC hk
 have hC:cw c=(cQ c):=rfl
 have kq:=FN c hk
 have nY:=FF c (fun _=>true) 136 [] [] hk rfl rfl call136 Lq
 have Cg:=Lo c hk
 have hf:=Cf (FQ c) (Nat.le_refl _) (Nat.le_refl _) (aZ c)
 rw[show fwd c (fun _=>true)=aZ c from rfl] at nY
 unfold aD at kq nY Cg ⊢
 unfold gd at kq
 rw[hC] at kq nY Cg ⊢
 refine .bP func77 rfl rfl ?_
 refine .sr ?_
 refine .seq (.au [0,1,2] rfl af (.rn [0] _ ?_))
 refine .pc rfl rfl rfl rfl rfl call135 (nY) ?_
 refine .rn [2] [] ?_
 refine .done (.seq ?_)
 refine .drawn (ms:=[0,0,0,4,0,0,44,124,255,511]) (W:=[3,6,9]) (items:=[.op 0,.op 1,.op 2,.op 4,.op 5,.op 3,.ck 5,.ck 0,.op 6,.ck 0,.op 7,.op 8,.op 9]) rfl af af af ?_
 iterate 5 refine .rx ?_
 refine .wr rfl rfl (by decide) (.pure rfl rfl rfl call137 (by decide) (Cg) (by first|rfl|simp[*]) ?_)
 rintro _ ⟨ps,fy,rfl⟩
 refine .ck rfl eQ ?_
 refine .ck rfl eQ ?_
 refine .wp rfl rfl rfl rfl rfl call78 (kq) ?_
 refine .ck rfl eQ ?_
 iterate 2 refine .rx ?_
 refine .wv ?_
 refine .done (.ret (aA ?_))
 exact⟨ps,fy,rfl⟩
theorem Qn (c:ao)(ps:List (Nat×Nat))(x:aR)(hk:bf c=0)(fy:Kp c ps)(i j:Nat)(hx:x∈steps c i j)(hi:i≤c.t.length)(hj:j≤c.c.length):aN prog 80 [s4 c ps,cV x] fun r=>r=.bool (iI c x):=by
 have bj:=iC hk
 have hC:cw c=(cQ c):=rfl
 obtain⟨a0,a1,a2,a3,a4,fL⟩:=xG x.s
 rw[xH x fL]
 have ir:=jn bj hx
 have h0:=Iu bj (fun _=>true) x.i x.j
 have h1:=Qm bj x.i' x.j'
 have hf:=Cf (FQ c) (show x.i≤c.t.length by rw[ir.fi];exact hi) (show x.j≤c.c.length by rw[ir.fj];exact hj) (aZ c)
 have hb:=Cf fy ir.it ir.jt (bwd c)
 have Lc:=ir.n0
 have iR:=ir.n1
 unfold iI
 rw[show fwd c (fun _=>true)=aZ c from rfl] at h0
 obtain⟨F,hF⟩:∃F,aZ c x.i x.j=F:=⟨_,rfl⟩
 obtain⟨B,hB⟩:∃B,bwd c x.i' x.j'=B:=⟨_,rfl⟩
 rw[hF] at h0 hf ⊢
 rw[hB] at h1 hb ⊢
 have w6:IntKind.i64.wrap (F+x.n)=F+x.n:=wrap64 (by omega) (by omega)
 have np:IntKind.i64.wrap (F+x.n+B)=F+x.n+B:=wrap64 (by omega) (by omega)
 unfold s4 It
 rw[hC]
 clear hk fy hx ir fL h0 h1
 refine .bP func80 rfl rfl ?_
 refine .sr ?_
 refine .seq ?_
 refine .drawn (ms:=[0,1,0,4,15,0,32,127,0,256,0,1024,3840,8191,0,16384,65535,131071]) (W:=[]) (items:=[.op 0,.op 1,.op 2,.op 3,.op 4,.op 5,.op 6,.op 7,.op 8,.op 9,.op 10,.op 11,.op 12,.op 13,.op 14,.op 15,.op 16,.op 17]) rfl af af af ?_
 iterate 18 refine .rx ?_
 refine .done (.ret (aA ?_))
 exact zk
theorem Lr (p:aR→Bool)(f:FuncId)(xs ys:List PV)(hx:PV.aJ xs=true)(hy:PV.aJ ys=true)(dR:∀cs w,(callFunc f cs).run prog w=.ok (.enter f cs) w)(hp:∀x:aR,aN prog f (xs++[cV x]++ys) fun r=>r=.bool (p x))(x:aR):aN prog 140 [cV x,.vp [.func f xs ys]] fun r=>r=.bool (!p x):=by
 obtain⟨a0,a1,a2,a3,a4,fL⟩:=xG x.s
 have vA:=hp x
 rw[xH x fL] at vA ⊢
 have Qb:∀vh,cA vh xs=some xs:=fun vh=>vB vh hx
 have Qc:∀vh,cA vh ys=some ys:=fun vh=>vB vh hy
 clear hp
 refine .bP func140 rfl rfl ?_
 refine .sr ?_
 refine .seq (.au fe rfl af (.rn [0,1] _ ?_))
 refine .step rfl rfl (.pure rfl rfl rfl dR (by decide) (vA) (by first|rfl|simp[*]) ?_)
 rintro _ rfl
 refine .rn [3,4] [] ?_
 refine .done (.ret (aA ?_))
 exact zk
theorem FT (s:aq)(x:aR):aN prog 142 [cV x,.vp [.int .i64 s.k,.int .i64 s.a,.int .i64 s.i,.int .i64 s.l,.int .i64 s.w]] fun r=>r=.bool (Ay s x):=by
 refine .bP func142 rfl rfl ?_
 obtain⟨i,j,i',j',n,s0⟩:=x;rcases s0 with _|s0
 ·
  unfold cV B9 Ay
  refine .sr ?_
  refine .seq (.au fw rfl af (.rn dt _ ?_))
  refine .split (t:=7) rfl (fun c7=>?_) (fun c7=>?_)
  ·try subst c7
   try simp at c7
  try subst c7
  try simp at c7
  refine .rn [4,5,6,7,8,9] [] ?_
  refine .done (.ret (aA ?_))
  exact zk
 ·
  unfold cV B9 Ay
  have he:decide ((some s0:Option aq)=some s)=(s0.k==s.k&&s0.a==s.a&&s0.i==s.i&&s0.l==s.l&&s0.w==s.w):=by
   obtain⟨a,b,c,d,e⟩:=s
   obtain⟨a',b',c',d',e'⟩:=s0
   simp only[az,aq.mk.injEq]
   rw[Bool.eq_iff_iff]
   simp[and_assoc]
  simp only[he]
  refine .sr ?_
  refine .seq (.au fw rfl af (.rn dt _ ?_))
  refine .split (t:=7) rfl (fun c7=>?_) (fun c7=>?_)
  ·try subst c7
   try simp at c7
   refine .rn [4,5,6,7,8,9] [] ?_
   refine .done (.ret (aA ?_))
   exact zk
  try subst c7
  try simp at c7
theorem Ls (c:ao)(ps:List (Nat×Nat))(p:aR→Bool)(f:FuncId)(xs ys:List PV)(hk:bf c=0)(hx:PV.aJ xs=true)(hy:PV.aJ ys=true)(dR:∀cs w,(callFunc f cs).run prog w=.ok (.enter f cs) w)(hp:∀x:aR,aN prog f (xs++[cV x]++ys) fun r=>r=.bool (p x)):aN prog 83 [s4 c ps,.func f xs ys] fun r=>r=.bn [.int .i64 (fwd c (fun x=>!p x) c.t.length c.c.length - aZ c c.t.length c.c.length),.bool (decide (fwd c (fun x=>!p x) c.t.length c.c.length<1099511627776))]:=by
 have bj:=iC hk
 have hC:cw c=(cQ c):=rfl
 have kq:=FN c hk
 have nY:=FF c (fun x=>!p x) 140 [] [.vp [.func f xs ys]] hk rfl (by simp[PV.aJ,PV.aH]) call140 (fun x=>Lr p f xs ys hx hy dR hp x)
 have hf:=Cf (FQ c) (Nat.le_refl _) (Nat.le_refl _) (fwd c fun x=>!p x)
 have h0:=Iu bj (fun x=>!p x) c.t.length c.c.length
 have h1:=Iu bj (fun _=>true) c.t.length c.c.length
 rw[show fwd c (fun _=>true)=aZ c from rfl] at h1
 have Qb:∀vh,cA vh xs=some xs:=fun vh=>vB vh hx
 have Qc:∀vh,cA vh ys=some ys:=fun vh=>vB vh hy
 obtain⟨G,hG⟩:∃G,fwd c (fun x=>!p x)=G:=⟨_,rfl⟩
 rw[hG] at nY hf h0 ⊢
 obtain⟨d,hd⟩:∃d,G c.t.length c.c.length=d:=⟨_,rfl⟩
 rw[hd] at hf h0 ⊢
 obtain⟨e,he⟩:∃e,aZ c c.t.length c.c.length=e:=⟨_,rfl⟩
 rw[he] at h1
 have hw:IntKind.i64.wrap (d - e)=d - e:=wrap64 (by omega) (by omega)
 unfold s4 It
 rw[he]
 unfold aD at kq nY
 unfold gd at kq
 rw[hC] at kq nY ⊢
 clear hk hp hd hG he h0 h1
 refine .bP func83 rfl rfl ?_
 refine .sr ?_
 refine .seq ?_
 refine .drawn (ms:=[0,1,0,7,0,16,63,127,255]) (W:=[3,6]) (items:=[.op 0,.op 1,.op 2,.op 4,.op 5,.op 3,.ck 5,.op 6,.op 7,.op 8]) rfl af af af ?_
 iterate 5 refine .rx ?_
 refine .wr rfl rfl (by decide) (.Iv rfl rfl rfl call135 (by decide) (by first|(simp<;>rfl)|(simp[*]<;>rfl)|(simp[*];done)) (nY) ?_)
 rintro _ rfl
 refine .ck rfl eQ ?_
 refine .wp rfl rfl rfl rfl rfl call78 (kq) ?_
 iterate 2 refine .rx ?_
 refine .done (.sr ?_)
 refine .ret (aA ?_)
 exact zk
end
def nZ (c:ao):List aR:=(graph c).filter (iI c)
theorem Qo {i M:Nat}(h:i<M):∃r,List.range M=List.range i++i::r:=by
 obtain⟨d,rfl⟩:∃d,M=i+1+d:=⟨M - i - 1,by omega⟩
 clear h
 induction d with
 |zero=>exact⟨[],by rw[Nat.add_zero,List.range_succ]⟩
 |succ d ih=>obtain⟨r,hr⟩:=ih;exact⟨r++[i+1+d],by rw[← Nat.add_assoc,List.range_succ,hr];simp⟩
theorem Lt (c:ao){i j:Nat}(hi:i≤c.t.length)(hj:j≤c.c.length):∃r,places c=mu (c.c.length+1) i j++(i,j)::r:=by
 obtain⟨r1,h1⟩:=Qo (show i<c.t.length+1 by omega)
 obtain⟨r2,h2⟩:=Qo (show j<c.c.length+1 by omega)
 have hp:places c=(List.range (c.t.length+1)).flatMap (lW (c.c.length+1)):=rfl
 refine⟨r2.map (fun j=>(i,j))++r1.flatMap (lW (c.c.length+1)),?_⟩
 rw[hp,h1,List.flatMap_append,List.flatMap_cons]
 have h3:lW (c.c.length+1) i=lW j i++(i,j)::r2.map fun j=>(i,j):=by unfold lW;rw[h2,List.map_append];rfl
 rw[h3]
 unfold mu
 simp
theorem Yp (c:ao){i j:Nat}(hi:i≤c.t.length)(hj:j≤c.c.length){pre j4:List aR}{x:aR}(hs:steps c i j=pre++x::j4)(hx:iI c x=true):∃r,nZ c=rH c (iI c) i j++pre.filter (iI c)++x::r:=by
 obtain⟨r,hr⟩:=Lt c hi hj
 unfold nZ graph rH
 rw[hr,List.flatMap_append,List.flatMap_cons,List.filter_append,List.filter_append,hs,List.filter_append,List.filter_cons,if_pos hx]
 exact⟨j4.filter (iI c)++(r.flatMap fun p=>steps c p.1 p.2).filter (iI c),by simp only[List.append_assoc,List.cons_append]⟩
def D9 (L:bk):Prop:=bs 900 L=none∧bs 901 L=none
variable [bG] in
theorem Yq (c:ao)(ps:List (Nat×Nat))(hk:bf c=0)(fy:Kp c ps)(f:FuncId)(xs ys:List PV)(dR:∀cs w,(callFunc f cs).run prog w=.ok (.enter f cs) w)(L0:bk)(J:List aR→Nat→bk→Prop)(h0:J [] 900 L0)
  (cJ:∀pre n n' L,J pre n L→n≤n'→J pre n' L)
  (qC:∀pre x j4 n L,nZ c=pre++x::j4→900≤n→J pre n L→Iw prog f (xs++[cV x]++ys) n L fun _ n' L'=>J (pre++[x]) n' L')
  (bD:∀pre n L,J pre n L→900≤n→D9 L→∃L',J pre 1000 L'∧D9 L'∧∀i j:Nat,Wk 900 [(2,.ptr 900 0),(3,.ptr 901 0),(4,.int .i64 i),(11,.int .i64 ((c.t.length:Int)+1)),(12,.int .i64 i),(19,.int .i64 ((c.c.length:Int)+1)),(20,.int .i64 j)] ⟨n,(901,.box [.func f xs ys])::(900,.box (bQ c (.aC (a8 (places c) (aZ c))) (.aC (a8 ps (bwd c))) (.int .i64 (aZ c c.t.length c.c.length))))::L⟩ [(2,.ptr 900 0),(3,.ptr 901 0),(4,.int .i64 i),(11,.int .i64 ((c.t.length:Int)+1)),(12,.int .i64 i),(19,.int .i64 ((c.c.length:Int)+1)),(20,.int .i64 j)] ⟨1000,(901,.box [.func f xs ys])::(900,.box (bQ c (.aC (a8 (places c) (aZ c))) (.aC (a8 ps (bwd c))) (.int .i64 (aZ c c.t.length c.c.length))))::L'⟩) :
  du prog 81 [s4 c ps,.func f xs ys] ⟨900,L0⟩ fun v ak=>∃L',bF L' ak.bg∧J (nZ c) ak.next L':=by
 have bj:=iC hk
 have oB:=bj.tl
 have eJ:=bj.cl
 have hC:cw c=(cQ c):=rfl
 have w6:IntKind.i64.wrap ((c.t.length:Int)+1)=(c.t.length:Int)+1:=wrap64 (by omega) (by omega)
 have np:IntKind.i64.wrap ((c.c.length:Int)+1)=(c.c.length:Int)+1:=wrap64 (by omega) (by omega)
 have kG:=fun i j:Nat=>Fs c i j
 have qD:=fun (x:aR) i j hx hi hj=>Qn c ps x hk fy i j hx hi hj
 unfold s4 It at qD ⊢
 unfold aD gd at kG
 rw[hC] at kG qD ⊢
 refine du.DE fun jV=>?_
 have lz:D9 L0:=⟨jV _ (by omega),jV _ (by omega)⟩
 have Lj:∀x,dN 900 x L0=L0:=fun x=>ug lz.1
 have Qi:∀x,dN 901 x L0=L0:=fun x=>ug lz.2
 clear jV
 refine .bP func81 rfl rfl ?_
 refine .sr ?_
 refine .sr ?_
 refine .block ?_
 refine .FM (fun z:Nat×bk=>([(2,.ptr 900 0),(3,.ptr 901 0),(11,.int .i64 ((c.t.length:Int)+1)),(12,.int .i64 z.1)],⟨1000,(901,.box [.func f xs ys])::(900,.box (bQ c (.aC (a8 (places c) (aZ c))) (.aC (a8 ps (bwd c))) (.int .i64 (aZ c c.t.length c.c.length))))::z.2⟩)) (fun z=>z.1≤c.t.length+1∧D9 z.2∧J (rH c (iI c) z.1 0) 1000 z.2) (fun z=>c.t.length+1 - z.1) (0,L0) ⟨by simp,lz,cJ _ _ _ _ h0 (by omega)⟩ (.sub eV bN (by first|exact Nat.le_refl _|omega|(simp;done)|(simp;omega))) ?_
 clear lz Lj Qi h0
 rintro⟨i,L1⟩ ⟨hi,lz,hJ⟩
 simp only at hi lz hJ ⊢
 have mM:=lz.1
 have ke:=lz.2
 refine .sr ?_
 refine .seq ?_
 refine .cs ?_ ?_<;>intro gg
 ·try simp at gg
  have eO:=gD i
  have oE:i≤c.t.length:=by omega
  refine .skip (.seq (.block (.sr ?_)))
  refine .sr ?_
  refine .block ?_
  refine .FM (fun z:Nat×bk=>([(2,.ptr 900 0),(3,.ptr 901 0),(4,.int .i64 i),(11,.int .i64 ((c.t.length:Int)+1)),(12,.int .i64 i),(19,.int .i64 ((c.c.length:Int)+1)),(20,.int .i64 z.1)],⟨1000,(901,.box [.func f xs ys])::(900,.box (bQ c (.aC (a8 (places c) (aZ c))) (.aC (a8 ps (bwd c))) (.int .i64 (aZ c c.t.length c.c.length))))::z.2⟩)) (fun z=>z.1≤c.c.length+1∧D9 z.2∧J (rH c (iI c) i z.1) 1000 z.2) (fun z=>c.c.length+1 - z.1) (0,L1) ⟨by simp,lz,hJ⟩ (.sub eV bN (by first|exact Nat.le_refl _|omega|(simp;done)|(simp;omega))) ?_
  clear lz mM ke hJ
  rintro⟨j,L1⟩ ⟨hj,lz,hJ⟩
  simp only at hj lz hJ ⊢
  have mM:=lz.1
  have ke:=lz.2
  refine .sr ?_
  refine .seq ?_
  refine .cs ?_ ?_<;>intro dz
  ·try simp at dz
   have rB:=gD j
   have ny:j≤c.c.length:=by omega
   have kG:=kG i j
   refine .skip (.seq (.block (.sr ?_)))
   refine .seq (.au iB rfl af (.rn fe _ ?_))
   refine .pc rfl rfl rfl rfl rfl call79 (kG) ?_
   refine .done (.block ?_)
   refine .wk (ax:=(28,.func 138 [] [.vp [.int .i64 i,.int .i64 j],.vp (cw c)])::[(2,.ptr 900 0),(3,.ptr 901 0),(4,.int .i64 i),(11,.int .i64 ((c.t.length:Int)+1)),(12,.int .i64 i),(19,.int .i64 ((c.c.length:Int)+1)),(20,.int .i64 j)]) (aP:=⟨1000,(901,.box [.func f xs ys])::(900,.box (bQ c (.aC (a8 (places c) (aZ c))) (.aC (a8 ps (bwd c))) (.int .i64 (aZ c c.t.length c.c.length))))::L1⟩) (.sub eV bN (by first|exact Nat.le_refl _|omega|(simp;done)|(simp;omega))) ?_
   refine Li c i j _ (fun pre n L=>∃Lw,L=(901,.box [.func f xs ys])::(900,.box (bQ c (.aC (a8 (places c) (aZ c))) (.aC (a8 ps (bwd c))) (.int .i64 (aZ c c.t.length c.c.length))))::Lw∧D9 Lw∧J (rH c (iI c) i j++pre.filter (iI c)) n Lw) (fun _ _ _=>False) hk oE ny ⟨L1,rfl,lz,by simpa using hJ⟩ rfl (by decide) rfl (fun pre n n' L ⟨Lw,h1,h2,h3⟩ h=>⟨Lw,h1,h2,cJ _ _ _ _ h3 h⟩) ?_ ?_ (fun _ _ h=>h.elim) (fun _ _ _ h=>h.elim)
   ·skip
    clear lz mM ke hJ
    rintro pre x j4 n _ iE hn ⟨Lw,rfl,lz,hJ⟩
    have hx:x∈steps c i j:=by rw[iE];simp
    have qD:=qD x i j hx oE ny
    have vF:=fun ht:iI c x=true=>Yp c oE ny iE ht
    have Ch:(pre++[x]).filter (iI c)=pre.filter (iI c)++if iI c x=true then [x] else []:=by rw[List.filter_append,List.filter_cons,List.filter_nil]
    obtain⟨m,rfl⟩:∃m,n=m+1000:=⟨n - 1000,by omega⟩
    refine VW.DE fun hf=>?_
    have tM:bs (m+1000) Lw=none:=vC (vC (hf _ (Nat.le_refl _)))
    have mM:=lz.1
    have ke:=lz.2
    have qpn:∀x,dN (m+1000) x Lw=Lw:=fun x=>ug tM
    obtain⟨a0,a1,a2,a3,a4,fL⟩:=xG x.s
    have Ix:∀r,nZ c=rH c (iI c) i j++pre.filter (iI c)++x::r→_:=fun r hr=>qC _ x r (m+1001) Lw hr (by omega) (cJ _ _ _ _ hJ (by omega))
    rw[xH x fL] at qD Ix ⊢
    obtain⟨tb,xI⟩:∃b,iI c x=b:=⟨_,rfl⟩
    rw[xI] at qD vF Ch
    clear hf iE hx fL qC bD
    refine .rn ?_
    refine .block (.seq (.au [0,1,2] rfl af (.rn [0,1] _ ?_)))
    refine .pc rfl rfl rfl rfl rfl call80 (qD) ?_
    refine .done ?_
    refine .cs ?_ ?_<;>intro eC
    ·try simp at eC
     obtain⟨r,hr⟩:=vF eC
     have Ix:=(Ix r hr).Lu (S:=[(m+1000,.box [.int .i64 x.i,.int .i64 x.j,.int .i64 x.i',.int .i64 x.j',.int .i64 a0,.int .i64 a1,.int .i64 a2,.int .i64 a3,.int .i64 a4,.int .i64 x.n,.bool x.s.isNone]),(901,.box [.func f xs ys]),(900,.box (bQ c (.aC (a8 (places c) (aZ c))) (.aC (a8 ps (bwd c))) (.int .i64 (aZ c c.t.length c.c.length))))]) Cd
     refine .au [0,1,2] rfl af (.rn [0,1] _ ?_)
     refine .step rfl rfl (.call rfl rfl rfl dR (by decide) (((Ix)).mono ?_))
     rintro v _ ⟨n',L',na,gf,hK,rfl⟩
     refine .done ?_
     refine⟨none,(901,.box [.func f xs ys])::(900,.box (bQ c (.aC (a8 (places c) (aZ c))) (.aC (a8 ps (bwd c))) (.int .i64 (aZ c c.t.length c.c.length))))::L',rfl,?_,?_,?_⟩
     ·have e0:bs (m+1000) L'=none:=gf _ (by omega) tM
      exact bF.skip (by simp[*]) (bF.refl _)
     ·refine jo.fS rfl (jo.fS rfl ?_)
      intro q hq EJ
      exact gf q (by omega) (vC (vC EJ))
     show ∃Lw,_=_∧_
     exact⟨L',rfl,⟨gf _ (by omega) mM,gf _ (by omega) ke⟩,by rw[Ch,if_pos eC,← List.append_assoc];exact hK⟩
    try simp at eC
    refine .skip ?_
    refine⟨none,(901,.box [.func f xs ys])::(900,.box (bQ c (.aC (a8 (places c) (aZ c))) (.aC (a8 ps (bwd c))) (.int .i64 (aZ c c.t.length c.c.length))))::Lw,rfl,?_,jo.refl _ _,?_⟩
    ·exact bF.skip (by simp[*]) (bF.refl _)
    show ∃Lw,_=_∧_
    exact⟨Lw,rfl,lz,by rw[Ch,if_neg (by rw[eC];simp),List.append_nil];exact cJ _ _ _ _ hJ (by simp)⟩
   skip
   clear lz mM ke hJ
   rintro n _ hn ⟨Lw,rfl,lz,hJ⟩
   obtain⟨L2,Qp,o0,Fg⟩:=bD _ n Lw hJ (by omega) lz
   rw[← Yr] at Qp
   refine .wk (.trans (.sub (ax:=[(2,.ptr 900 0),(3,.ptr 901 0),(4,.int .i64 i),(11,.int .i64 ((c.t.length:Int)+1)),(12,.int .i64 i),(19,.int .i64 ((c.c.length:Int)+1)),(20,.int .i64 j)]) eV (bF.refl _) (Nat.le_refl _)) (Fg i j)) ?_
   refine .rn ?_
   refine⟨(j+1,L2),⟨by simp only;omega,o0,Qp⟩,by simp only;omega,(.sub eV bN (by first|exact Nat.le_refl _|omega|(simp;done)|(simp;omega)))⟩
  try simp at dz
  obtain rfl:j=c.c.length+1:=by omega
  refine .exit (.rn ?_)
  refine⟨(i+1,L1),⟨by simp only;omega,lz,by simp only[← Ys];exact hJ⟩,by simp only;omega,(.sub eV bN (by first|exact Nat.le_refl _|omega|(simp;done)|(simp;omega)))⟩
 try simp at gg
 obtain rfl:i=c.t.length+1:=by omega
 refine .exit ?_
 exact⟨_,rfl,L1,bF.skip ke (bF.skip mM (bF.refl _)),by rw[Yt] at hJ;exact hJ⟩
theorem s5 (c:ao)(ps:List (Nat×Nat)):s4 c ps=.agg (bQ c (.aC (a8 (places c) (aZ c))) (.aC (a8 ps (bwd c))) (.int .i64 (aZ c c.t.length c.c.length))):=rfl
def Ci (c:ao)(s:aq):Option Int:=match aK c s with
 |some (n,i',w)=>if hasB c s.i.toNat w then some (aZ c s.a.toNat s.i.toNat+n+bwd c i' (s.i.toNat+w.length) - aZ c c.t.length c.c.length) else none
 |none=>none
def uj (c:ao)(s:aq):Int:=fwd c (fun x=>!Ay s x) c.t.length c.c.length
theorem Yu {c:ao}{j:Nat}{l:List Int}(h:hasB c j l=true):j+l.length≤c.c.length:=by unfold hasB at h;rw[bV,decide_eq_true_eq] at h;exact h.1
theorem Qq {c:ao}{s:aq}{n:Int}{i':Nat}{w:List Int}(h:aK c s=some (n,i',w)):0≤s.a∧s.a≤(c.t.length:Int)∧0≤s.i:=by
 unfold aK at h
 split at h
 ·rename_i hh;exact hh
 cases h
theorem Qr {c:ao}(hr:Rt c):iS (aZ c):=Iu hr _
theorem Yv (c:ao)(s:aq):bf c≠0∨(bf c=0∧aK c s=none∧Ci c s=none)∨(bf c=0∧∃n i' w,aK c s=some (n,i',w)∧hasB c s.i.toNat w=false∧Ci c s=none)∨
  (bf c=0∧∃n i' w,aK c s=some (n,i',w)∧hasB c s.i.toNat w=true∧Ci c s=some (aZ c s.a.toNat s.i.toNat+n+bwd c i' (s.i.toNat+w.length) - aZ c c.t.length c.c.length)):=by
 by_cases hk:bf c=0
 ·refine .inr ?_
  unfold Ci
  rcases hd:aK c s with _|⟨n,i',w⟩
  ·exact .inl ⟨hk,rfl,rfl⟩
  refine .inr ?_
  cases hb:hasB c s.i.toNat w
  ·exact .inl ⟨hk,n,i',w,rfl,hb,by simp[hb]⟩
  exact .inr ⟨hk,n,i',w,rfl,hb,by simp[hb]⟩
 exact .inl hk
section
variable [bG]
theorem Qt (c:ao)(hB:BC c):aN prog 43 [aD c] fun r=>r=.bn [.int .i64 (if bf c=0 then aZ c c.t.length c.c.length else 0),.int .i64 (bf c)]:=by
 have cK:=rz c hB
 have fQ:=Az c
 have hC:cw c=(cQ c):=rfl
 obtain⟨e,he⟩:∃e,bf c=e:=⟨_,rfl⟩
 rw[he] at cK fQ ⊢
 unfold aD at cK fQ ⊢
 rw[hC] at cK fQ ⊢
 refine .bP func43 rfl rfl ?_
 refine .sr ?_
 refine .seq (.seq (.au [0,1,2] rfl af (.rn [0] _ ?_)))
 refine .pc rfl rfl rfl rfl rfl call55 (cK) ?_
 refine .rn [2] [] ?_
 refine .done (.sr ?_)
 refine .cs ?_ ?_<;>intro c8
 ·try simp at c8
  refine .sr ?_
  refine .ret (aA ?_)
  exact zk
 try simp at c8
 subst c8
 refine .skip (.seq (.au fe rfl af (.rn [0] _ ?_)))
 refine .step rfl rfl (.pure rfl rfl rfl call77 (by decide) (fQ rfl) (by first|rfl|simp[*]) ?_)
 rintro _ ⟨ps,fy,rfl⟩
 rw[s5]
 refine .rn [2,3,4] [] ?_
 refine .done (.ret (aA ?_))
 exact zk
theorem Qu (s:aq):aN prog 89 [encS s] fun r=>r=.func 142 [] [.vp [.int .i64 s.k,.int .i64 s.a,.int .i64 s.i,.int .i64 s.l,.int .i64 s.w]]:=by
 unfold encS
 refine .bP func89 rfl rfl ?_
 refine .sr ?_
 refine .sr ?_
 refine .ret (aA ?_)
 exact zk
theorem Yw (c:ao)(s:aq)(hB:BC c):aN prog 30 [aD c,encS s] fun r=>r=.bn [.int .i64 (if bf c=0 then (Ci c s).getD 0 else 0),.int .i64 (if bf c=0 then (if Ci c s=none then 5 else 0) else bf c)]:=by
 have cK:=rz c hB
 have fQ:=Az c
 have b7:=BQ c s
 have hC:cw c=(cQ c):=rfl
 have hE:encS s=.agg [.int .i64 s.k,.int .i64 s.a,.int .i64 s.i,.int .i64 s.l,.int .i64 s.w]:=rfl
 unfold aD at cK fQ b7 ⊢
 rw[hE] at b7 ⊢
 rw[hC] at cK fQ b7 ⊢
 refine .bP func30 rfl rfl ?_
 rcases Yv c s with hk|⟨hk,hd,hm⟩|⟨hk,n,i',w,hd,hb,hm⟩|⟨hk,n,i',w,hd,hb,hm⟩
 ·
  rw[if_neg hk,if_neg hk]
  obtain⟨e,he⟩:∃e,bf c=e:=⟨_,rfl⟩
  rw[he] at cK hk ⊢
  refine .sr ?_
  refine .seq (.seq (.au [0,1,2] rfl af (.rn [0] _ ?_)))
  refine .pc rfl rfl rfl rfl rfl call55 (cK) ?_
  refine .rn [2] [] ?_
  refine .done (.sr ?_)
  refine .cs ?_ ?_<;>intro cb
  ·try simp at cb
   refine .sr ?_
   refine .ret (aA ?_)
   exact zk
  try simp at cb
  exact absurd cb hk
 ·
  rw[if_pos hk,if_pos hk,hm,if_pos rfl]
  rw[hk] at cK
  have b7:=b7 hk
  rw[xy hd] at b7
  unfold gd at b7
  refine .sr ?_
  refine .seq (.seq (.au [0,1,2] rfl af (.rn [0] _ ?_)))
  refine .pc rfl rfl rfl rfl rfl call55 (cK) ?_
  refine .rn [2] [] ?_
  refine .done (.sr ?_)
  refine .cs ?_ ?_<;>intro cb
  ·try simp at cb
  try simp at cb
  refine .skip (.seq (.au gb rfl af (.rn [0,1] _ ?_)))
  refine .pc rfl rfl rfl rfl rfl call95 (b7) ?_
  refine .rn [3,4,5,6,7,8,9,10,11,12] [] ?_
  refine .done (.seq (.seq (.au fw rfl af ?_)))
  refine .rn [0,1,2] _ ?_
  refine .split (t:=27) rfl (fun fg=>?_) (fun fg=>?_)
  ·try subst fg
   try simp at fg
   refine .rn [3,4,5,6,7,8,9] [] ?_
   refine .done (.ep rfl (.sr ?_))
   refine .ret (aA ?_)
   exact zk
  try subst fg
  try simp at fg
 ·
  rw[if_pos hk,if_pos hk,hm,if_pos rfl]
  rw[hk] at cK
  have b7:=b7 hk
  rw[ua hd] at b7
  unfold gd at b7
  have bj:=iC hk
  have iw:=Qq hd
  have qc:=(kS bj hd).2.2.2.2.2
  have ic:=pn c w s.i.toNat bj.cl (by omega)
  rw[hb,Int.toNat_of_nonneg iw.2.2] at ic
  unfold aD at ic
  rw[hC] at ic
  refine .sr ?_
  refine .seq (.seq (.au [0,1,2] rfl af (.rn [0] _ ?_)))
  refine .pc rfl rfl rfl rfl rfl call55 (cK) ?_
  refine .rn [2] [] ?_
  refine .done (.sr ?_)
  refine .cs ?_ ?_<;>intro cb
  ·try simp at cb
  try simp at cb
  refine .skip (.seq (.au gb rfl af (.rn [0,1] _ ?_)))
  refine .pc rfl rfl rfl rfl rfl call95 (b7) ?_
  refine .rn [3,4,5,6,7,8,9,10,11,12] [] ?_
  refine .done (.seq (.seq (.au fw rfl af ?_)))
  refine .rn [0,1,2] _ ?_
  refine .split (t:=27) rfl (fun fg=>?_) (fun fg=>?_)
  ·try subst fg
   try simp at fg
  try subst fg
  try simp at fg
  refine .rn [3,4,5,6] _ ?_
  refine .pc rfl rfl rfl rfl rfl call96 (ic) ?_
  refine .rn [8,9] [] ?_
  refine .done ?_
  refine .cs ?_ ?_<;>intro pr
  ·try simp at pr
   refine .sr ?_
   refine .ret (aA ?_)
   exact zk
  try simp at pr
 ·
  rw[if_pos hk,if_pos hk,hm,if_neg (by simp)]
  rw[hk] at cK
  have b7:=b7 hk
  rw[ua hd] at b7
  unfold gd at b7
  have bj:=iC hk
  have iw:=Qq hd
  have iE:=kS bj hd
  have qc:=iE.2.2.2.2.2
  have Lv:=iE.2.2.2.1
  have hn:=iE.1
  have ic:=pn c w s.i.toNat bj.cl (by omega)
  rw[hb,Int.toNat_of_nonneg iw.2.2] at ic
  unfold aD at ic
  rw[hC] at ic
  have hle:=Yu hb
  have eJ:=bj.cl
  obtain⟨i,hi⟩:∃i,s.a.toNat=i:=⟨_,rfl⟩
  obtain⟨j,hj⟩:∃j,s.i.toNat=j:=⟨_,rfl⟩
  obtain⟨j1,cZ⟩:∃j1,j+w.length=j1:=⟨_,rfl⟩
  have qx:s.a=(i:Int):=by omega
  have Iy:s.i=(j:Int):=by omega
  have vz:IntKind.i64.wrap (s.i+w.length)=(j1:Int):=by rw[Iy,wrap64 (by omega) (by omega)];omega
  rw[vz] at b7
  rw[hi,hj,cZ]
  rw[hj,cZ] at hle
  have fQ:=fQ hk
  have lN:=Qr bj c.t.length c.c.length
  have jV:=Qr bj i j
  have Yx:=Qm bj i' j1
  have hf:=Cf (FQ c) (show i≤c.t.length by omega) (show j≤c.c.length by omega) (aZ c)
  have Lx:=fun (ps:List (Nat×Nat)) (fy:Kp c ps)=>Cf fy Lv hle (bwd c)
  obtain⟨F,hF⟩:∃F,aZ c i j=F:=⟨_,rfl⟩
  obtain⟨B,Ly⟩:∃B,bwd c i' j1=B:=⟨_,rfl⟩
  obtain⟨Z,hZ⟩:∃Z,aZ c c.t.length c.c.length=Z:=⟨_,rfl⟩
  rw[hF] at hf jV ⊢
  rw[Ly] at Yx ⊢
  simp only[Ly] at Lx
  rw[hZ] at lN ⊢
  have w6:IntKind.i64.wrap (F+n)=F+n:=wrap64 (by omega) (by omega)
  have np:IntKind.i64.wrap (F+n+B)=F+n+B:=wrap64 (by omega) (by omega)
  have eO:IntKind.i64.wrap (F+n+B - Z)=F+n+B - Z:=wrap64 (by omega) (by omega)
  rw[qx,Iy] at b7 ⊢
  rw[Iy] at ic
  clear hd hm qc hi hj cZ vz qx Iy hF Ly iE iw hb hE
  refine .sr ?_
  refine .seq (.seq (.au [0,1,2] rfl af (.rn [0] _ ?_)))
  refine .pc rfl rfl rfl rfl rfl call55 (cK) ?_
  refine .rn [2] [] ?_
  refine .done (.sr ?_)
  refine .cs ?_ ?_<;>intro cb
  ·try simp at cb
  try simp at cb
  refine .skip (.seq (.au gb rfl af (.rn [0,1] _ ?_)))
  refine .pc rfl rfl rfl rfl rfl call95 (b7) ?_
  refine .rn [3,4,5,6,7,8,9,10,11,12] [] ?_
  refine .done (.seq (.seq (.au fw rfl af ?_)))
  refine .rn [0,1,2] _ ?_
  refine .split (t:=27) rfl (fun fg=>?_) (fun fg=>?_)
  ·try subst fg
   try simp at fg
  try subst fg
  try simp at fg
  refine .rn [3,4,5,6] _ ?_
  refine .pc rfl rfl rfl rfl rfl call96 (ic) ?_
  refine .rn [8,9] [] ?_
  refine .done ?_
  refine .cs ?_ ?_<;>intro pr
  ·try simp at pr
  try simp at pr
  refine .skip (.seq (.au dt rfl af (.rn [0] _ ?_)))
  refine .step rfl rfl (.pure rfl rfl rfl call77 (by decide) (fQ) (by first|rfl|simp[*]) ?_)
  rintro _ ⟨ps,fy,rfl⟩
  have Lx:=Lx ps fy
  rw[s5,hZ]
  refine .rn [2,3] [] ?_
  refine .done (.seq ?_)
  refine .drawn (ms:=[0,1,0,4,0,16,60,127,0,511,0,1024,0,7168,16383,0,32768,131071,262143,524287]) (W:=[]) (items:=Fo) rfl af af af ?_
  iterate 20 refine .rx ?_
  refine .done (.ret (aA ?_))
  exact zk
theorem Yy (c:ao)(s:aq)(hB:BC c):aN prog 32 [aD c,encS s] fun r=>r=.bn [.int .i64 (if bf c=0 then (if uj c s<1099511627776 then uj c s - aZ c c.t.length c.c.length else 0) else 0),.int .i64 (if bf c=0 then (if uj c s<1099511627776 then 0 else 5) else bf c)]:=by
 have cK:=rz c hB
 have fQ:=Az c
 have FU:=Qu s
 have oG:=fun ps hk=>Ls c ps (Ay s) 142 [] [.vp [.int .i64 s.k,.int .i64 s.a,.int .i64 s.i,.int .i64 s.l,.int .i64 s.w]] hk rfl (by simp[PV.aJ,PV.aH]) call142 (fun x=>FT s x)
 have hC:cw c=(cQ c):=rfl
 have hE:encS s=.agg [.int .i64 s.k,.int .i64 s.a,.int .i64 s.i,.int .i64 s.l,.int .i64 s.w]:=rfl
 simp only[show fwd c (fun x=>!Ay s x) c.t.length c.c.length=uj c s from rfl,s5] at oG
 obtain⟨wo,DG⟩:∃w,uj c s=w:=⟨_,rfl⟩
 simp only[DG] at oG ⊢
 obtain⟨e,he⟩:∃e,bf c=e:=⟨_,rfl⟩
 obtain⟨lt,aY⟩:∃b,decide (wo<1099511627776)=b:=⟨_,rfl⟩
 rw[he] at cK fQ oG ⊢
 simp only[aY] at oG
 unfold aD at cK fQ ⊢
 rw[hE] at FU ⊢
 rw[hC] at cK fQ ⊢
 clear hE
 refine .bP func32 rfl rfl ?_
 refine .sr ?_
 refine .seq (.seq (.au [0,1,2] rfl af (.rn [0] _ ?_)))
 refine .pc rfl rfl rfl rfl rfl call55 (cK) ?_
 refine .rn [2] [] ?_
 refine .done (.sr ?_)
 refine .cs ?_ ?_<;>intro oC
 ·try simp at oC
  refine .sr ?_
  refine .ret (aA ?_)
  simp[oC]
 try simp at oC
 subst oC
 refine .skip (.seq ?_)
 refine .drawn (ms:=[0,1,0,7,15,31,63,63,127,511]) (W:=[1,3,4]) (items:=[.op 0,.op 2,.op 1,.ck 2,.op 3,.op 4,.op 5,.op 6,.op 7,.op 8,.op 9]) rfl af af af ?_
 iterate 2 refine .rx ?_
 refine .wr rfl rfl (by decide) (.pure rfl rfl rfl call77 (by decide) (fQ rfl) (by first|rfl|simp[*]) ?_)
 rintro _ ⟨ps,fy,rfl⟩
 have oG:=oG ps rfl
 rw[s5]
 refine .ck rfl eQ ?_
 refine .wp rfl rfl rfl rfl rfl call89 (FU) ?_
 refine .wp rfl rfl rfl rfl rfl call83 (oG) ?_
 iterate 5 refine .rx ?_
 refine .done (.seq (.sr ?_))
 refine .cs ?_ ?_<;>intro fm
 ·try simp at fm
  refine .sr ?_
  refine .ret (aA ?_)
  simp[fm] at aY;simp[show ¬wo<1099511627776 by omega]
 try simp at fm
 refine .skip (.sr ?_)
 refine .ret (aA ?_)
 simp[fm] at aY;simp[aY]
theorem Yz (i:Nat)(x:aR):aN prog 84 [cV x,.vp [.int .i64 i]] fun r=>r=.bool (decide (x.s=none∧x.i=i)):=by
 obtain⟨a0,a1,a2,a3,a4,fL⟩:=xG x.s
 rw[xH x fL]
 obtain⟨b,hb⟩:∃b,x.s.isNone=b:=⟨_,rfl⟩
 have cS:x.s=none↔b=true:=by rw[← hb];cases x.s<;>simp
 rw[hb]
 simp only[cS]
 clear hb cS fL
 refine .bP func84 rfl rfl ?_
 refine .sr ?_
 refine .seq (.au fw rfl af (.rn [0,1,2] _ ?_))
 refine .split (t:=6) rfl (fun c6=>?_) (fun c6=>?_)
 ·try subst c6
  try simp at c6
  refine .rn [3,4,5,6,7,8,9] [] ?_
  refine .done (.ret (aA ?_))
  show PV.bool _=PV.bool _
  congr 1
  rw[Bool.eq_iff_iff]
  simp
  omega
 try subst c6
 try simp at c6
 refine .rn [3,4,5,6,7,8,9] [] ?_
 refine .done (.ret (aA ?_))
 rfl
theorem YA (c:ao)(ps:List (Nat×Nat))(hk:bf c=0)(i j i' j':Nat)(n:Int)(s:aq):aN prog 88 [s4 c ps,cV ⟨i,j,i',j',n,some s⟩] fun r=>r=.bool (Bool.or (!decide (uj c s<1099511627776)) (decide (0<uj c s - aZ c c.t.length c.c.length))):=by
 have FU:=Qu s
 have oG:=Ls c ps (Ay s) 142 [] [.vp [.int .i64 s.k,.int .i64 s.a,.int .i64 s.i,.int .i64 s.l,.int .i64 s.w]] hk rfl (by simp[PV.aJ,PV.aH]) call142 (fun x=>FT s x)
 have hE:encS s=.agg [.int .i64 s.k,.int .i64 s.a,.int .i64 s.i,.int .i64 s.l,.int .i64 s.w]:=rfl
 rw[show fwd c (fun x=>!Ay s x) c.t.length c.c.length=uj c s from rfl] at oG
 obtain⟨wo,DG⟩:∃w,uj c s=w:=⟨_,rfl⟩
 obtain⟨z,hz⟩:∃w,aZ c c.t.length c.c.length=w:=⟨_,rfl⟩
 obtain⟨lt,aY⟩:∃b,decide (wo<1099511627776)=b:=⟨_,rfl⟩
 rw[s5] at oG ⊢
 rw[DG,hz,aY] at oG ⊢
 rw[hE] at FU
 unfold cV B9
 clear hE aY DG
 refine .bP func88 rfl rfl ?_
 refine .sr ?_
 refine .seq ?_
 refine .drawn (ms:=[0,0,2,6,15,31,63,63,127,511]) (W:=[3,4]) (items:=[.op 0,.op 1,.op 2,.op 3,.ck 0,.op 4,.op 5,.op 6,.op 7,.op 8,.op 9]) rfl af af af ?_
 iterate 3 refine .rx ?_
 refine .wp rfl rfl rfl rfl rfl call89 (FU) ?_
 refine .ck rfl eQ ?_
 refine .wp rfl rfl rfl rfl rfl call83 (oG) ?_
 iterate 5 refine .rx ?_
 refine .done (.seq (.au gE rfl af ?_))
 refine .rn [0,1,2] _ ?_
 refine .split (t:=17) rfl (fun iT=>?_) (fun iT=>?_)
 ·try subst iT
  try simp at iT
  refine .rn [3,4,5,6] [] ?_
  refine .done (.ret (aA ?_))
  exact zk
 try subst iT
 try simp at iT
 refine .rn [3,4,5,6] [] ?_
 refine .done (.ret (aA ?_))
 exact zk
theorem YB (c:ao)(ps:List (Nat×Nat))(x:aR):aN prog 94 [s4 c ps,cV x] fun r=>r=.bool true:=by
 obtain⟨a0,a1,a2,a3,a4,fL⟩:=xG x.s
 rw[xH x fL,s5]
 refine .bP func94 rfl rfl ?_
 refine .sr ?_
 refine .sr ?_
 refine .ret (aA ?_)
 exact zk
theorem y4 (c:ao)(ps:List (Nat×Nat))(hk:bf c=0)(fy:Kp c ps)(f:FuncId)(xs ys:List PV)(dR:∀cs w,(callFunc f cs).run prog w=.ok (.enter f cs) w)(L0:bk)(J:List aR→Nat→bk→Prop)(h0:J [] 900 L0)
  (cJ:∀pre n n' L,J pre n L→n≤n'→J pre n' L)
  (qC:∀pre x j4 n L,nZ c=pre++x::j4→900≤n→J pre n L→Iw prog f (xs++[cV x]++ys) n L fun _ n' L'=>J (pre++[x]) n' L')
  (bD:∀pre n L,J pre n L→900≤n→D9 L→∃L',J pre 1000 L'∧D9 L'∧∀i j:Nat,Wk 900 [(2,.ptr 900 0),(3,.ptr 901 0),(4,.int .i64 i),(11,.int .i64 ((c.t.length:Int)+1)),(12,.int .i64 i),(19,.int .i64 ((c.c.length:Int)+1)),(20,.int .i64 j)] ⟨n,(901,.box [.func f xs ys])::(900,.box (bQ c (.aC (a8 (places c) (aZ c))) (.aC (a8 ps (bwd c))) (.int .i64 (aZ c c.t.length c.c.length))))::L⟩ [(2,.ptr 900 0),(3,.ptr 901 0),(4,.int .i64 i),(11,.int .i64 ((c.t.length:Int)+1)),(12,.int .i64 i),(19,.int .i64 ((c.c.length:Int)+1)),(20,.int .i64 j)] ⟨1000,(901,.box [.func f xs ys])::(900,.box (bQ c (.aC (a8 (places c) (aZ c))) (.aC (a8 ps (bwd c))) (.int .i64 (aZ c c.t.length c.c.length))))::L'⟩) :
  du prog 81 [s4 c ps,.func f xs ys] ⟨900,L0⟩ fun v ak=>∃n L',J (nZ c) n L'∧ak=⟨n,L'⟩:=
 (Yq c ps hk fy f xs ys dR L0 J h0 cJ qC bD).post fun v b9 ⟨L',h1,h2⟩=>⟨⟨b9.next,L'⟩,h1,Nat.le_refl _,_,L',h2,rfl⟩
end
def qE (D:Nat→Nat→Int)(x:aR):Nat→Nat→Int:=bz D x.i' x.j' (min 1073741824 (D x.i' x.j'+D x.i x.j))
def mN:Nat→Nat→Int:=bz (fun _ _=>0) 0 0 1
def vG (c:ao):Int:=(nZ c).foldl qE mN c.t.length c.c.length
def Z0 (ks:List (Nat×Nat))(D:Nat→Nat→Int):Prop:=(∀i j,(i,j)∉ks→D i j=0)∧∀i j,0≤D i j∧D i j≤1073741824
theorem Lz {ks:List (Nat×Nat)}{D:Nat→Nat→Int}(h:Z0 ks D)(i j:Nat):(∃d,D i j=d∧0≤d∧d≤1073741824∧kV [.int .i64 i,.int .i64 j] (a8 ks D)=some (some (.int .i64 d)))∨(D i j=0∧kV [.int .i64 i,.int .i64 j] (a8 ks D)=some none):=by
 have hf:=vy i j D ks
 by_cases hm:(i,j)∈ks
 ·rw[if_pos hm] at hf;exact .inl ⟨D i j,rfl,(h.2 i j).1,(h.2 i j).2,hf⟩
 rw[if_neg hm] at hf;exact .inr ⟨h.1 i j hm,hf⟩
theorem Iz {ks:List (Nat×Nat)}{D:Nat→Nat→Int}(h:Z0 ks D)(i j:Nat){v:Int}(h0:0≤v)(h1:v≤1073741824):∃qF,Z0 qF (bz D i j v)∧qz [.int .i64 i,.int .i64 j] [.int .i64 i,.int .i64 j] (.int .i64 v) (a8 ks D)=some (a8 qF (bz D i j v)):=by
 have hb:∀a b,0≤bz D i j v a b∧bz D i j v a b≤1073741824:=fun a b=>by
  unfold bz;split
  ·exact⟨h0,h1⟩
  exact h.2 a b
 by_cases hm:(i,j)∈ks
 ·refine⟨ks,⟨fun a b gu=>?_,hb⟩,FB hm v⟩
  unfold bz;split
  ·rename_i hh;exact absurd (by rw[hh.1,hh.2];exact hm) gu
  exact h.1 a b gu
 refine⟨ks++[(i,j)],⟨fun a b gu=>?_,hb⟩,FE hm v⟩
 rw[List.mem_append,List.mem_singleton,bO,not_or] at gu
 unfold bz;rw[if_neg gu.2];exact h.1 a b gu.1
section
variable [bG]
theorem LA (c:ao)(n:Nat)(ks:List (Nat×Nat))(D:Nat→Nat→Int)(x:aR)(hn:900≤n)(hz:Z0 ks D):du prog 106 [cV x,.ptr 2 0] ⟨n,[(2,.box [.ba 1]),(1,.map (a8 (ks) (D))),(0,.box (cQ c))]⟩ fun v ak=>∃qF,Z0 qF (qE D x)∧bF [(2,.box [.ba 1]),(1,.map (a8 (qF) (qE D x))),(0,.box (cQ c))] ak.bg∧n≤ak.next:=by
 obtain⟨a0,a1,a2,a3,a4,fL⟩:=xG x.s
 rw[xH x fL]
 obtain⟨m,rfl⟩:∃m,n=m+900:=⟨n - 900,by omega⟩
 have hP:qE D x=bz D x.i' x.j' (min 1073741824 (D x.i' x.j'+D x.i x.j)):=rfl
 clear fL
 refine .bP func106 rfl rfl ?_
 rcases Lz hz x.i' x.j' with⟨d0,e0,xJ,h01,jV⟩|⟨e0,jV⟩<;>rcases Lz hz x.i x.j with⟨d1,e1,xK,h11,xF⟩|⟨e1,xF⟩
 ·
  rw[e0,e1] at hP
  have hm:(if d0+d1<1073741824 then d0+d1 else 1073741824)=min 1073741824 (d0+d1):=by split<;>omega
  have hw:IntKind.i64.wrap (d0+d1)=d0+d1:=wrap64 (by omega) (by omega)
  obtain⟨qF,jT,sW⟩:=Iz hz x.i' x.j' (v:=min 1073741824 (d0+d1)) (by omega) (by omega)
  rw[← hP] at jT
  refine .sr ?_
  refine .drawn (ms:=[0,0,2,0,0,16,56,0,0,256,896,2040,4088,8191]) (W:=[13]) (items:=xB) rfl af af af ?_
  iterate 13 refine .rx ?_
  refine .wv ?_
  refine .done ?_
  refine⟨_,gp,qF,jT,?_,by simp⟩
  rw[hP]
  exact bN
 ·
  rw[e0,e1,Int.add_zero] at hP
  have hm:(if d0<1073741824 then d0 else 1073741824)=min 1073741824 d0:=by split<;>omega
  have hw:IntKind.i64.wrap d0=d0:=wrap64 (by omega) (by omega)
  obtain⟨qF,jT,sW⟩:=Iz hz x.i' x.j' (v:=min 1073741824 d0) (by omega) (by omega)
  rw[← hP] at jT
  refine .sr ?_
  refine .drawn (ms:=[0,0,2,0,0,16,56,0,0,256,896,2040,4088,8191]) (W:=[13]) (items:=xB) rfl af af af ?_
  iterate 13 refine .rx ?_
  refine .wv ?_
  refine .done ?_
  refine⟨_,gp,qF,jT,?_,by simp⟩
  rw[hP]
  exact bN
 ·
  rw[e0,e1,Int.zero_add] at hP
  have hm:(if d1<1073741824 then d1 else 1073741824)=min 1073741824 d1:=by split<;>omega
  have hw:IntKind.i64.wrap d1=d1:=wrap64 (by omega) (by omega)
  obtain⟨qF,jT,sW⟩:=Iz hz x.i' x.j' (v:=min 1073741824 d1) (by omega) (by omega)
  rw[← hP] at jT
  refine .sr ?_
  refine .drawn (ms:=[0,0,2,0,0,16,56,0,0,256,896,2040,4088,8191]) (W:=[13]) (items:=xB) rfl af af af ?_
  iterate 13 refine .rx ?_
  refine .wv ?_
  refine .done ?_
  refine⟨_,gp,qF,jT,?_,by simp⟩
  rw[hP]
  exact bN
 ·
  rw[e0,e1] at hP
  have hm:min (1073741824:Int) (0+0)=0:=by decide
  have hw:IntKind.i64.wrap 0=0:=by decide
  rw[hm] at hP
  obtain⟨qF,jT,sW⟩:=Iz hz x.i' x.j' (v:=0) (by omega) (by omega)
  rw[← hP] at jT
  refine .sr ?_
  refine .drawn (ms:=[0,0,2,0,0,16,56,0,0,256,896,2040,4088,8191]) (W:=[13]) (items:=xB) rfl af af af ?_
  iterate 13 refine .rx ?_
  refine .wv ?_
  refine .done ?_
  refine⟨_,gp,qF,jT,?_,by simp⟩
  rw[hP]
  exact bN
theorem Qv (c:ao)(hB:BC c):aN prog 48 [aD c] fun r=>r=.bn [.int .i64 (if bf c=0 then vG c else 0),.int .i64 (bf c)]:=by
 have cK:=rz c hB
 have fQ:=Az c
 have kq:=FN c
 have hC:cw c=(cQ c):=rfl
 obtain⟨e,he⟩:∃e,bf c=e:=⟨_,rfl⟩
 have er:=he
 rw[he] at cK fQ kq ⊢
 unfold aD at cK fQ kq ⊢
 unfold gd at kq
 rw[hC] at cK fQ kq ⊢
 have ko:qz [.int .i64 0,.int .i64 0] [.int .i64 0,.int .i64 0] (.int .i64 1) []=some (a8 [(0,0)] mN):=FE (a:=0) (b:=0) (D:=fun _ _=>0) (ps:=[]) (by simp) 1
 have YC:Z0 [(0,0)] mN:=⟨fun i j h=>by
  unfold mN bz
  rw[if_neg (fun hh=>h (by rw[hh.1,hh.2];simp))],fun i j=>by unfold mN bz;split<;>simp⟩
 refine .bP func48 rfl rfl ?_
 refine .sr ?_
 refine .seq (.seq (.au [0,1,2] rfl af (.rn [0] _ ?_)))
 refine .pc rfl rfl rfl rfl rfl call55 (cK) ?_
 refine .rn [2] [] ?_
 refine .done (.sr ?_)
 refine .cs ?_ ?_<;>intro c9
 ·try simp at c9
  refine .sr ?_
  refine .ret (aA ?_)
  exact zk
 try simp at c9
 subst c9
 have kq:=kq rfl
 refine .skip (.sr ?_)
 refine .seq (.au dt rfl af (.rn [0] _ ?_))
 refine .step rfl rfl (.pure rfl rfl rfl call77 (by decide) (fQ rfl) (by first|rfl|simp[*]) ?_)
 rintro _ ⟨ps,fy,rfl⟩
 have qG:=y4 c ps er fy 106 [] [.ptr 2 0] call106 [(2,.box [.ba 1]),(1,.map (a8 ([(0,0)]) (mN))),(0,.box (cQ c))] (fun pre n L=>∃ks,Z0 ks (pre.foldl qE mN)∧L=[(2,.box [.ba 1]),(1,.map (a8 (ks) (pre.foldl qE mN))),(0,.box (cQ c))]) ⟨[(0,0)],YC,rfl⟩ (fun _ _ _ _ h _=>h) (fun pre x j4 n L iE hn ⟨ks,hz,hL⟩=>by
 subst hL
 exact(LA c n ks _ x hn hz).mono fun v ak ⟨qF,h1,h2,h3⟩=>⟨_,h2,h3,kW,qF,by rw[List.foldl_append];exact h1,by rw[List.foldl_append];rfl⟩) (fun pre n L ⟨ks,hz,hL⟩ hn hd=>by
 subst hL
 exact⟨_,⟨ks,hz,rfl⟩,⟨rfl,rfl⟩,fun i j=>Rec.wk bT⟩)
 rw[s5] at qG ⊢
 refine .rn [2] _ ?_
 refine .step rfl rfl (.qy (ax:=[(1,.ptr 0 0),(5,.ptr 2 0),(15,.agg (bQ c (.aC (a8 (places c) (aZ c))) (.aC (a8 ps (bwd c))) (.int .i64 (aZ c c.t.length c.c.length)))),(16,.func 106 [] [.ptr 2 0])]) (aP:=⟨900,[(2,.box [.ba 1]),(1,.map (a8 ([(0,0)]) (mN))),(0,.box (cQ c))]⟩) bT (.call rfl rfl rfl call81 (by decide) (((qG)).mono ?_)))
 rintro _ _ ⟨n,L,⟨ks,hz,rfl⟩,rfl⟩
 obtain⟨D,hD⟩:∃D,(nZ c).foldl qE mN=D:=⟨_,rfl⟩
 have gq:vG c=D c.t.length c.c.length:=by unfold vG;rw[hD]
 rw[hD] at hz ⊢
 rw[gq]
 have FV:=Lz hz c.t.length c.c.length
 clear qG
 refine .done (.seq ?_)
 refine .drawn (ms:=[0,0,2,7,15,31]) (W:=[2]) (items:=[.op 0,.op 1,.op 2,.ck 0,.op 3,.op 4,.op 5]) rfl af af af ?_
 iterate 2 refine .rx ?_
 refine .wp rfl rfl rfl rfl rfl call78 (kq) ?_
 rcases FV with⟨d,e,h0,h1,hf⟩|⟨e,hf⟩
 ·skip
  refine .ck rfl eQ ?_
  iterate 3 refine .rx ?_
  refine .done (.ret (aA ?_))
  rw[e];rfl
 skip
 refine .ck rfl eQ ?_
 iterate 3 refine .rx ?_
 refine .done (.ret (aA ?_))
 rw[e];rfl
end
def Cj (i0:Int)(q:Int×Int)(x:aR):Int×Int:=if (x.i:Int)<i0∧i0≤(x.i':Int) then (min q.1 x.j',max q.2 x.j') else q
def Ck (c:ao)(i0:Int):Int×Int:=(nZ c).foldl (Cj i0) ((c.c.length:Int),0)
def s6 (c:ao)(i0:Int):(Int×Int)×Int:=if bf c≠0 then ((0,0),bf c) else if ¬(0≤i0∧i0≤(c.t.length:Int)) then ((0,0),1) else if i0=0 then ((0,0),0) else (Ck c i0,0)
section
variable [bG]
theorem YD (c:ao)(n:Nat)(i0:Int)(q:Int×Int)(x:aR)(hn:900≤n):du prog 86 [cV x,.ptr 1 0,.ptr 3 0] ⟨n,[(3,.box [.int .i64 (q.1),.int .i64 (q.2)]),(2,.box [.int .i64 0,.int .i64 0]),(1,.box [.int .i64 i0]),(0,.box (cQ c))]⟩ fun v ak=>bF [(3,.box [.int .i64 ((Cj i0 q x).1),.int .i64 ((Cj i0 q x).2)]),(2,.box [.int .i64 0,.int .i64 0]),(1,.box [.int .i64 i0]),(0,.box (cQ c))] ak.bg∧n≤ak.next:=by
 obtain⟨a0,a1,a2,a3,a4,fL⟩:=xG x.s
 rw[xH x fL]
 obtain⟨m,rfl⟩:∃m,n=m+900:=⟨n - 900,by omega⟩
 obtain⟨lo,hi⟩:=q
 have Ch:Cj i0 (lo,hi) x=if (x.i:Int)<i0∧i0≤(x.i':Int) then (min lo x.j',max hi x.j') else (lo,hi):=rfl
 obtain⟨e0,er⟩:∃b,decide ((x.i:Int)<i0)=b:=⟨_,rfl⟩
 obtain⟨e1,fG⟩:∃b,decide (i0≤(x.i':Int))=b:=⟨_,rfl⟩
 have mF:(if (x.j':Int)<lo then (x.j':Int) else lo)=min lo x.j':=by split<;>omega
 have cq:(if hi<(x.j':Int) then (x.j':Int) else hi)=max hi x.j':=by split<;>omega
 clear fL
 refine .bP func86 rfl rfl ?_
 refine .sr ?_
 refine .seq (.au vk rfl af (.rn iB _ ?_))
 refine .split (t:=9) rfl (fun c9=>?_) (fun c9=>?_)
 ·try subst c9
  try simp at c9
  refine .rn [6,7,8,9,10,11] [] ?_
  refine .done ?_
  refine .cs ?_ ?_<;>intro cb
  ·try simp at cb
   refine .rn ?_
   subst cb
   refine⟨_,gp,?_,by simp⟩
   rw[Ch,if_pos ⟨by simpa using er,by simpa using fG⟩]
   exact bN
  try simp at cb
  refine .skip ?_
  subst cb
  refine⟨_,gp,?_,by simp⟩
  rw[Ch,if_neg (fun hh=>by simp[hh.2] at fG)]
  exact bN
 try subst c9
 try simp at c9
 refine .rn [6,7,8,9,10,11] [] ?_
 refine .done (.gn rfl (.skip ?_))
 refine⟨_,gp,?_,by simp⟩
 rw[Ch,if_neg (fun hh=>by simp[hh.1] at er)]
 exact bN
theorem YE (c:ao)(i0:Int)(hB:BC c):aN prog 24 [aD c,.int .i64 i0] fun r=>r=.bn [.agg [.int .i64 (s6 c i0).1.1,.int .i64 (s6 c i0).1.2],.int .i64 (s6 c i0).2]:=by
 have cK:=rz c hB
 have fQ:=Az c
 have jA:=sE i0 0 c.t.length
 have hC:cw c=(cQ c):=rfl
 obtain⟨e,he⟩:∃e,bf c=e:=⟨_,rfl⟩
 have er:=he
 obtain⟨wi,dW⟩:∃b,(decide (0≤i0)&&decide (i0≤(c.t.length:Int)))=b:=⟨_,rfl⟩
 rw[dW] at jA
 have hv:s6 c i0=if e≠0 then ((0,0),e) else if ¬(0≤i0∧i0≤(c.t.length:Int)) then ((0,0),1) else if i0=0 then ((0,0),0) else (Ck c i0,0):=by unfold s6;rw[he]
 rw[he] at cK fQ
 unfold aD at cK fQ ⊢
 rw[hC] at cK fQ ⊢
 refine .bP func24 rfl rfl ?_
 refine .sr ?_
 refine .seq (.seq (.au [0,1,2] rfl af (.rn [0] _ ?_)))
 refine .pc rfl rfl rfl rfl rfl call55 (cK) ?_
 refine .rn [2] [] ?_
 refine .done (.sr ?_)
 refine .cs ?_ ?_<;>intro jq
 ·try simp at jq
  rw[if_pos jq] at hv
  refine .sr ?_
  refine .ret (aA ?_)
  exact zk
 try simp at jq
 subst jq
 rw[if_neg (by simp)] at hv
 refine .skip (.seq (.seq (.au iB rfl af (.rn dt _ ?_))))
 refine .pc rfl rfl rfl rfl rfl call85 (jA) ?_
 refine .rn [5] [] ?_
 refine .done ?_
 refine .cs ?_ ?_<;>intro jC
 ·try simp at jC
  have dm:¬(0≤i0∧i0≤(c.t.length:Int)):=fun hh=>by rw[jC] at dW;simp[hh.1,hh.2] at dW
  rw[if_pos dm] at hv
  refine .sr ?_
  refine .ret (aA ?_)
  exact zk
 try simp at jC
 have dm:0≤i0∧i0≤(c.t.length:Int):=by rw[jC] at dW;simpa using dW
 rw[if_neg (by simp[dm])] at hv
 refine .skip (.seq (.sr ?_))
 refine .cs ?_ ?_<;>intro pj
 ·try simp at pj
  rw[if_pos pj] at hv
  refine .sr ?_
  refine .ret (aA ?_)
  exact zk
 try simp at pj
 rw[if_neg pj] at hv
 refine .skip (.sr ?_)
 refine .seq (.au dt rfl af (.rn [0] _ ?_))
 refine .step rfl rfl (.pure rfl rfl rfl call77 (by decide) (fQ rfl) (by first|rfl|simp[*]) ?_)
 rintro _ ⟨ps,fy,rfl⟩
 have qG:=y4 c ps er fy 86 [] [.ptr 1 0,.ptr 3 0] call86 [(3,.box [.int .i64 ((c.c.length:Int)),.int .i64 (0)]),(2,.box [.int .i64 0,.int .i64 0]),(1,.box [.int .i64 i0]),(0,.box (cQ c))] (fun pre n L=>L=[(3,.box [.int .i64 ((pre.foldl (Cj i0) ((c.c.length:Int),0)).1),.int .i64 ((pre.foldl (Cj i0) ((c.c.length:Int),0)).2)]),(2,.box [.int .i64 0,.int .i64 0]),(1,.box [.int .i64 i0]),(0,.box (cQ c))]) rfl (fun _ _ _ _ h _=>h) (fun pre x j4 n L iE hn hL=>by
 subst hL
 exact(YD c n i0 _ x hn).mono fun v ak ⟨h2,h3⟩=>⟨_,h2,h3,kW,by rw[List.foldl_append];rfl⟩) (fun pre n L hL hn hd=>by
 subst hL
 exact⟨_,rfl,⟨rfl,rfl⟩,fun i j=>Rec.wk (.mk [] [] FW FX rfl rfl rfl)⟩)
 rw[s5] at qG ⊢
 refine .rn [2] _ ?_
 refine .step rfl rfl (.qy (ax:=[(2,.ptr 0 0),(3,.ptr 1 0),(4,.ptr 2 0),(7,.ptr 3 0),(29,.agg (bQ c (.aC (a8 (places c) (aZ c))) (.aC (a8 ps (bwd c))) (.int .i64 (aZ c c.t.length c.c.length)))),(30,.func 86 [] [.ptr 1 0,.ptr 3 0])]) (aP:=⟨900,[(3,.box [.int .i64 ((c.c.length:Int)),.int .i64 (0)]),(2,.box [.int .i64 0,.int .i64 0]),(1,.box [.int .i64 i0]),(0,.box (cQ c))]⟩) (.mk [] [] FW FX rfl rfl rfl) (.call rfl rfl rfl call81 (by decide) (((qG)).mono ?_)))
 rintro _ _ ⟨n,L,rfl,rfl⟩
 obtain⟨q,hq⟩:∃q,(nZ c).foldl (Cj i0) ((c.c.length:Int),0)=q:=⟨_,rfl⟩
 have gq:Ck c i0=q:=hq
 rw[hq]
 rw[gq] at hv
 obtain⟨lo,hi⟩:=q
 clear qG hq
 refine .done (.sr ?_)
 refine .ret (aA ?_)
 exact zk
end
end Go.Am.Sl
end
