/-
 What is used in the proof of a statement (part SlI20); no condition.
-/
import Derived.Test.YthnmgbgmlhackaaGreatDoorSlH
import Derived.Test.YthnmgbgmlhackaaGreatDoorSlI0
import Derived.Test.YthnmgbgmlhackaaGreatDoorSlI1
import Derived.Test.YthnmgbgmlhackaaGreatDoorSlI2
import Derived.Test.YthnmgbgmlhackaaGreatDoorSlI4
import Derived.Test.YthnmgbgmlhackaaGreatDoorSlI5
import Derived.Test.YthnmgbgmlhackaaGreatDoorSlI7
import Derived.Test.YthnmgbgmlhackaaGreatDoorSlI9
import Derived.Test.YthnmgbgmlhackaaGreatDoorSlI11
import Derived.Test.YthnmgbgmlhackaaGreatDoorSlI14
set_option linter.all false
set_option maxHeartbeats 40000000
set_option maxRecDepth 100000
section
namespace Go.Am.Sl
open Go Go.Am Go.Proofs Tryz
attribute [local simp] de fQ lz dz dN jD af.back b6 dG iO bm Nat.testBit_eq_decide_div_mod_eq ct gf jB vO kN dX kO gE cJ jR jQ kK dY kL j9 jq ly j8 kM kF kC kG kD kE kH kI jM di ig dd kP jS ka kQ kR jL ls lu dW jC dy dx dA iL dK jY jO jP gX kz a7 j7 dw bA bC ja af.get af.alloc af.put af.drop af.empty bq cg gd gR fe cp chunk List.range List.range.loop iP lA jr bI bG PV.aD PV.az PV.b8 PV.dv eu dZ kc PV.one PV.ids PV.bT fJ beq_eq lQ l9
attribute [local simp] cQ bQ cw Eg CL jN jc ef dD
attribute [local simp ↓ high] mG ma
theorem SX {ks:List (Nat×Nat)}{D:Nat→Nat→Int}(hz:Z0 ks D)(i j:Nat)(vh:af)(h:bq 2 vh.br=some (.map (aR ks D))):jE prog vh 167 (.a6 2) [.int .i64 i,.int .i64 j] false=some (.int .i64 (D i j)):=by
 unfold jE
 rw[CL]
 rcases Na hz i j with⟨d,hd,_,_,hf⟩|⟨hd,hf⟩
 ·simp[jc,ef,dD,h,hf,hd]
 simp[jc,ef,dD,h,hf,hd]
theorem z6r {L:List ay}{k:Nat}{x:ay}(h:L[k]?=some x):(L.take (k+1)).foldl mf iU=mf ((L.take k).foldl mf iU) x:=by
 rw[List.take_add_one,h,Option.toList_some,List.foldl_append];rfl
section
variable [bE]
theorem p47 (c:aj)(hB:BC c):aI prog 47 [aA c] fun r=>r=.agg [.int .i64 (if aN c=0 then aS c c.t.length c.c.length else 0),.int .i64 (aN c)]:=by
 have fY:=A8 c hB
 have mJ:=fun hk:aN c=0=>aI.soft (KI c hk) (rj _)
 have fE:=fun (hk:aN c=0) L hs=>Gt c L hk hs
 have hC:cu c=(cQ c):=rfl
 obtain⟨e,he⟩:∃e,aN c=e:=⟨_,rfl⟩
 have bR:=he
 rw[he] at fY ⊢
 unfold aA at fY mJ fE ⊢
 rw[hC] at fY mJ fE ⊢
 refine .bJ func47 rfl rfl ?_
 refine .sr ?_
 refine .seq (.ar [0,1,2] rfl ae (.rn [0] _ ?_))
 refine .pc rfl rfl rfl rfl rfl call66 (fY) ?_
 refine .rn [2] [] ?_
 refine .done (.seq (.sr ?_))
 refine .cs ?_ ?_<;>intro c7
 ·try simp at c7
  refine .sr ?_
  refine .ret (ax ?_)
  rw[if_neg c7]
 try simp at c7
 subst c7
 have aP:=fC bR
 have mJ:=mJ bR
 have fE:=fE bR _ (Sub.graph c)
 have Em:=Oa aP
 rw[show eR c=aS c c.t.length c.c.length from rfl] at Em
 rw[Em] at fE
 obtain⟨G,hG⟩:∃G,graph c=G:=⟨_,rfl⟩
 rw[hG] at mJ fE
 simp only[if_true]
 clear Em hG
 refine .skip (.seq ?_)
 refine .drawn (ms:=[0,0,2,7,15,31]) (W:=[2,3,5]) (items:=Wh) rfl ae ae ae ?_
 iterate 2 refine .rx ?_
 refine .wp rfl rfl rfl rfl rfl call97 (mJ) ?_
 refine .ck rfl eQ ?_
 refine .wp rfl rfl rfl rfl rfl call91 (fE) ?_
 refine .rx ?_
 refine .wv ?_
 refine .done (.ret (ax ?_))
 exact zk
theorem p49 (c:aj)(hB:BC c):aI prog 49 [aA c] fun r=>r=.agg [.int .i64 (if aN c=0 then tj c else 0),.int .i64 (aN c)]:=by
 have fY:=A8 c hB
 have jy:=fun hk:aN c=0=>aI.soft (Lb c hk) (rj _)
 have hC:cu c=(cQ c):=rfl
 obtain⟨e,he⟩:∃e,aN c=e:=⟨_,rfl⟩
 have bR:=he
 rw[he] at fY ⊢
 unfold aA at fY jy ⊢
 rw[hC] at fY jy ⊢
 refine .bJ func49 rfl rfl ?_
 refine .sr ?_
 refine .seq (.ar [0,1,2] rfl ae (.rn [0] _ ?_))
 refine .pc rfl rfl rfl rfl rfl call66 (fY) ?_
 refine .rn [2] [] ?_
 refine .done (.seq (.sr ?_))
 refine .cs ?_ ?_<;>intro fp
 ·try simp at fp
  refine .sr ?_
  refine .ret (ax ?_)
  rw[if_neg fp]
 try simp at fp
 subst fp
 have aP:=fC bR
 have jy:=jy bR
 rw[Lc aP] at jy
 have da:=(Be c).len aP
 have jn:tj c=(dS c).foldl mf iU c.t.length c.c.length:=rfl
 obtain⟨L,hL⟩:∃L,dS c=L:=⟨_,rfl⟩
 rw[hL] at jy da jn
 have yu:rO [.int .i64 0,.int .i64 0] [.int .i64 0,.int .i64 0] (.int .i64 1) []=some (aR [(0,0)] iU):=rfl
 have Nb:Z0 [(0,0)] iU:=⟨fun i j h=>by
   unfold iU bh
   rw[if_neg (fun hh=>h (by rw[hh.1,hh.2];exact List.mem_singleton.2 rfl))],fun i j=>by
   unfold iU bh
   split
   ·exact⟨by decide,by decide⟩
   exact⟨Int.le_refl _,show (0:Int)≤1073741824 by decide⟩⟩
 simp only[if_true]
 clear hL
 refine .skip (.seq (.ar [0,1,2] rfl ae (.rn [0] _ ?_)))
 refine .pc rfl rfl rfl rfl rfl call90 (jy) ?_
 refine .rn [2] [] ?_
 refine .done (.sr ?_)
 refine .sr ?_
 refine .seq (.sr ?_)
 refine .block ?_
 refine .cZ (fun z:Nat×List (Nat×Nat)=>([(1,.ptr 0 0),(2,.ptr 1 0),(4,.vec (L.map bZ)),(5,.a6 2),(6,.int .i64 z.1)],⟨3,[(2,.map (aR z.2 ((L.take z.1).foldl mf iU))),(1,.box [.int .i64 0,.int .i64 0]),(0,.box (cQ c))]⟩)) (fun z=>z.1≤L.length∧Z0 z.2 ((L.take z.1).foldl mf iU)) (fun z=>L.length - z.1) (0,[(0,0)]) ⟨Nat.zero_le _,Nb⟩ aX ?_
 rintro⟨k,ks⟩ ⟨ee,hz⟩
 simp only at ee hz ⊢
 clear Nb yu
 refine .seq (.sr ?_)
 refine .cs ?_ ?_<;>intro e8
 ·try simp at e8
  have qA:IntKind.i64.wrap ((k:Int)+1)=((k+1:Nat):Int):=by rw[wrap64 (by omega) (by omega)];omega
  have dm:k<L.length:=by omega
  obtain⟨x,hx⟩:∃x,L[k]?=some x:=⟨_,List.getElem?_eq_getElem dm⟩
  have ic:L[k]=x:=(List.getElem?_eq_some_iff.1 hx).2
  have dp:=z6r hx
  obtain⟨xk,xa,xi,xl,xw,hD,_⟩:=Ss x
  obtain⟨D,xR⟩:∃D,(L.take k).foldl mf iU=D:=⟨_,rfl⟩
  rw[xR] at hz dp ⊢
  have oY:=hz.2 x.i' x.j'
  have eM:=hz.2 x.i x.j
  have nf:=SX hz x.i' x.j'
  have ll:=SX hz x.i x.j
  have iY:mf D x=bh D x.i' x.j' (min 1073741824 (D x.i' x.j'+D x.i x.j)):=rfl
  rw[iY] at dp
  obtain⟨d0,n3⟩:∃v,D x.i' x.j'=v:=⟨_,rfl⟩
  obtain⟨d1,mB⟩:∃v,D x.i x.j=v:=⟨_,rfl⟩
  rw[n3] at oY nf dp
  rw[mB] at eM ll dp
  have hw:IntKind.i64.wrap (d0+d1)=d0+d1:=wrap64 (by omega) (by omega)
  obtain⟨tk,lY,rN⟩:=JN hz x.i' x.j' (v:=min 1073741824 (d0+d1)) (by omega) (by omega)
  rw[← dp] at lY rN
  rw[N8] at rN
  clear iY jn hz xR dp n3 mB
  refine .skip (.seq (.block ?_))
  refine .drawn (ms:=[0,0,0,6,14,30,0,0,0,384,896,1920,4032,0,0,0,49152,114688,245760,516096,1048512,2097088,4194303]) (W:=[22]) (items:=Li) rfl ae ae ae ?_
  iterate 22 refine .rx ?_
  refine .wv ?_
  refine .done (.rn ?_)
  refine⟨(k+1,tk),⟨by omega,lY⟩,ba,?_⟩
  exact aX
 try simp at e8
 obtain rfl:k=L.length:=by omega
 rw[List.take_length] at hz ⊢
 have nf:=SX hz c.t.length c.c.length
 rw[← jn] at nf
 refine .exit (.sr ?_)
 refine .ret (ax ?_)
 exact zk
end
end Go.Am.Sl
end
section
namespace Go.Am.Sl
open Go Go.Am Go.Proofs Tryz
attribute [local simp] de fQ lz dz dN jD af.back b6 dG iO bm Nat.testBit_eq_decide_div_mod_eq ct gf jB vO kN dX kO gE cJ jR jQ kK dY kL j9 jq ly j8 kM kF kC kG kD kE kH kI jM di ig dd kP jS ka kQ kR jL ls lu dW jC dy dx dA iL dK jY jO jP gX kz a7 j7 dw bA bC ja af.get af.alloc af.put af.drop af.empty bq cg gd gR fe cp chunk List.range List.range.loop iP lA jr bI bG PV.aD PV.az PV.b8 PV.dv eu dZ kc PV.one PV.ids PV.bT fJ beq_eq lQ l9
attribute [local simp] cQ bQ cw ef dD
attribute [local simp ↓ high] mG ma
section
variable [bE]
theorem p9 (hN:Names)(c:aj)(la:List ak)(na:Int)(Ta:List (List Int))(hB:BC c)(St:la.length<4611686018427387904)(hT:Ta.length<4611686018427387904)(vg:∀r∈Ta,r.length<4611686018427387904):aI prog 9 [aA c,.agg [.vec (la.map encS),.int .i64 na,.vec (Ta.map ints)]] fun r=>r=.bool true:=by
 have iX:=Gg hN
 have tH:=SV c hB
 have zY:=KX la
 have HZ:=X3 la na Ta hT vg
 have gp:=HT c hB
 have uo:=M8 c hB
 have Bh:=p47 c hB
 have Bi:=Qy c hB
 have Bj:=p49 c hB
 have Ai:=fun da=>Sp c la na Ta hB da hT vg
 have Aj:=fun da=>R7 c la na Ta hB da hT vg
 have hC:cu c=(cQ c):=rfl
 obtain⟨cb,H3⟩:∃x,um c la na Ta=x:=⟨_,rfl⟩
 rw[H3] at Ai Aj
 clear H3
 obtain⟨fb,oM⟩:∃b,pV c = !b:=⟨!pV c,by simp⟩
 rw[oM] at tH
 obtain⟨lb,A7⟩:∃b,zR Ta=b:=⟨_,rfl⟩
 rw[A7] at HZ
 obtain⟨s1,mT⟩:∃b,decide (la.length≤120) = !b:=⟨!decide (la.length≤120),by simp⟩
 rw[mT] at zY
 refine .bJ func9 rfl rfl ?_
 rcases Int.decEq (aN c) 0 with hk|hk
 ·
  obtain⟨e,he⟩:∃e,aN c=e:=⟨_,rfl⟩
  rw[he] at hk gp uo Bh Bi Bj
  rw[if_neg hk,if_neg hk,if_neg hk] at gp
  rw[if_neg hk] at uo Bh Bi Bj
  have gp:=aI.soft (v:=.bz [.agg [.vec [],.int .i64 0,.vec []],.int .i64 e]) gp (by simp[PV.aD,PV.az])
  unfold aA at tH gp uo Bh Bi Bj Ai Aj ⊢
  rw[hC] at tH gp uo Bh Bi Bj Ai Aj ⊢
  have jV:(e==0)=false:=by simpa using hk
  have AV:(e != 0)=true:=by simpa using hk
  clear hC he oM A7 hk
  refine .sr ?_
  refine .seq (.seq (.ar [0,1,2,3,4,5,6,7,8,9,10,11,12,13] rfl ae (.rn [0] _ ?_)))
  refine .pc rfl rfl rfl rfl rfl call25 (tH) ?_
  refine .rn [2,3] _ ?_
  refine .split (t:=16) rfl (fun mE=>?_) (fun mE=>?_)
  ·try subst mE
   try simp at mE
   refine .rn [4,5,6,7,8,9,10,11,12,13] [] ?_
   refine .done (.dR rfl (.seq ?_))
   refine .ar [0,1] rfl ae ?_
   refine .pc rfl rfl rfl rfl rfl call20 (iX) ?_
   refine .rn [1] [] ?_
   refine .done (.ret (ax ?_))
   exact zk
  try subst mE
  try simp at mE
  refine .rn [4,5] _ ?_
  refine .pc rfl rfl rfl rfl rfl call38 (zY) ?_
  refine .rn [7,8,9] _ ?_
  refine .split (t:=22) rfl (fun fL=>?_) (fun fL=>?_)
  ·try subst fL
   try simp at fL
   refine .rn [10,11,12,13] [] ?_
   refine .done (.dR rfl (.seq ?_))
   refine .ar [0,1] rfl ae ?_
   refine .pc rfl rfl rfl rfl rfl call20 (iX) ?_
   refine .rn [1] [] ?_
   refine .done (.ret (ax ?_))
   exact zk
  try subst fL
  try simp at fL
  refine .rn [10] _ ?_
  refine .pc rfl rfl rfl rfl rfl call46 (HZ) ?_
  refine .rn [12,13] [] ?_
  refine .done ?_
  refine .cs ?_ ?_<;>intro jb
  ·try simp at jb
   refine .seq (.ar [0,1] rfl ae ?_)
   refine .pc rfl rfl rfl rfl rfl call20 (iX) ?_
   refine .rn [1] [] ?_
   refine .done (.ret (ax ?_))
   exact zk
  try simp at jb
  have da:la.length≤200:=by have:=of_decide_eq_true mT;omega
  have Ai:=Ai da
  have Aj:=Aj da
  refine .skip (.seq (.ar gT rfl ae (.rn [0] _ ?_)))
  refine .pc rfl rfl rfl rfl rfl call43 (uo) ?_
  refine .rn [2,3,4,5,6] [] ?_
  refine .done (.seq (.ar dQ rfl ae ?_))
  refine .rn [0] _ ?_
  refine .pc rfl rfl rfl rfl rfl call47 (Bh) ?_
  refine .rn [2,3] [] ?_
  refine .done (.seq (.ar gT rfl ae ?_))
  refine .rn [0] _ ?_
  refine .pc rfl rfl rfl rfl rfl call48 (Bi) ?_
  refine .rn [2,3,4,5,6] [] ?_
  refine .done (.seq (.ar dQ rfl ae ?_))
  refine .rn [0] _ ?_
  refine .pc rfl rfl rfl rfl rfl call49 (Bj) ?_
  refine .rn [2,3] [] ?_
  refine .done (.seq (.ar js rfl ae ?_))
  refine .rn [0] _ ?_
  refine .pc rfl rfl rfl rfl rfl call21 (gp) ?_
  refine .rn [2,3,4,5,6,7] [] ?_
  refine .done (.seq (.seq (.ar Lj rfl ae ?_)))
  refine .rn fR _ ?_
  refine .split (t:=51) rfl (fun vV=>?_) (fun vV=>?_)
  ·try subst vV
   try simp at vV
  try subst vV
  try simp at vV
  refine .rn [5,6,7] _ ?_
  refine .split (t:=54) rfl (fun nv=>?_) (fun nv=>?_)
  ·try subst nv
   try simp at nv
  try subst nv
  try simp at nv
  refine .rn [8,9,10,11,12,13,14,15,16,17,18,19,20,21,22,23,24] _ ?_
  refine .split (t:=71) rfl (fun Ak=>?_) (fun Ak=>?_)
  ·try subst Ak
   try simp at Ak
   refine .rn [25,26,27,28] _ ?_
   refine .split (t:=75) rfl (fun AX=>?_) (fun AX=>?_)
   ·try subst AX
    try simp at AX
   try subst AX
   try simp at AX
   refine .rn [29,30,31,32,33,34] _ ?_
   refine .split (t:=81) rfl (fun Lk=>?_) (fun Lk=>?_)
   ·try subst Lk
    try simp at Lk
   try subst Lk
   try simp at Lk
   refine .rn [35,36,37,38,39,40,41] [] ?_
   refine .done ?_
   refine .cs ?_ ?_<;>intro vI
   ·try simp at vI
   try simp at vI
   refine .skip (.seq ?_)
   refine .drawn (ms:=[0,1,3,3,11,31,63,127,255,255,767,2047,4095,8191,16383,16383,49151,131071,262143,524287,1048575,1048575,3145727,8388607,16777215,33554431,67108863,67108863,268435455,67108863,67108863,2147483647,4294967295,8589934591,17179869183]) (W:=[0,28,31]) (items:=Ll) rfl ae ae ae ?_
   refine .wp rfl rfl rfl rfl rfl call20 (iX) ?_
   refine .rx ?_
   refine .split (t:=90) rfl (fun tJ=>?_) (fun tJ=>?_)
   ·try subst tJ
    try simp at tJ
    iterate 6 refine .rx ?_
    refine .split (t:=96) rfl (fun tK=>?_) (fun tK=>?_)
    ·try subst tK
     try simp at tK
     iterate 6 refine .rx ?_
     refine .split (t:=102) rfl (fun ko=>?_) (fun ko=>?_)
     ·try subst ko
      try simp at ko
      iterate 6 refine .rx ?_
      refine .split (t:=108) rfl (fun pW=>?_) (fun pW=>?_)
      ·try subst pW
       try simp at pW
       iterate 6 refine .rx ?_
       refine .split (t:=114) rfl (fun fq=>?_) (fun fq=>?_)
       ·try subst fq
        try simp at fq
        iterate 4 refine .rx ?_
        refine .wp rfl rfl rfl rfl rfl call51 (Ai) ?_
        refine .ck rfl eQ ?_
        refine .ck rfl eQ ?_
        refine .wp rfl rfl rfl rfl rfl call50 (Aj) ?_
        iterate 3 refine .rx ?_
        refine .done (.ret (ax ?_))
        exact zk
       try subst fq
       try simp at fq
      try subst pW
      try simp at pW
     try subst ko
     try simp at ko
    try subst tK
    try simp at tK
   try subst tJ
   try simp at tJ
  try subst Ak
  try simp at Ak
 ·
  rw[hk,if_pos rfl,if_pos rfl,if_pos rfl,KP] at gp
  rw[hk,if_pos rfl] at uo Bh Bi Bj
  have gp:=aI.soft gp (by simp[PV.aD,PV.az])
  have aP:=fC hk
  have h1:=aP.tl
  have h2:=aP.cl
  have Al:=R7 c (lH c) (eR c) (qK c) hB (by have:=NV aP;omega) (by rw[Ya];omega) (fun r hr=>by rw[Yb c r hr];omega)
  rw[show um c (lH c) (eR c) (qK c)=0 from X9 hk] at Al
  obtain⟨A,hA⟩:∃A,lH c=A:=⟨_,rfl⟩
  obtain⟨L,hL⟩:∃A,eR c=A:=⟨_,rfl⟩
  obtain⟨TB,uq⟩:∃A,qK c=A:=⟨_,rfl⟩
  obtain⟨cv,jn⟩:∃A,tj c=A:=⟨_,rfl⟩
  rw[hA,hL,uq] at gp Al
  rw[show aS c c.t.length c.c.length=L from hL] at uo Bh
  rw[jn] at Bi Bj
  unfold aA at tH gp uo Bh Bi Bj Ai Aj Al ⊢
  rw[hC] at tH gp uo Bh Bi Bj Ai Aj Al ⊢
  clear hC hA hL uq jn oM A7 h1 h2 aP hk
  refine .sr ?_
  refine .seq (.seq (.ar [0,1,2,3,4,5,6,7,8,9,10,11,12,13] rfl ae (.rn [0] _ ?_)))
  refine .pc rfl rfl rfl rfl rfl call25 (tH) ?_
  refine .rn [2,3] _ ?_
  refine .split (t:=16) rfl (fun mE=>?_) (fun mE=>?_)
  ·try subst mE
   try simp at mE
   refine .rn [4,5,6,7,8,9,10,11,12,13] [] ?_
   refine .done (.dR rfl (.seq ?_))
   refine .ar [0,1] rfl ae ?_
   refine .pc rfl rfl rfl rfl rfl call20 (iX) ?_
   refine .rn [1] [] ?_
   refine .done (.ret (ax ?_))
   exact zk
  try subst mE
  try simp at mE
  refine .rn [4,5] _ ?_
  refine .pc rfl rfl rfl rfl rfl call38 (zY) ?_
  refine .rn [7,8,9] _ ?_
  refine .split (t:=22) rfl (fun fL=>?_) (fun fL=>?_)
  ·try subst fL
   try simp at fL
   refine .rn [10,11,12,13] [] ?_
   refine .done (.dR rfl (.seq ?_))
   refine .ar [0,1] rfl ae ?_
   refine .pc rfl rfl rfl rfl rfl call20 (iX) ?_
   refine .rn [1] [] ?_
   refine .done (.ret (ax ?_))
   exact zk
  try subst fL
  try simp at fL
  refine .rn [10] _ ?_
  refine .pc rfl rfl rfl rfl rfl call46 (HZ) ?_
  refine .rn [12,13] [] ?_
  refine .done ?_
  refine .cs ?_ ?_<;>intro jb
  ·try simp at jb
   refine .seq (.ar [0,1] rfl ae ?_)
   refine .pc rfl rfl rfl rfl rfl call20 (iX) ?_
   refine .rn [1] [] ?_
   refine .done (.ret (ax ?_))
   exact zk
  try simp at jb
  have da:la.length≤200:=by have:=of_decide_eq_true mT;omega
  have Ai:=Ai da
  have Aj:=Aj da
  refine .skip (.seq (.ar gT rfl ae (.rn [0] _ ?_)))
  refine .pc rfl rfl rfl rfl rfl call43 (uo) ?_
  refine .rn [2,3,4,5,6] [] ?_
  refine .done (.seq (.ar dQ rfl ae ?_))
  refine .rn [0] _ ?_
  refine .pc rfl rfl rfl rfl rfl call47 (Bh) ?_
  refine .rn [2,3] [] ?_
  refine .done (.seq (.ar gT rfl ae ?_))
  refine .rn [0] _ ?_
  refine .pc rfl rfl rfl rfl rfl call48 (Bi) ?_
  refine .rn [2,3,4,5,6] [] ?_
  refine .done (.seq (.ar dQ rfl ae ?_))
  refine .rn [0] _ ?_
  refine .pc rfl rfl rfl rfl rfl call49 (Bj) ?_
  refine .rn [2,3] [] ?_
  refine .done (.seq (.ar js rfl ae ?_))
  refine .rn [0] _ ?_
  refine .pc rfl rfl rfl rfl rfl call21 (gp) ?_
  refine .rn [2,3,4,5,6,7] [] ?_
  refine .done (.seq (.seq (.ar Lj rfl ae ?_)))
  refine .rn fR _ ?_
  refine .split (t:=51) rfl (fun vV=>?_) (fun vV=>?_)
  ·try subst vV
   try simp at vV
  try subst vV
  try simp at vV
  refine .rn [5,6,7] _ ?_
  refine .split (t:=54) rfl (fun nv=>?_) (fun nv=>?_)
  ·try subst nv
   try simp at nv
   refine .rn [8,9,10,11,12,13] _ ?_
   refine .split (t:=60) rfl (fun gu=>?_) (fun gu=>?_)
   ·try subst gu
    try simp at gu
   try subst gu
   try simp at gu
   refine .rn [14,15] _ ?_
   refine .pc rfl rfl rfl rfl rfl call50 (Al) ?_
   refine .rn [17,18,19,20,21] _ ?_
   refine .split (t:=68) rfl (fun oK=>?_) (fun oK=>?_)
   ·try subst oK
    try simp at oK
   try subst oK
   try simp at oK
   refine .rn [22,23,24] _ ?_
   refine .split (t:=71) rfl (fun Ak=>?_) (fun Ak=>?_)
   ·try subst Ak
    try simp at Ak
   try subst Ak
   try simp at Ak
   refine .rn [25,26,27,28,29,30,31,32,33,34,35,36,37,38,39,40,41] [] ?_
   refine .done (.gI rfl (.skip (.seq ?_)))
   refine .drawn (ms:=[0,1,3,3,11,31,63,127,255,255,767,2047,4095,8191,16383,16383,49151,131071,262143,524287,1048575,1048575,3145727,8388607,16777215,33554431,67108863,67108863,268435455,67108863,67108863,2147483647,4294967295,8589934591,17179869183]) (W:=[0,28,31]) (items:=Ll) rfl ae ae ae ?_
   refine .wp rfl rfl rfl rfl rfl call20 (iX) ?_
   refine .rx ?_
   refine .split (t:=90) rfl (fun tJ=>?_) (fun tJ=>?_)
   ·try subst tJ
    try simp at tJ
    iterate 6 refine .rx ?_
    refine .split (t:=96) rfl (fun tK=>?_) (fun tK=>?_)
    ·try subst tK
     try simp at tK
     iterate 6 refine .rx ?_
     refine .split (t:=102) rfl (fun ko=>?_) (fun ko=>?_)
     ·try subst ko
      try simp at ko
      iterate 6 refine .rx ?_
      refine .split (t:=108) rfl (fun pW=>?_) (fun pW=>?_)
      ·try subst pW
       try simp at pW
       iterate 6 refine .rx ?_
       refine .split (t:=114) rfl (fun fq=>?_) (fun fq=>?_)
       ·try subst fq
        try simp at fq
        iterate 4 refine .rx ?_
        refine .wp rfl rfl rfl rfl rfl call51 (Ai) ?_
        refine .ck rfl eQ ?_
        refine .ck rfl eQ ?_
        refine .wp rfl rfl rfl rfl rfl call50 (Aj) ?_
        iterate 3 refine .rx ?_
        refine .done (.ret (ax ?_))
        exact zk
       try subst fq
       try simp at fq
      try subst pW
      try simp at pW
     try subst ko
     try simp at ko
    try subst tK
    try simp at tK
   try subst tJ
   try simp at tJ
  try subst nv
  try simp at nv
end
end Go.Am.Sl
end
