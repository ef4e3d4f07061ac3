/-
 What is used in the proof of a statement (part SlB); no condition.
-/
import Derived.Test.YthnmgbgmlhackaaGreatDoorSlZ
import Derived.Test.YthnmgbgmlhackaaGreatDoorVm2
import Derived.Test.YthnmgbgmlhackaaGreatDoorSlT
import Derived.Test.YthnmgbgmlhackaaGreatDoorSlA
set_option linter.all false
set_option maxHeartbeats 40000000
set_option maxRecDepth 100000
section
namespace Go.Am.Sl
open Go Go.Am Go.Proofs Tryz
attribute [local simp] fZ jh tW eo jM pg ai.back dE ji nr bm Nat.testBit_eq_decide_div_mod_eq cN jL o9 vO sy kh sA jY dh qq qo ss ki su rp oz tU rm sv sg sd sh se sf sj sn pO gz lq fY sB qt rq sC sD pN tR tS kg pa iz gO iA nc jF qZ qe qf kL rY bp rl gN bZ cm nR ai.get ai.alloc ai.put ai.drop ai.empty bs dN jz kx gA cG chunk List.range List.range.loop ns tX oA bK cA PV.aH PV.aJ PV.dU PV.gM kQ kj ru PV.one PV.ids PV.di ia beq_eq vc xq
attribute [local simp] cQ bQ km tZ
attribute [local simp ↓ high] xu vi
noncomputable abbrev vq (c:ao) (i j:Int) (x:Option Code):aL:=sM f138 0 [(1,.vp [.int .i64 i,.int .i64 j]),(2,.vp (cw c)),(3,.ptr 3 0)] x
noncomputable abbrev ud (x:Option Code):aL:=sM f61 0 [(9,.ptr 1 0)] x
def mK (c:ao)(s:aq):List aq:=if jj c s=true then [s] else []
theorem XO {c:ao}{s:aq}(h:aK c s=none):mK c s=[]:=by unfold mK jj;rw[h];rfl
theorem XP {c:ao}{s:aq}{n:Int}{i':Nat}{w:List Int}(h:aK c s=some (n,i',w))(hb:hasB c s.i.toNat w=false):mK c s=[]:=by unfold mK jj;rw[h];simp[hb]
theorem XQ {c:ao}{s:aq}{n:Int}{i':Nat}{w:List Int}(h:aK c s=some (n,i',w))(hb:hasB c s.i.toNat w=true):mK c s=[s]:=by unfold mK jj;rw[h];simp[hb]
theorem XR (c:ao)(s:aq):aK c s=none∨(∃n i' w,aK c s=some (n,i',w)∧hasB c s.i.toNat w=false)∨∃n i' w,aK c s=some (n,i',w)∧hasB c s.i.toNat w=true:=by
 cases hd:aK c s with
 |none=>exact .inl rfl
 |some x=>
  obtain⟨n,i',w⟩:=x
  cases hb:hasB c s.i.toNat w
  ·exact .inr (.inl ⟨n,i',w,rfl,hb⟩)
  exact .inr (.inr ⟨n,i',w,rfl,hb⟩)
variable [bG] in
theorem BZ (c:ao)(i j:Nat)(L:List aq)(k l w k0 l0 w0:Int)(hk:bf c=0)(hL:L.length≤200)(hj:j≤48):du prog 167 [.int .i64 k,.int .i64 l,.int .i64 w,.ptr 6 0,.ptr 5 0] ⟨8,[(7,.grow 5 (L.map encS)),(6,.box [.int .i64 k0,.int .i64 i,.int .i64 j,.int .i64 l0,.int .i64 w0]),(5,.box [.bw 4]),(4,vq c i j none),(3,.box [.bw 2]),(2,ud none),(1,.box [.grow 7 L.length true])]⟩ fun v ak=>v=.bool true∧ak=⟨9,[(8,.grow 5 ((L++mK c ⟨k,i,j,l,w⟩).map encS)),(6,.box [.int .i64 k,.int .i64 i,.int .i64 j,.int .i64 l,.int .i64 w]),(5,.box [.bw 4]),(4,vq c i j none),(3,.box [.bw 2]),(2,ud none),(1,.box [.grow 8 (L++mK c ⟨k,i,j,l,w⟩).length true])]⟩:=by
 have bj:=iC hk
 have eJ:=bj.cl
 have b7:=BQ c ⟨k,i,j,l,w⟩ hk
 have vt:=XR c ⟨k,i,j,l,w⟩
 have hE:encS ⟨k,i,j,l,w⟩=.agg [.int .i64 k,.int .i64 i,.int .i64 j,.int .i64 l,.int .i64 w]:=rfl
 have hC:cw c=(cQ c):=rfl
 have Ik:kz [PV.agg [.int .i64 k,.int .i64 i,.int .i64 j,.int .i64 l,.int .i64 w]]=true:=Xs [⟨k,i,j,l,w⟩]
 have K6:L.length≤4294967295:=by omega
 rw[hE] at b7
 unfold aD at b7
 refine .bP func167 rfl rfl ?_
 rcases vt with hd|⟨n,i',wr,hd,hb⟩|⟨n,i',wr,hd,hb⟩
 ·
  have ho:=XO hd
  rw[xy hd] at b7
  unfold gd at b7
  rw[ho,List.append_nil]
  refine .sr ?_
  refine .sr ?_
  refine .seq (.au dt rfl af (.rn [0,1] _ ?_))
  refine .step rfl rfl (.yield rfl rfl rfl rfl rfl (by decide) rfl ?_)
  refine .rn ?_
  refine .block (.seq (.au gb rfl af (.rn [0,1] _ ?_)))
  refine .pc rfl rfl rfl rfl rfl call95 (b7) ?_
  refine .rn [3,4,5,6,7,8,9,10,11,12] [] ?_
  refine .done (.seq (.au kR rfl af ?_))
  refine .rn [0,1] _ ?_
  refine .split (t:=63) rfl (fun ed=>?_) (fun ed=>?_)
  ·try subst ed
   try simp at ed
  try subst ed
  try simp at ed
  refine .rn [2,3,4,5,6,7,8,9,10,11,12,13,14,15,16,17] [] ?_
  refine .done (.gn rfl (.skip ?_))
  change bE _ _ _ _ _ _ _ _
  refine .rn [3] [] ?_
  refine .done ?_
  refine .rec (ax:=[(8,.bool true)]) (aP:=⟨9,[(8,.grow 5 (L.map encS)),(6,.box [.int .i64 k,.int .i64 i,.int .i64 j,.int .i64 l,.int .i64 w]),(5,.box [.bw 4]),(4,vq c i j none),(3,.box [.bw 2]),(2,ud none),(1,.box [.grow 8 L.length true])]⟩) (.mk [] [(8,7)] Au Av rfl rfl rfl) ?_
  refine .ret ?_
  exact⟨_,gp,rfl,rfl⟩
 ·
  have ho:=XP hd hb
  rw[ua hd] at b7
  unfold gd at b7
  rw[ho,List.append_nil]
  have qc:=(kS bj hd).2.2.2.2.2
  have ic:=pn c wr j eJ (by omega)
  simp only[Int.toNat_natCast] at hb
  rw[hb] at ic
  unfold aD at ic
  refine .sr ?_
  refine .sr ?_
  refine .seq (.au dt rfl af (.rn [0,1] _ ?_))
  refine .step rfl rfl (.yield rfl rfl rfl rfl rfl (by decide) rfl ?_)
  refine .rn ?_
  refine .block (.seq (.au gb rfl af (.rn [0,1] _ ?_)))
  refine .pc rfl rfl rfl rfl rfl call95 (b7) ?_
  refine .rn [3,4,5,6,7,8,9,10,11,12] [] ?_
  refine .done (.seq (.au kR rfl af ?_))
  refine .rn [0,1] _ ?_
  refine .split (t:=63) rfl (fun ed=>?_) (fun ed=>?_)
  ·try subst ed
   try simp at ed
   refine .rn [2,3,4,5] _ ?_
   refine .pc rfl rfl rfl rfl rfl call96 (ic) ?_
   refine .rn [7,8] _ ?_
   refine .split (t:=70) rfl (fun fh=>?_) (fun fh=>?_)
   ·try subst fh
    try simp at fh
   try subst fh
   try simp at fh
   refine .rn [9,10,11,12,13,14,15,16,17] [] ?_
   refine .done (.gn rfl (.skip ?_))
   change bE _ _ _ _ _ _ _ _
   refine .rn [3] [] ?_
   refine .done ?_
   refine .rec (ax:=[(8,.bool true)]) (aP:=⟨9,[(8,.grow 5 (L.map encS)),(6,.box [.int .i64 k,.int .i64 i,.int .i64 j,.int .i64 l,.int .i64 w]),(5,.box [.bw 4]),(4,vq c i j none),(3,.box [.bw 2]),(2,ud none),(1,.box [.grow 8 L.length true])]⟩) (.mk [] [(8,7)] Au Av rfl rfl rfl) ?_
   refine .ret ?_
   exact⟨_,gp,rfl,rfl⟩
  try subst ed
  try simp at ed
 ·
  have ho:=XQ hd hb
  rw[ua hd] at b7
  unfold gd at b7
  rw[ho]
  have qc:=(kS bj hd).2.2.2.2.2
  have ic:=pn c wr j eJ (by omega)
  simp only[Int.toNat_natCast] at hb
  rw[hb] at ic
  unfold aD at ic
  refine .sr ?_
  refine .sr ?_
  refine .seq (.au dt rfl af (.rn [0,1] _ ?_))
  refine .step rfl rfl (.yield rfl rfl rfl rfl rfl (by decide) rfl ?_)
  refine .rn ?_
  refine .block (.seq (.au gb rfl af (.rn [0,1] _ ?_)))
  refine .pc rfl rfl rfl rfl rfl call95 (b7) ?_
  refine .rn [3,4,5,6,7,8,9,10,11,12] [] ?_
  refine .done (.seq (.au kR rfl af ?_))
  refine .rn [0,1] _ ?_
  refine .split (t:=63) rfl (fun ed=>?_) (fun ed=>?_)
  ·try subst ed
   try simp at ed
   refine .rn [2,3,4,5] _ ?_
   refine .pc rfl rfl rfl rfl rfl call96 (ic) ?_
   refine .rn [7,8] _ ?_
   refine .split (t:=70) rfl (fun fh=>?_) (fun fh=>?_)
   ·try subst fh
    try simp at fh
    refine .rn [9,10,11,12,13,14] _ ?_
    refine .step rfl rfl (.yield rfl rfl rfl rfl rfl (by decide) rfl ?_)
    refine .rn ?_
    refine .block (.sr ?_)
    refine .cs ?_ ?_<;>intro mL
    ·try simp at mL
     refine .rn ?_
     change bE _ _ _ _ _ _ _ _
     refine .rn [16,17] [] ?_
     refine .done (.gn rfl (.skip ?_))
     change bE _ _ _ _ _ _ _ _
     refine .rn [3] [] ?_
     refine .done ?_
     refine .rec (ax:=[(8,.bool true)]) (aP:=⟨9,[(8,.grow 5 ((L++[(⟨k,i,j,l,w⟩:aq)]).map encS)),(6,.box [.int .i64 k,.int .i64 i,.int .i64 j,.int .i64 l,.int .i64 w]),(5,.box [.bw 4]),(4,vq c i j none),(3,.box [.bw 2]),(2,ud none),(1,.box [.grow 8 (L++[(⟨k,i,j,l,w⟩:aq)]).length true])]⟩) (.mk [] [(8,12)] Au Av rfl rfl rfl) ?_
     refine .ret ?_
     exact⟨_,gp,rfl,rfl⟩
    try simp at mL
   try subst fh
   try simp at fh
  try subst ed
  try simp at ed
def vu (c:ao)(i j:Int):Bool:=(decide (0≤i)&&decide (i≤(c.t.length:Int)))&&(decide (0≤j)&&decide (j≤(c.c.length:Int)))
variable [bG] in
theorem K7 (c:ao)(i j:Int):aN prog 120 [aD c,.int .i64 i,.int .i64 j] fun r=>r=.bool (vu c i j):=by
 have q1:=sE i 0 (c.t.length:Int)
 have q2:=sE j 0 (c.c.length:Int)
 have iw:vu c i j=((decide (0≤i)&&decide (i≤(c.t.length:Int)))&&(decide (0≤j)&&decide (j≤(c.c.length:Int)))):=rfl
 generalize (decide (0≤i)&&decide (i≤(c.t.length:Int)))=e1 at q1 iw
 generalize (decide (0≤j)&&decide (j≤(c.c.length:Int)))=e2 at q2 iw
 unfold aD cw
 refine .bP func120 rfl rfl ?_
 refine .sr ?_
 refine .seq (.au gb rfl af (.rn dt _ ?_))
 refine .pc rfl rfl rfl rfl rfl call85 (q1) ?_
 refine .rn [5] _ ?_
 refine .split (t:=12) rfl (fun oC=>?_) (fun oC=>?_)
 ·try subst oC
  try simp at oC
  refine .rn [6,7,8,9] _ ?_
  refine .pc rfl rfl rfl rfl rfl call85 (q2) ?_
  refine .rn [11,12] [] ?_
  refine .done (.ret (aA ?_))
  rw[iw];simp
 try subst oC
 try simp at oC
 refine .rn [6,7,8,9,10,11,12] [] ?_
 refine .done (.ret (aA ?_))
 rw[iw];simp
def okF (c:ao)(l:List aq):List aq:=l.filter (jj c)
theorem Ft (c:ao)(l:List aq)(s:aq):okF c (l++[s])=okF c l++mK c s:=by
 unfold okF mK;rw[List.filter_append]
 by_cases h:jj c s=true<;>simp[h]
theorem PX (c:ao)(s:aq):okF c [s]=mK c s:=by
 unfold okF mK
 by_cases h:jj c s=true<;>simp[h]
def ls (c:ao)(i j:Nat):List aq:=(if j<c.c.length then [⟨1,i,j,0,c.c.getD j 0⟩] else [])++[⟨2,i,j,0,0⟩]
def lu (i j n:Nat):List aq:=(List.range n).map fun n:Nat=>⟨3,i,j,(n+1:Nat),0⟩
def mr (i j n:Nat):List aq:=(List.range n).map fun n:Nat=>⟨4,i,j,(n+1:Nat),0⟩
def nz (i j n:Nat):List aq:=(List.range n).map fun n:Nat=>⟨5,i,j,n,0⟩
theorem Fu (i j n:Nat):lu i j (n+1)=lu i j n++[⟨3,i,j,(n+1:Nat),0⟩]:=by unfold lu;rw[List.range_succ,List.map_append];rfl
theorem Fv (i j n:Nat):mr i j (n+1)=mr i j n++[⟨4,i,j,(n+1:Nat),0⟩]:=by unfold mr;rw[List.range_succ,List.map_append];rfl
theorem Fw (i j n:Nat):nz i j (n+1)=nz i j n++[⟨5,i,j,n,0⟩]:=by unfold nz;rw[List.range_succ,List.map_append];rfl
theorem K8 (c:ao)(i j:Nat):kE c i j=ls c i j++lu i j (c.t.length - i)++mr i j i++nz i j c.g.length++(if j<c.c.length then [⟨6,i,j,0,c.c.getD j 0⟩] else []):=rfl
theorem Il (c:ao)(l:List aq):(okF c l).length≤l.length:=List.length_filter_le _ _
theorem XS (c:ao)(i j:Nat):(ls c i j).length≤2:=by unfold ls;split<;>simp
theorem XU (i j n:Nat):(lu i j n).length=n:=by unfold lu;rw[List.length_map,List.length_range]
theorem XV (i j n:Nat):(mr i j n).length=n:=by unfold mr;rw[List.length_map,List.length_range]
theorem XW (i j n:Nat):(nz i j n).length=n:=by unfold nz;rw[List.length_map,List.length_range]
def vv (c:ao)(i j:Int):List aq:=if bf c=0∧vu c i j=true then kF c i.toNat j.toNat else []
def Aw (c:ao)(i j:Int):Int:=if bf c=0 then (if vu c i j=true then 0 else 1) else bf c
theorem PY {c:ao}{i j:Int}(h:¬(bf c=0∧vu c i j=true)):vv c i j=[]:=if_neg h
theorem yX {e:PV}(he:e.aH=true):dO (.bn [.aG,e]) (.bn [.vec [],e]):=Fx (.cons .dV (.cons (.same _ he) .nil))
variable [bG] in
theorem XX (c:ao)(i0 j0:Int)(hB:BC c):aN prog 61 [aD c,.int .i64 i0,.int .i64 j0] fun r=>dO r (.bn [.vec ((vv c i0 j0).map encS),.int .i64 (Aw c i0 j0)]):=by
 have cK:=rz c hB
 have yY:=K7 c i0 j0
 obtain⟨e,he⟩:∃e,bf c=e:=⟨_,rfl⟩
 obtain⟨ab,gu⟩:∃b,vu c i0 j0=b:=⟨_,rfl⟩
 obtain⟨i,hi⟩:∃n:Nat,i0.toNat=n:=⟨_,rfl⟩
 obtain⟨j,hj⟩:∃n:Nat,j0.toNat=n:=⟨_,rfl⟩
 obtain⟨e0,er⟩:∃b,decide (i<c.t.length)=b:=⟨_,rfl⟩
 obtain⟨e1,fG⟩:∃b,decide (j<c.c.length)=b:=⟨_,rfl⟩
 have kG:=Fs c i j
 have lU:=BY c i j
 rw[he] at cK
 rw[gu] at yY
 have hC:cw c=(cQ c):=rfl
 unfold aD at cK yY kG lU ⊢
 unfold gd at kG lU
 refine .bP func61 rfl rfl ?_
 refine .sr ?_
 refine .seq (.seq (.au [0,1,2] rfl af (.rn [0] _ ?_)))
 refine .pc rfl rfl rfl rfl rfl call55 (cK) ?_
 refine .rn [2] [] ?_
 refine .done (.sr ?_)
 refine .cs ?_ ?_<;>intro gR
 ·try simp at gR
  refine .sr ?_
  refine .ret (aA ?_)
  rw[PY (by rw[he];exact fun h=>gR h.1),Aw,he,if_neg gR];exact yX rfl
 try simp at gR
 refine .skip (.seq (.seq (.au fe rfl af (.rn [0,1,2] _ ?_))))
 refine .pc rfl rfl rfl rfl rfl call120 (yY) ?_
 refine .rn [4] [] ?_
 refine .done ?_
 refine .cs ?_ ?_<;>intro rE
 ·try simp at rE
  refine .sr ?_
  refine .ret (aA ?_)
  rw[PY (by rw[gu];simp[rE]),Aw,he,gu,if_pos gR,rE];exact yX rfl
 try simp at rE
 subst gR
 have hv:vv c i0 j0=kF c i j:=by unfold vv;rw[if_pos ⟨he,gu.trans rE⟩,hi,hj]
 have hs:Aw c i0 j0=0:=by unfold Aw;rw[if_pos he,if_pos (gu.trans rE)]
 rw[hv,hs]
 have iw:=gu.trans rE
 unfold vu at iw
 simp only[bV,decide_eq_true_eq] at iw
 have Fy:i0=(i:Int):=by omega
 have zT:j0=(j:Int):=by omega
 rw[Fy,zT]
 have bj:=iC he
 have oB:=bj.tl
 have eJ:=bj.cl
 have pS:=bj.sH
 have PZ:i≤c.t.length:=by omega
 have ny:j≤c.c.length:=by omega
 have iD:j≤48:=by omega
 have P0:=K8 c i j
 have FA:=XS c i j
 have Im:=XU i j
 have B0:=XV i j
 have P1:=XW i j
 have fL:kF c i j=okF c (kE c i j):=rfl
 obtain⟨cv,gq⟩:∃v,c.c.getD j 0=v:=⟨_,rfl⟩
 obtain⟨A,hA⟩:∃A,okF c (ls c i j)=A:=⟨_,rfl⟩
 have hAn:A.length≤2:=by rw[← hA];exact Nat.le_trans (Il _ _) FA
 obtain⟨XL,sN⟩:∃X:Nat→List aq,∀n,X n=okF c (ls c i j++lu i j n):=⟨_,fun _=>rfl⟩
 obtain⟨XT,sP⟩:∃X:Nat→List aq,∀n,X n=okF c (ls c i j++lu i j (c.t.length - i)++mr i j n):=⟨_,fun _=>rfl⟩
 obtain⟨XG,sQ⟩:∃X:Nat→List aq,∀n,X n=okF c (ls c i j++lu i j (c.t.length - i)++mr i j i++nz i j n):=⟨_,fun _=>rfl⟩
 have K9:∀n,(XL n).length≤2+n:=fun n=>by rw[sN];refine Nat.le_trans (Il _ _) ?_;rw[List.length_append,Im];omega
 have La:∀n,(XT n).length≤2+(c.t.length - i)+n:=fun n=>by rw[sP];refine Nat.le_trans (Il _ _) ?_;rw[List.length_append,List.length_append,Im,B0];omega
 have Lb:∀n,(XG n).length≤2+(c.t.length - i)+i+n:=fun n=>by rw[sQ];refine Nat.le_trans (Il _ _) ?_;rw[List.length_append,List.length_append,List.length_append,Im,B0,P1];omega
 have B1:XL 0=A:=by rw[sN,← hA];simp[lu]
 have B2:XT 0=XL (c.t.length - i):=by rw[sP,sN];simp[mr]
 have B3:XG 0=XT i:=by rw[sQ,sP];simp[nz]
 have B4:∀n:Nat,XL n++mK c ⟨3,i,j,(n:Int)+1,0⟩=XL (n+1):=fun n=>by rw[sN,sN,Fu,← List.append_assoc,Ft];rfl
 have B5:∀n:Nat,XT n++mK c ⟨4,i,j,(n:Int)+1,0⟩=XT (n+1):=fun n=>by rw[sP,sP,Fv,← List.append_assoc,Ft];rfl
 have B6:∀n:Nat,XG n++mK c ⟨5,i,j,(n:Int),0⟩=XG (n+1):=fun n=>by rw[sQ,sQ,Fw,← List.append_assoc,Ft]
 have cE:(if j<c.c.length then XG c.g.length++mK c ⟨6,i,j,0,cv⟩ else XG c.g.length)=kF c i j:=by
  rw[fL,P0,gq,sQ]
  split
  ·rw[Ft]
  rw[List.append_nil]
 have oD:j<c.c.length→mK c ⟨1,i,j,0,cv⟩++mK c ⟨2,i,j,0,0⟩=A:=fun h=>by
  rw[← hA];unfold ls;rw[if_pos h,gq,Ft,PX]
 have yZ:¬j<c.c.length→mK c ⟨2,i,j,0,0⟩=A:=fun h=>by
  rw[← hA];unfold ls;rw[if_neg h,List.nil_append,PX]
 clear sN sP sQ hA P0 fL FA Im B0 P1
 clear cK yY gu rE hv hs iw hi hj Fy zT hB
 refine .skip (.sr ?_)
 refine .seq (.seq (.au fe rfl af (.rn dt _ ?_)))
 refine .pc rfl rfl rfl rfl rfl call79 (kG) ?_
 refine .done (.block ?_)
 refine .rangeFunc rfl call138 func138 rfl rfl rfl ?_
 refine .sr ?_
 refine .join (fun _:Unit=>([(1,.vp [.int .i64 i,.int .i64 j]),(2,.vp (cw c)),(3,.ptr 3 0)],⟨4,[(3,.box [.bw 2]),(2,ud none),(1,.box [.aG])]⟩)) (fun _=>True) ?_ ?_
 ·skip
  refine .seq ?_
  refine .drawn (ms:=[0,1,0,4,12,31,63,127,255,127,639,1663,4095,8191,16383,32767,65535,32767,163839,524287,1048575,32767,2129919,32767,8421375,31490047,65044479,134217727,268435455]) (W:=[]) (items:=B7) rfl af af af ?_
  iterate 7 refine .rx ?_
  refine .split (t:=15) rfl (fun cb=>?_) (fun cb=>?_)
  ·try subst cb
   try simp at cb
   iterate 8 refine .rx ?_
   refine .split (t:=23) rfl (fun fm=>?_) (fun fm=>?_)
   ·try subst fm
    try simp at fm
    have vw:i<c.t.length:=by simpa using er
    have cZ:j<c.c.length:=by simpa using fG
    iterate 14 refine .rx ?_
    refine .done ?_
    refine .cs ?_ ?_<;>intro nX
    ·try simp at nX
     refine .seq (.au vk rfl af (.rn fw _ ?_))
     refine .step rfl rfl (.yield rfl rfl rfl rfl rfl (by decide) rfl ?_)
     refine .rn ?_
     refine .block (.sr ?_)
     refine .cs ?_ ?_<;>intro mL
     ·try simp at mL
     try simp at mL
     refine .skip ?_
     change bE _ _ _ _ _ _ _ _
     refine .rn [11] [] ?_
     refine .done (.gn rfl (.skip ?_))
     refine⟨(),trivial,(.mk [] [] jP dP rfl rfl rfl)⟩
    try simp at nX
    refine .skip ?_
    refine⟨(),trivial,(.mk [] [] jP dP rfl rfl rfl)⟩
   try subst fm
   try simp at fm
   iterate 13 refine .ux ?_
   refine .rx ?_
   refine .done (.gn rfl (.skip ?_))
   refine⟨(),trivial,(.mk [] [] jP dP rfl rfl rfl)⟩
  try subst cb
  try simp at cb
  iterate 6 refine .ux ?_
  iterate 2 refine .rx ?_
  iterate 13 refine .ux ?_
  refine .rx ?_
  refine .done (.gn rfl (.skip ?_))
  refine⟨(),trivial,(.mk [] [] jP dP rfl rfl rfl)⟩
 skip
 rintro _ _
 simp only
 refine .seq (.au [0,1,2] rfl af (.rn [0,1] _ ?_))
 refine .pc rfl rfl rfl rfl rfl call139 (lU) ?_
 refine .done (.block ?_)
 refine .rangeFunc rfl call166 func166 rfl rfl rfl ?_
 refine .sr ?_
 refine .sr ?_
 refine .sr ?_
 refine .join (fun _:Unit=>([(1,.vp [.int .i64 i,.int .i64 j]),(2,.vp (cw c)),(5,.func 167 [] [.ptr 6 0,.ptr 5 0])],⟨8,[(7,.grow 5 ((A).map encS)),(6,.box [.int .i64 2,.int .i64 i,.int .i64 j,.int .i64 0,.int .i64 0]),(5,.box [.bw 4]),(4,vq c i j none),(3,.box [.bw 2]),(2,ud none),(1,.box [.grow 7 (A).length true])]⟩)) (fun _=>True) ?_ ?_
 ·skip
  refine .seq ?_
  refine .rec (ax:=[(1,.vp [.int .i64 i,.int .i64 j]),(2,.vp (cw c)),(5,.func 167 [] [.ptr 6 0,.ptr 5 0])]) (aP:=⟨8,[(7,.grow 5 (([]:List aq).map encS)),(6,.box [.int .i64 0,.int .i64 i,.int .i64 j,.int .i64 0,.int .i64 0]),(5,.box [.bw 4]),(4,vq c i j none),(3,.box [.bw 2]),(2,ud none),(1,.box [.grow 7 ([]:List aq).length true])]⟩) (.mk [] [] jP dP rfl rfl rfl) ?_
  refine .au B8 rfl af (.rn gE _ ?_)
  refine .split (t:=21) rfl (fun dz=>?_) (fun dz=>?_)
  ·try subst dz
   try simp at dz
   have cZ:j<c.c.length:=by simpa using fG
   have sL:c.c[j]=cv:=by rw[← gq,List.getD_eq_getElem?_getD,List.getElem?_eq_getElem cZ];rfl
   have w1:=BZ c i j [] 1 0 cv 0 0 0 he (by simp) iD
   have hA:=oD cZ
   obtain⟨L1,rF⟩:∃L,mK c ⟨1,i,j,0,cv⟩=L:=⟨_,rfl⟩
   have XY:L1.length≤1:=by rw[← rF];unfold mK;split<;>simp
   rw[rF] at hA w1
   rw[List.nil_append] at w1
   have w2:=BZ c i j L1 2 0 0 1 0 cv he (by omega) iD
   rw[hA] at w2
   refine .rn [7,8,9,10,11,12,13] _ ?_
   refine .step rfl rfl (.call rfl rfl rfl call167 (by decide) (((w1)).mono ?_))
   rintro _ _ ⟨rfl,rfl⟩
   refine .rn [15,16,17] _ ?_
   refine .split (t:=32) rfl (fun eC=>?_) (fun eC=>?_)
   ·try subst eC
    try simp at eC
   try subst eC
   try simp at eC
   refine .rn [18] _ ?_
   refine .step rfl rfl (.qy (ax:=[(33,.func 167 [] [.ptr 6 0,.ptr 5 0]),(32,.bool false),(31,.bool false),(21,.bool true),(1,.vp [.int .i64 i,.int .i64 j]),(2,.vp (cw c)),(5,.func 167 [] [.ptr 6 0,.ptr 5 0])]) (aP:=⟨8,[(7,.grow 5 ((L1).map encS)),(6,.box [.int .i64 1,.int .i64 i,.int .i64 j,.int .i64 0,.int .i64 cv]),(5,.box [.bw 4]),(4,vq c i j none),(3,.box [.bw 2]),(2,ud none),(1,.box [.grow 7 (L1).length true])]⟩) (.mk [] [(7,8)] jP dP rfl rfl rfl) (.call rfl rfl rfl call167 (by decide) (((w2)).mono ?_)))
   rintro _ _ ⟨rfl,rfl⟩
   refine .rn [20,21] [] ?_
   refine .done ?_
   refine .cs ?_ ?_<;>intro gT
   ·try simp at gT
   try simp at gT
   refine .skip ?_
   refine⟨(),trivial,(.mk [] [(7,8)] jP dP rfl rfl rfl)⟩
  try subst dz
  try simp at dz
  have cZ:¬j<c.c.length:=by simpa using fG
  have w2:=BZ c i j [] 2 0 0 0 0 0 he (by simp) iD
  rw[List.nil_append,yZ cZ] at w2
  refine .rn [7,8,9,10,11,12,13,14,15,16,17,18] _ ?_
  refine .step rfl rfl (.call rfl rfl rfl call167 (by decide) (((w2)).mono ?_))
  rintro _ _ ⟨rfl,rfl⟩
  refine .rn [20,21] [] ?_
  refine .done ?_
  refine .cs ?_ ?_<;>intro gT
  ·try simp at gT
  try simp at gT
  refine .skip ?_
  refine⟨(),trivial,(.mk [] [(7,8)] jP dP rfl rfl rfl)⟩
 skip
 rintro _ _
 simp only
 have w6:IntKind.i64.wrap ((c.t.length:Int) - (i:Int))=(c.t.length:Int) - (i:Int):=wrap64 (by omega) (by omega)
 refine .seq (.sr ?_)
 refine .block ?_
 refine .ec (fun z:Nat×Int×Int×Int=>([(1,.vp [.int .i64 i,.int .i64 j]),(2,.vp (cw c)),(5,.func 167 [] [.ptr 6 0,.ptr 5 0]),(6,.int .i64 ((z.1:Int)+1))],⟨8,[(7,.grow 5 ((XL z.1).map encS)),(6,.box [.int .i64 z.2.1,.int .i64 i,.int .i64 j,.int .i64 z.2.2.1,.int .i64 z.2.2.2]),(5,.box [.bw 4]),(4,vq c i j none),(3,.box [.bw 2]),(2,ud none),(1,.box [.grow 7 (XL z.1).length true])]⟩)) (fun z=>z.1≤c.t.length - i) (fun z=>c.t.length - i - z.1) (0,2,0,0) (Nat.zero_le _) (by simp only[B1];exact(.mk [] [] jP dP rfl rfl rfl)) ?_
 rintro⟨n,k,l,w⟩ hn
 simp only at hn ⊢
 have hb:=K9 n
 refine .seq (.sr ?_)
 refine .cs ?_ ?_<;>intro sR
 ·try simp at sR
  have iR:n<c.t.length - i:=by omega
  have w3:=BZ c i j (XL n) 3 ((n:Int)+1) 0 k l w he (by omega) iD
  rw[B4] at w3
  have eO:IntKind.i64.wrap ((n:Int)+1+1)=(n:Int)+1+1:=wrap64 (by omega) (by omega)
  refine .skip (.seq (.block (.seq (.au dt rfl af (.rn [0,1] _ ?_)))))
  refine .step rfl rfl (.call rfl rfl rfl call167 (by decide) (((w3)).mono ?_))
  rintro _ _ ⟨rfl,rfl⟩
  refine .rn [3] [] ?_
  refine .done ?_
  refine .cs ?_ ?_<;>intro xD
  ·try simp at xD
  try simp at xD
  refine .skip (.rn ?_)
  refine⟨(n+1,3,(n:Int)+1,0),bC,bC,?_⟩
  simp only
  exact(.mk [] [(7,8)] jP dP rfl rfl rfl)
 try simp at sR
 obtain rfl:n=c.t.length - i:=by omega
 refine .exit (.seq (.sr ?_))
 refine .block ?_
 refine .ec (fun z:Nat×Int×Int×Int=>([(1,.vp [.int .i64 i,.int .i64 j]),(2,.vp (cw c)),(5,.func 167 [] [.ptr 6 0,.ptr 5 0]),(7,.int .i64 ((z.1:Int)+1))],⟨8,[(7,.grow 5 ((XT z.1).map encS)),(6,.box [.int .i64 z.2.1,.int .i64 i,.int .i64 j,.int .i64 z.2.2.1,.int .i64 z.2.2.2]),(5,.box [.bw 4]),(4,vq c i j none),(3,.box [.bw 2]),(2,ud none),(1,.box [.grow 7 (XT z.1).length true])]⟩)) (fun z=>z.1≤i) (fun z=>i - z.1) (0,k,l,w) (Nat.zero_le _) (by simp only[B2];exact(.mk [] [] jP dP rfl rfl rfl)) ?_
 rintro⟨n,k,l,w⟩ hn
 simp only at hn ⊢
 have hb:=La n
 refine .seq (.sr ?_)
 refine .cs ?_ ?_<;>intro sS
 ·try simp at sS
  have iR:n<i:=by omega
  have w3:=BZ c i j (XT n) 4 ((n:Int)+1) 0 k l w he (by omega) iD
  rw[B5] at w3
  have eO:IntKind.i64.wrap ((n:Int)+1+1)=(n:Int)+1+1:=wrap64 (by omega) (by omega)
  refine .skip (.seq (.block (.seq (.au dt rfl af (.rn [0,1] _ ?_)))))
  refine .step rfl rfl (.call rfl rfl rfl call167 (by decide) (((w3)).mono ?_))
  rintro _ _ ⟨rfl,rfl⟩
  refine .rn [3] [] ?_
  refine .done ?_
  refine .cs ?_ ?_<;>intro jB
  ·try simp at jB
  try simp at jB
  refine .skip (.rn ?_)
  refine⟨(n+1,4,(n:Int)+1,0),bC,bC,?_⟩
  simp only
  exact(.mk [] [(7,8)] jP dP rfl rfl rfl)
 try simp at sS
 obtain rfl:i=n:=by omega
 refine .exit (.seq (.sr ?_))
 refine .block ?_
 refine .ec (fun z:Nat×Int×Int×Int=>([(1,.vp [.int .i64 i,.int .i64 j]),(2,.vp (cw c)),(5,.func 167 [] [.ptr 6 0,.ptr 5 0]),(63,.int .i64 c.g.length),(64,.int .i64 z.1)],⟨8,[(7,.grow 5 ((XG z.1).map encS)),(6,.box [.int .i64 z.2.1,.int .i64 i,.int .i64 j,.int .i64 z.2.2.1,.int .i64 z.2.2.2]),(5,.box [.bw 4]),(4,vq c i j none),(3,.box [.bw 2]),(2,ud none),(1,.box [.grow 7 (XG z.1).length true])]⟩)) (fun z=>z.1≤c.g.length) (fun z=>c.g.length - z.1) (0,k,l,w) (Nat.zero_le _) (by simp only[B3];exact(.mk [] [] jP dP rfl rfl rfl)) ?_
 rintro⟨n,k,l,w⟩ hn
 simp only at hn ⊢
 have hb:=Lb n
 refine .sr ?_
 refine .seq ?_
 refine .cs ?_ ?_<;>intro y0
 ·try simp at y0
  have w3:=BZ c i j (XG n) 5 (n:Int) 0 k l w he (by omega) iD
  rw[B6] at w3
  have eO:=gD n
  refine .skip (.seq (.block (.sr ?_)))
  refine .seq (.au dt rfl af (.rn [0,1] _ ?_))
  refine .step rfl rfl (.call rfl rfl rfl call167 (by decide) (((w3)).mono ?_))
  rintro _ _ ⟨rfl,rfl⟩
  refine .rn [3] [] ?_
  refine .done ?_
  refine .cs ?_ ?_<;>intro fh
  ·try simp at fh
  try simp at fh
  refine .skip (.rn ?_)
  refine⟨(n+1,5,(n:Int),0),bC,bC,?_⟩
  simp only
  exact(.mk [] [(7,8)] jP dP rfl rfl rfl)
 try simp at y0
 obtain rfl:n=c.g.length:=by omega
 refine .exit (.sr ?_)
 refine .cs ?_ ?_<;>intro po
 ·try simp at po
  have cZ:j<c.c.length:=by rw[po] at fG;simpa using fG
  rw[if_pos cZ] at cE
  have sL:c.c[j]=cv:=by rw[← gq,List.getD_eq_getElem?_getD,List.getElem?_eq_getElem cZ];rfl
  have w3:=BZ c i j (XG c.g.length) 6 0 cv k l w he (by omega) iD
  rw[cE] at w3
  refine .au lV rfl af (.rn gE _ ?_)
  refine .step rfl rfl (.call rfl rfl rfl call167 (by decide) (((w3)).mono ?_))
  rintro _ _ ⟨rfl,rfl⟩
  refine .done ?_
  change j3 _ _ _ _
  refine vx rfl ?_
  change j3 _ _ _ _
  refine vx rfl ?_
  refine .sr ?_
  refine .ret (aA ?_)
  exact ly (by simp[PV.aH,PV.aJ])
 try simp at po
 have cZ:¬j<c.c.length:=by rw[po] at fG;simpa using fG
 rw[if_neg cZ] at cE
 rw[cE]
 refine .skip ?_
 change j3 _ _ _ _
 refine vx rfl ?_
 change j3 _ _ _ _
 refine vx rfl ?_
 refine .sr ?_
 refine .ret (aA ?_)
 exact ly (by simp[PV.aH,PV.aJ])
theorem y1:yr prog 132=some (137,3,2):=by decide +kernel
attribute [local simp] cQ bQ km tZ y1 ue uf sU jk gr
def B9:Option aq→List PV
 |some s=>[.int .i64 s.k,.int .i64 s.a,.int .i64 s.i,.int .i64 s.l,.int .i64 s.w]
 |none=>[.int .i64 0,.int .i64 0,.int .i64 0,.int .i64 0,.int .i64 0]
def cV (x:aR):PV:=.agg ([.int .i64 x.i,.int .i64 x.j,.int .i64 x.i',.int .i64 x.j']++B9 x.s++[.int .i64 x.n,.bool x.s.isNone])
def eD (p:aR→Bool)(D:Nat→Nat→Int)(x:aR):Nat→Nat→Int:=if D x.i x.j<1099511627776∧p x=true then bz D x.i' x.j' (min (D x.i' x.j') (D x.i x.j+x.n)) else D
def eM (c:ao)(i j:Nat)(p:aR→Bool)(D:Nat→Nat→Int)(s:aq):Nat→Nat→Int:=match stepOf c i j s with
 |some x=>eD p D x
 |none=>D
noncomputable abbrev kU (y:Nat) (c:ao) (i j:Int) (x:Option Code):aL:=sM f138 0 [(1,.vp [.int .i64 i,.int .i64 j]),(2,.vp (cw c)),(3,.ptr y 0)] x
noncomputable abbrev sV (x:Option Code):aL:=sM f135 0 [(3,.ptr 1 0),(5,.ptr 3 0),(10,.ptr 4 0)] x
theorem P2 (c:ao)(i j:Nat)(s:aq):(aK c s=none∧stepOf c i j s=none)∨(∃n i' w,aK c s=some (n,i',w)∧hasB c j w=false∧stepOf c i j s=none)∨∃n i' w,aK c s=some (n,i',w)∧hasB c j w=true∧stepOf c i j s=some ⟨i,j,i',j+w.length,n,some s⟩:=by
 unfold stepOf
 cases hd:aK c s with
 |none=>exact .inl ⟨rfl,rfl⟩
 |some x=>
  obtain⟨n,i',w⟩:=x
  cases hb:hasB c j w
  ·exact .inr (.inl ⟨n,i',w,rfl,hb,by simp[hb]⟩)
  exact .inr (.inr ⟨n,i',w,rfl,hb,by simp[hb]⟩)
variable [bG] in
theorem Ca (c:ao)(i j:Nat)(D:Nat→Nat→Int)(p:aR→Bool)(f:FuncId)(xs ys:List PV)(k l w k0 l0 w0:Int)(hk:bf c=0)(hi:i≤c.t.length)(hj:j≤c.c.length)(hD:∀a b,0≤D a b∧D a b≤1099511627776)(hx:PV.aJ xs=true)(hy:PV.aJ ys=true)(dR:∀cs w,(callFunc f cs).run prog w=.ok (.enter f cs) w)(hp:∀x:aR,aN prog f (xs++[cV x]++ys) fun r=>r=.bool (p x)):du prog 167 [.int .i64 k,.int .i64 l,.int .i64 w,.ptr 9 0,.ptr 8 0] ⟨10,[(9,.box [.int .i64 k0,.int .i64 i,.int .i64 j,.int .i64 l0,.int .i64 w0]),(8,.box [.bw 7]),(7,kU 6 c i j none),(6,.box [.bw 5]),(5,sV none),(4,.box [.int .i64 i,.int .i64 j]),(3,.box [.ba 2]),(2,.map (a8 (places c) D)),(1,.box [.func f xs ys])]⟩ fun v ak=>v=.bool true∧ak=⟨10,[(9,.box [.int .i64 k,.int .i64 i,.int .i64 j,.int .i64 l,.int .i64 w]),(8,.box [.bw 7]),(7,kU 6 c i j none),(6,.box [.bw 5]),(5,sV none),(4,.box [.int .i64 i,.int .i64 j]),(3,.box [.ba 2]),(2,.map (a8 (places c) (eM c i j p D ⟨k,i,j,l,w⟩))),(1,.box [.func f xs ys])]⟩:=by
 have bj:=iC hk
 have eJ:=bj.cl
 have iD:j≤48:=by omega
 have b7:=BQ c ⟨k,i,j,l,w⟩ hk
 have vt:=P2 c i j ⟨k,i,j,l,w⟩
 have hE:encS ⟨k,i,j,l,w⟩=.agg [.int .i64 k,.int .i64 i,.int .i64 j,.int .i64 l,.int .i64 w]:=rfl
 have hC:cw c=(cQ c):=rfl
 have fN:=hD i j
 have jV:kV [.int .i64 i,.int .i64 j] (a8 (places c) D)=some (some (.int .i64 (D i j))):=by
  have:=vy i j D (places c)
  rw[if_pos (xE.2 ⟨hi,hj⟩)] at this
  exact this
 obtain⟨d0,mM⟩:∃d,D i j=d:=⟨_,rfl⟩
 obtain⟨e0,er⟩:∃b,decide (d0<1099511627776)=b:=⟨_,rfl⟩
 rw[mM] at jV fN
 rw[hE] at b7
 unfold aD at b7
 refine .bP func167 rfl rfl ?_
 rcases vt with⟨hd,dB⟩|⟨n,i',wr,hd,hb,dB⟩|⟨n,i',wr,hd,hb,dB⟩
 ·
  have ho:eM c i j p D ⟨k,i,j,l,w⟩=D:=by unfold eM;rw[dB]
  rw[xy hd] at b7
  unfold gd at b7
  rw[ho]
  refine .sr ?_
  refine .sr ?_
  refine .seq (.au dt rfl af (.rn [0,1] _ ?_))
  refine .step rfl rfl (.yield rfl rfl rfl rfl rfl (by decide) rfl ?_)
  refine .rn ?_
  refine .block (.seq (.au gb rfl af (.rn [0,1] _ ?_)))
  refine .pc rfl rfl rfl rfl rfl call95 (b7) ?_
  refine .rn [3,4,5,6,7,8,9,10,11,12] [] ?_
  refine .done (.seq (.au kR rfl af ?_))
  refine .rn [0,1] _ ?_
  refine .split (t:=63) rfl (fun ed=>?_) (fun ed=>?_)
  ·try subst ed
   try simp at ed
  try subst ed
  try simp at ed
  refine .rn [2,3,4,5,6,7,8,9,10,11,12,13,14,15,16,17] [] ?_
  refine .done (.gn rfl (.skip ?_))
  change bE _ _ _ _ _ _ _ _
  refine .rn [3] [] ?_
  refine .done ?_
  refine .rec (ax:=[(8,.bool true)]) (aP:=⟨10,[(9,.box [.int .i64 k,.int .i64 i,.int .i64 j,.int .i64 l,.int .i64 w]),(8,.box [.bw 7]),(7,kU 6 c i j none),(6,.box [.bw 5]),(5,sV none),(4,.box [.int .i64 i,.int .i64 j]),(3,.box [.ba 2]),(2,.map (a8 (places c) D)),(1,.box [.func f xs ys])]⟩) (.mk [] [] Au Av rfl rfl rfl) ?_
  refine .ret ?_
  exact⟨_,gp,rfl,rfl⟩
 ·
  have ho:eM c i j p D ⟨k,i,j,l,w⟩=D:=by unfold eM;rw[dB]
  rw[ua hd] at b7
  unfold gd at b7
  rw[ho]
  have qc:=(kS bj hd).2.2.2.2.2
  have ic:=pn c wr j eJ (by omega)
  rw[hb] at ic
  unfold aD at ic
  refine .sr ?_
  refine .sr ?_
  refine .seq (.au dt rfl af (.rn [0,1] _ ?_))
  refine .step rfl rfl (.yield rfl rfl rfl rfl rfl (by decide) rfl ?_)
  refine .rn ?_
  refine .block (.seq (.au gb rfl af (.rn [0,1] _ ?_)))
  refine .pc rfl rfl rfl rfl rfl call95 (b7) ?_
  refine .rn [3,4,5,6,7,8,9,10,11,12] [] ?_
  refine .done (.seq (.au kR rfl af ?_))
  refine .rn [0,1] _ ?_
  refine .split (t:=63) rfl (fun ed=>?_) (fun ed=>?_)
  ·try subst ed
   try simp at ed
   refine .rn [2,3,4,5] _ ?_
   refine .pc rfl rfl rfl rfl rfl call96 (ic) ?_
   refine .rn [7,8] _ ?_
   refine .split (t:=70) rfl (fun fh=>?_) (fun fh=>?_)
   ·try subst fh
    try simp at fh
   try subst fh
   try simp at fh
   refine .rn [9,10,11,12,13,14,15,16,17] [] ?_
   refine .done (.gn rfl (.skip ?_))
   change bE _ _ _ _ _ _ _ _
   refine .rn [3] [] ?_
   refine .done ?_
   refine .rec (ax:=[(8,.bool true)]) (aP:=⟨10,[(9,.box [.int .i64 k,.int .i64 i,.int .i64 j,.int .i64 l,.int .i64 w]),(8,.box [.bw 7]),(7,kU 6 c i j none),(6,.box [.bw 5]),(5,sV none),(4,.box [.int .i64 i,.int .i64 j]),(3,.box [.ba 2]),(2,.map (a8 (places c) D)),(1,.box [.func f xs ys])]⟩) (.mk [] [] Au Av rfl rfl rfl) ?_
   refine .ret ?_
   exact⟨_,gp,rfl,rfl⟩
  try subst ed
  try simp at ed
 ·
  have ho:eM c i j p D ⟨k,i,j,l,w⟩=eD p D ⟨i,j,i',j+wr.length,n,some ⟨k,i,j,l,w⟩⟩:=by unfold eM;rw[dB]
  rw[ua hd] at b7
  unfold gd at b7
  rw[ho]
  have iE:=kS bj hd
  have qc:=iE.2.2.2.2.2
  have Lc:=iE.1
  have vw:i'≤c.t.length:=iE.2.2.2.1
  have ic:=pn c wr j eJ (by omega)
  have cZ:j+wr.length≤c.c.length:=by unfold hasB at hb;rw[bV,decide_eq_true_eq] at hb;exact hb.1
  rw[hb] at ic
  unfold aD at ic
  obtain⟨j1,Cb⟩:∃j1,j+wr.length=j1:=⟨_,rfl⟩
  have vz:IntKind.i64.wrap ((j:Int)+(wr.length:Int))=(j1:Int):=by rw[wrap64 (by omega) (by omega)];omega
  rw[Cb] at cZ ⊢
  simp only[vz] at b7
  have vA:=hp ⟨i,j,i',j1,n,some ⟨k,i,j,l,w⟩⟩
  have y2:cV ⟨i,j,i',j1,n,some ⟨k,i,j,l,w⟩⟩=.agg [.int .i64 i,.int .i64 j,.int .i64 i',.int .i64 j1,.int .i64 k,.int .i64 i,.int .i64 j,.int .i64 l,.int .i64 w,.int .i64 n,.bool false]:=rfl
  rw[y2] at vA
  obtain⟨pv,DB⟩:∃b,p ⟨i,j,i',j1,n,some ⟨k,i,j,l,w⟩⟩=b:=⟨_,rfl⟩
  rw[DB] at vA
  have iF:=hD i' j1
  have xF:kV [.int .i64 i',.int .i64 j1] (a8 (places c) D)=some (some (.int .i64 (D i' j1))):=by
   have:=vy i' j1 D (places c)
   rw[if_pos (xE.2 ⟨vw,cZ⟩)] at this
   exact this
  have sW:∀v,qz [.int .i64 i',.int .i64 j1] [.int .i64 i',.int .i64 j1] (.int .i64 v) (a8 (places c) D)=some (a8 (places c) (bz D i' j1 v)):=fun v=>FB (xE.2 ⟨vw,cZ⟩) v
  have qA:eD p D ⟨i,j,i',j1,n,some ⟨k,i,j,l,w⟩⟩=if d0<1099511627776∧pv=true then bz D i' j1 (min (D i' j1) (d0+n)) else D:=by unfold eD;simp only[mM,DB]
  rw[qA]
  obtain⟨d1,ke⟩:∃d,D i' j1=d:=⟨_,rfl⟩
  rw[ke] at xF iF ⊢
  have BU:IntKind.i64.wrap (d0+n)=d0+n:=wrap64 (by omega) (by omega)
  clear hD vz ho dB hE hb hd iE qc
  refine .sr ?_
  refine .sr ?_
  refine .seq (.au dt rfl af (.rn [0,1] _ ?_))
  refine .step rfl rfl (.yield rfl rfl rfl rfl rfl (by decide) rfl ?_)
  refine .rn ?_
  refine .block (.seq (.au gb rfl af (.rn [0,1] _ ?_)))
  refine .pc rfl rfl rfl rfl rfl call95 (b7) ?_
  refine .rn [3,4,5,6,7,8,9,10,11,12] [] ?_
  refine .done (.seq (.au kR rfl af ?_))
  refine .rn [0,1] _ ?_
  refine .split (t:=63) rfl (fun ed=>?_) (fun ed=>?_)
  ·try subst ed
   try simp at ed
   refine .rn [2,3,4,5] _ ?_
   refine .pc rfl rfl rfl rfl rfl call96 (ic) ?_
   refine .rn [7,8] _ ?_
   refine .split (t:=70) rfl (fun fh=>?_) (fun fh=>?_)
   ·try subst fh
    try simp at fh
    refine .rn [9,10,11,12,13,14] _ ?_
    refine .step rfl rfl (.yield rfl rfl rfl rfl rfl (by decide) rfl ?_)
    refine .rn ?_
    refine .block (.seq (.au pQ rfl af (.rn fe _ ?_)))
    refine .split (t:=60) rfl (fun jB=>?_) (fun jB=>?_)
    ·try subst jB
     try simp at jB
     have aY:d0<1099511627776:=by simpa using er
     refine .rn [5,6] _ ?_
     refine .step rfl rfl (.pure rfl rfl rfl dR (by decide) (vA) (by first|rfl|simp[*]) ?_)
     rintro _ rfl
     refine .rn [8] [] ?_
     refine .done ?_
     refine .cs ?_ ?_<;>intro pq
     ·try simp at pq
      rw[if_pos ⟨aY,pq⟩]
      have uY:(if d0+n<d1 then d0+n else d1)=min d1 (d0+n):=by split<;>omega
      refine .drawn (ms:=[0,0,2,0,0,16,56,0,0,384,0,1024,3968,8184,16383]) (W:=[14]) (items:=P3) rfl af af af ?_
      iterate 14 refine .rx ?_
      refine .wv ?_
      refine .done ?_
      change bE _ _ _ _ _ _ _ _
      refine .rn [16,17] [] ?_
      refine .done (.gn rfl (.skip ?_))
      change bE _ _ _ _ _ _ _ _
      refine .rn [3] [] ?_
      refine .done ?_
      refine .rec (ax:=[(8,.bool true)]) (aP:=⟨10,[(9,.box [.int .i64 k,.int .i64 i,.int .i64 j,.int .i64 l,.int .i64 w]),(8,.box [.bw 7]),(7,kU 6 c i j none),(6,.box [.bw 5]),(5,sV none),(4,.box [.int .i64 i,.int .i64 j]),(3,.box [.ba 2]),(2,.map (a8 (places c) (bz D i' j1 (min d1 (d0+n))))),(1,.box [.func f xs ys])]⟩) (.mk [] [] Au Av rfl rfl rfl) ?_
      refine .ret ?_
      exact⟨_,gp,rfl,rfl⟩
     try simp at pq
     rw[if_neg (fun hh=>by rw[pq] at hh;cases hh.2)]
     refine .skip ?_
     change bE _ _ _ _ _ _ _ _
     refine .rn [16,17] [] ?_
     refine .done (.gn rfl (.skip ?_))
     change bE _ _ _ _ _ _ _ _
     refine .rn [3] [] ?_
     refine .done ?_
     refine .rec (ax:=[(8,.bool true)]) (aP:=⟨10,[(9,.box [.int .i64 k,.int .i64 i,.int .i64 j,.int .i64 l,.int .i64 w]),(8,.box [.bw 7]),(7,kU 6 c i j none),(6,.box [.bw 5]),(5,sV none),(4,.box [.int .i64 i,.int .i64 j]),(3,.box [.ba 2]),(2,.map (a8 (places c) D)),(1,.box [.func f xs ys])]⟩) (.mk [] [] Au Av rfl rfl rfl) ?_
     refine .ret ?_
     exact⟨_,gp,rfl,rfl⟩
    try subst jB
    try simp at jB
    rw[if_neg (fun hh=>by simp[hh.1] at er)]
    refine .rn [5,6,7,8] [] ?_
    refine .done (.gn rfl (.skip ?_))
    change bE _ _ _ _ _ _ _ _
    refine .rn [16,17] [] ?_
    refine .done (.gn rfl (.skip ?_))
    change bE _ _ _ _ _ _ _ _
    refine .rn [3] [] ?_
    refine .done ?_
    refine .rec (ax:=[(8,.bool true)]) (aP:=⟨10,[(9,.box [.int .i64 k,.int .i64 i,.int .i64 j,.int .i64 l,.int .i64 w]),(8,.box [.bw 7]),(7,kU 6 c i j none),(6,.box [.bw 5]),(5,sV none),(4,.box [.int .i64 i,.int .i64 j]),(3,.box [.ba 2]),(2,.map (a8 (places c) D)),(1,.box [.func f xs ys])]⟩) (.mk [] [] Au Av rfl rfl rfl) ?_
    refine .ret ?_
    exact⟨_,gp,rfl,rfl⟩
   try subst fh
   try simp at fh
  try subst ed
  try simp at ed
def iS (D:Nat→Nat→Int):Prop:=∀a b,0≤D a b∧D a b≤1099511627776
theorem Ld {D:Nat→Nat→Int}{p:aR→Bool}{x:aR}(h:iS D)(hn:0≤x.n):iS (eD p D x):=fun a b=>by
 unfold eD
 split
 ·rename_i hh
  unfold bz
  have h1:=h x.i x.j
  have h2:=h x.i' x.j'
  split
  ·omega
  exact h a b
 exact h a b
theorem P4 {c:ao}(hr:Rt c){i j:Nat}{D:Nat→Nat→Int}{p:aR→Bool}{s:aq}(h:iS D):iS (eM c i j p D s):=by
 unfold eM
 cases hs:stepOf c i j s with
 |none=>exact h
 |some x=>
  refine Ld h ?_
  unfold stepOf at hs
  cases hd:aK c s with
  |none=>rw[hd] at hs;cases hs
  |some y=>
   obtain⟨n,i',w⟩:=y
   rw[hd] at hs
   simp only at hs
   split at hs
   ·cases hs
    have:=(kS hr hd).1
    show 0≤n
    omega
   cases hs
theorem FC {c:ao}(hr:Rt c){i j:Nat}{p:aR→Bool}:∀(l:List aq) {D:Nat→Nat→Int},iS D→iS (l.foldl (eM c i j p) D)
 |[],_,h=>h
 |s::r,_,h=>FC hr r (P4 hr h)
theorem P5 {c:ao}{i j:Nat}{p:aR→Bool}:∀(l:List aq) (D:Nat→Nat→Int),l.foldl (eM c i j p) D=(l.filterMap (stepOf c i j)).foldl (eD p) D
 |[],_=>rfl
 |s::r,D=>by
  rw[List.foldl_cons,P5 r,List.filterMap_cons]
  unfold eM
  cases stepOf c i j s<;>rfl
def cp (c:ao)(i j:Nat):List aR:=if i<c.t.length∧j<c.c.length∧c.t.getD i 0=c.c.getD j 0 then [⟨i,j,i+1,j+1,0,none⟩] else []
theorem XZ (c:ao)(i j:Nat)(p:aR→Bool)(D:Nat→Nat→Int):(steps c i j).foldl (eD p) D=(kE c i j).foldl (eM c i j p) ((cp c i j).foldl (eD p) D):=by
 rw[P5];unfold steps cp;rw[List.foldl_append]
theorem X2 {c:ao}{i j:Nat}{p:aR→Bool}{D:Nat→Nat→Int}(h:iS D):iS ((cp c i j).foldl (eD p) D):=by
 unfold cp
 split
 ·exact Ld h (by simp)
 exact h
def qB (c:ao)(p:aR→Bool)(i j:Nat):Nat→Nat→Int:=((mu (c.c.length+1) i j).flatMap fun q=>steps c q.1 q.2).foldl (eD p) (bz (fun _ _=>1099511627776) 0 0 0)
def fwd (c:ao)(p:aR→Bool):Nat→Nat→Int:=(graph c).foldl (eD p) (bz (fun _ _=>1099511627776) 0 0 0)
theorem X3 (c:ao)(p:aR→Bool):qB c p 0 0=bz (fun _ _=>1099511627776) 0 0 0:=rfl
theorem X4 (c:ao)(p:aR→Bool)(i j:Nat):qB c p i (j+1)=(steps c i j).foldl (eD p) (qB c p i j):=by
 unfold qB;rw[Io,List.flatMap_append,List.foldl_append];simp
theorem X5 (c:ao)(p:aR→Bool)(i:Nat):qB c p i (c.c.length+1)=qB c p (i+1) 0:=by unfold qB;rw[Ip]
theorem P6 (c:ao)(p:aR→Bool):qB c p (c.t.length+1) 0=fwd c p:=by unfold qB fwd graph;rw[FD]
theorem X6:iS (bz (fun _ _=>1099511627776) 0 0 0):=fun a b=>by
 unfold bz
 split
 ·exact⟨by decide,by decide⟩
 show (0:Int)≤1099511627776∧(1099511627776:Int)≤1099511627776
 decide
theorem P7 {p:aR→Bool}:∀(l:List aR) {D:Nat→Nat→Int},(∀x∈l,0≤x.n)→iS D→iS (l.foldl (eD p) D)
 |[],_,_,h=>h
 |x::r,_,hx,h=>P7 r (fun y hy=>hx y (List.mem_cons_of_mem _ hy)) (Ld h (hx x List.mem_cons_self))
theorem P8 {c:ao}(hr:Rt c)(p:aR→Bool)(i j:Nat):iS (qB c p i j):=by
 unfold qB
 refine P7 _ (fun x hx=>?_) X6
 obtain⟨q,_,hq⟩:=List.mem_flatMap.1 hx
 exact(jn hr hq).n0
theorem X7 (i j:Nat):bz (fun _ _=>(1099511627776:Int)) i j 1099511627776=fun _ _=>1099511627776:=by
 funext a b;unfold bz;split<;>rfl
theorem X8 {m i j:Nat}:qz [.int .i64 i,.int .i64 j] [.int .i64 i,.int .i64 j] (.int .i64 1099511627776) (a8 (mu m i j) fun _ _=>1099511627776)=some (a8 (mu m i (j+1)) fun _ _=>1099511627776):=by
 have:=FE (a:=i) (b:=j) (D:=fun _ _=>1099511627776) (ps:=mu m i j) (by rw[P9];omega) 1099511627776
 rw[X7,← Io] at this
 exact this
theorem X9 {c:ao}:qz [.int .i64 0,.int .i64 0] [.int .i64 0,.int .i64 0] (.int .i64 0) (a8 (places c) fun _ _=>1099511627776)=some (a8 (places c) (bz (fun _ _=>1099511627776) 0 0 0)):=
 FB (a:=0) (b:=0) (xE.2 ⟨Nat.zero_le _,Nat.zero_le _⟩) 0
variable [bG] in
theorem FF (c:ao)(p:aR→Bool)(f:FuncId)(xs ys:List PV)(hk:bf c=0)(hx:PV.aJ xs=true)(hy:PV.aJ ys=true)(dR:∀cs w,(callFunc f cs).run prog w=.ok (.enter f cs) w)(hp:∀x:aR,aN prog f (xs++[cV x]++ys) fun r=>r=.bool (p x)):aN prog 135 [aD c,.func f xs ys] fun r=>r=.aC (a8 (places c) (fwd c p)):=by
 have bj:=iC hk
 have oB:=bj.tl
 have eJ:=bj.cl
 have pS:=bj.sH
 have hC:cw c=(cQ c):=rfl
 have w6:IntKind.i64.wrap ((c.t.length:Int)+1)=(c.t.length:Int)+1:=wrap64 (by omega) (by omega)
 have np:IntKind.i64.wrap ((c.c.length:Int)+1)=(c.c.length:Int)+1:=wrap64 (by omega) (by omega)
 have Qa:mu (c.c.length+1) 0 0=[]:=rfl
 have mF:a8 [] (fun _ _=>1099511627776)=[]:=rfl
 have Qb:∀vh,cA vh xs=some xs:=fun vh=>vB vh hx
 have Qc:∀vh,cA vh ys=some ys:=fun vh=>vB vh hy
 have ko:=@X9 c
 have kG:=fun i j:Nat=>Fs c i j
 have lU:=fun i j:Nat=>BY c i j
 unfold aD at kG lU ⊢
 unfold gd at kG lU
 rw[hC] at kG lU ⊢
 refine .bP func135 rfl rfl ?_
 refine .sr ?_
 refine .sr ?_
 refine .seq (.sr ?_)
 refine .block ?_
 refine .ec (fun i:Nat=>([(2,.ptr 0 0),(3,.ptr 1 0),(5,.ptr 3 0),(16,.int .i64 ((c.t.length:Int)+1)),(17,.int .i64 i)],⟨4,[(3,.box [.ba 2]),(2,.map (a8 (mu (c.c.length+1) i 0) (fun _ _=>1099511627776))),(1,.box [.func f xs ys]),(0,.box (cQ c))]⟩)) (fun i=>i≤c.t.length+1) (fun i=>c.t.length+1 - i) 0 (by simp) (by simp only[Qa,mF];exact bT) ?_
 rintro i hi
 simp only at hi ⊢
 refine .sr ?_
 refine .seq ?_
 refine .cs ?_ ?_<;>intro pU
 ·try simp at pU
  have eO:=gD i
  refine .skip (.seq (.block (.sr ?_)))
  refine .sr ?_
  refine .block ?_
  refine .ec (fun j:Nat=>([(2,.ptr 0 0),(3,.ptr 1 0),(5,.ptr 3 0),(6,.int .i64 i),(16,.int .i64 ((c.t.length:Int)+1)),(17,.int .i64 i),(23,.int .i64 ((c.c.length:Int)+1)),(24,.int .i64 j)],⟨4,[(3,.box [.ba 2]),(2,.map (a8 (mu (c.c.length+1) i j) (fun _ _=>1099511627776))),(1,.box [.func f xs ys]),(0,.box (cQ c))]⟩)) (fun j=>j≤c.c.length+1) (fun j=>c.c.length+1 - j) 0 (by simp) bT ?_
  rintro j hj
  simp only at hj ⊢
  refine .sr ?_
  refine .seq ?_
  refine .cs ?_ ?_<;>intro fx
  ·try simp at fx
   have rB:=gD j
   have Bp:=@X8 (c.c.length+1) i j
   refine .skip (.seq (.block (.sr ?_)))
   refine .rn ?_
   refine .rn ?_
   refine⟨j+1,bC,bC,bT⟩
  try simp at fx
  obtain rfl:j=c.c.length+1:=by omega
  refine .exit (.rn ?_)
  refine⟨i+1,bC,bC,by rw[← Ip];exact bT⟩
 try simp at pU
 obtain rfl:i=c.t.length+1:=by omega
 rw[FD]
 refine .exit (.sr ?_)
 refine .seq (.sr ?_)
 refine .block ?_
 refine .ec (fun i:Nat=>([(2,.ptr 0 0),(3,.ptr 1 0),(5,.ptr 3 0),(38,.int .i64 ((c.t.length:Int)+1)),(39,.int .i64 i)],⟨4,[(3,.box [.ba 2]),(2,.map (a8 (places c) (qB c p i 0))),(1,.box [.func f xs ys]),(0,.box (cQ c))]⟩)) (fun i=>i≤c.t.length+1) (fun i=>c.t.length+1 - i) 0 (by simp) (by simp only[X3];exact bT) ?_
 rintro i hi
 simp only at hi ⊢
 refine .sr ?_
 refine .seq ?_
 refine .cs ?_ ?_<;>intro mw
 ·try simp at mw
  have eO:=gD i
  have oE:i≤c.t.length:=by omega
  refine .skip (.seq (.block (.sr ?_)))
  refine .sr ?_
  refine .block ?_
  refine .ec (fun j:Nat=>([(2,.ptr 0 0),(3,.ptr 1 0),(5,.ptr 3 0),(8,.int .i64 i),(38,.int .i64 ((c.t.length:Int)+1)),(39,.int .i64 i),(45,.int .i64 ((c.c.length:Int)+1)),(46,.int .i64 j)],⟨4,[(3,.box [.ba 2]),(2,.map (a8 (places c) (qB c p i j))),(1,.box [.func f xs ys]),(0,.box (cQ c))]⟩)) (fun j=>j≤c.c.length+1) (fun j=>c.c.length+1 - j) 0 (by simp) bT ?_
  rintro j hj
  simp only at hj ⊢
  refine .sr ?_
  refine .seq ?_
  refine .cs ?_ ?_<;>intro Dy
  ·try simp at Dy
   have rB:=gD j
   have ny:j≤c.c.length:=by omega
   have nk:=X4 c p i j
   rw[XZ,K8] at nk
   have hD:=P8 bj p i j
   obtain⟨D,FG⟩:∃D,qB c p i j=D:=⟨_,rfl⟩
   rw[FG] at nk hD ⊢
   have nO:¬(i<c.t.length∧j<c.c.length∧c.t.getD i 0=c.c.getD j 0)→(cp c i j).foldl (eD p) D=D:=fun h=>by unfold cp;rw[if_neg h];rfl
   have nB:i<c.t.length∧j<c.c.length∧c.t.getD i 0=c.c.getD j 0→(cp c i j).foldl (eD p) D=eD p D ⟨i,j,i+1,j+1,0,none⟩:=fun h=>by unfold cp;rw[if_pos h];rfl
   have FH:iS ((cp c i j).foldl (eD p) D):=X2 hD
   obtain⟨D1,iF⟩:∃D1,(cp c i j).foldl (eD p) D=D1:=⟨_,rfl⟩
   rw[iF] at nk nO nB FH
   have fN:=hD i j
   have jV:kV [.int .i64 i,.int .i64 j] (a8 (places c) D)=some (some (.int .i64 (D i j))):=by
    have:=vy i j D (places c)
    rw[if_pos (xE.2 ⟨oE,ny⟩)] at this
    exact this
   obtain⟨d0,mM⟩:∃d,D i j=d:=⟨_,rfl⟩
   rw[mM] at jV fN
   obtain⟨e0,er⟩:∃b,decide (i<c.t.length)=b:=⟨_,rfl⟩
   obtain⟨e1,fG⟩:∃b,decide (j<c.c.length)=b:=⟨_,rfl⟩
   obtain⟨e2,yQ⟩:∃b,decide (d0<1099511627776)=b:=⟨_,rfl⟩
   have vA:=hp ⟨i,j,i+1,j+1,0,none⟩
   have y2:cV ⟨i,j,i+1,j+1,0,none⟩=.agg [.int .i64 i,.int .i64 j,.int .i64 ((i:Int)+1),.int .i64 ((j:Int)+1),.int .i64 0,.int .i64 0,.int .i64 0,.int .i64 0,.int .i64 0,.int .i64 0,.bool true]:=rfl
   rw[y2] at vA
   obtain⟨pv,DB⟩:∃b,p ⟨i,j,i+1,j+1,0,none⟩=b:=⟨_,rfl⟩
   rw[DB] at vA
   have qA:eD p D ⟨i,j,i+1,j+1,0,none⟩=if d0<1099511627776∧pv=true then bz D (i+1) (j+1) (min (D (i+1) (j+1)) d0) else D:=by unfold eD;simp only[mM,DB,Int.add_zero]
   rw[qA] at nB
   have Qd:=hD (i+1) (j+1)
   obtain⟨d1,ke⟩:∃d,D (i+1) (j+1)=d:=⟨_,rfl⟩
   rw[ke] at nB Qd
   have BU:IntKind.i64.wrap d0=d0:=wrap64 (by omega) (by omega)
   obtain⟨cv,gq⟩:∃v,c.c.getD j 0=v:=⟨_,rfl⟩
   rw[gq] at nO nB nk
   obtain⟨tv,nV⟩:∃v,c.t.getD i 0=v:=⟨_,rfl⟩
   rw[nV] at nO nB
   obtain⟨A,hA⟩:∃A,(ls c i j).foldl (eM c i j p) D1=A:=⟨_,rfl⟩
   have Ya:iS A:=hA▸FC bj _ FH
   obtain⟨XL,sN⟩:∃X:Nat→Nat→Nat→Int,∀n,X n=(lu i j n).foldl (eM c i j p) A:=⟨_,fun _=>rfl⟩
   obtain⟨XT,sP⟩:∃X:Nat→Nat→Nat→Int,∀n,X n=(mr i j n).foldl (eM c i j p) (XL (c.t.length - i)):=⟨_,fun _=>rfl⟩
   obtain⟨XG,sQ⟩:∃X:Nat→Nat→Nat→Int,∀n,X n=(nz i j n).foldl (eM c i j p) (XT i):=⟨_,fun _=>rfl⟩
   have FI:∀n,iS (XL n):=fun n=>by rw[sN];exact FC bj _ Ya
   have FJ:∀n,iS (XT n):=fun n=>by rw[sP];exact FC bj _ (FI _)
   have FK:∀n,iS (XG n):=fun n=>by rw[sQ];exact FC bj _ (FJ _)
   have B1:XL 0=A:=sN 0
   have B2:XT 0=XL (c.t.length - i):=sP 0
   have B3:XG 0=XT i:=sQ 0
   have B4:∀n:Nat,eM c i j p (XL n) ⟨3,i,j,(n:Int)+1,0⟩=XL (n+1):=fun n=>by rw[sN (n+1),Fu,List.foldl_append,← sN];rfl
   have B5:∀n:Nat,eM c i j p (XT n) ⟨4,i,j,(n:Int)+1,0⟩=XT (n+1):=fun n=>by rw[sP (n+1),Fv,List.foldl_append,← sP];rfl
   have B6:∀n:Nat,eM c i j p (XG n) ⟨5,i,j,(n:Int),0⟩=XG (n+1):=fun n=>by rw[sQ (n+1),Fw,List.foldl_append,← sQ];rfl
   have cE:(if j<c.c.length then eM c i j p (XG c.g.length) ⟨6,i,j,0,cv⟩ else XG c.g.length)=qB c p i (j+1):=by
    rw[nk,List.foldl_append,List.foldl_append,List.foldl_append,List.foldl_append,hA,← sN,← sP,← sQ]
    split<;>rfl
   have oD:j<c.c.length→eM c i j p (eM c i j p D1 ⟨1,i,j,0,cv⟩) ⟨2,i,j,0,0⟩=A:=fun h=>by
    rw[← hA];unfold ls;rw[if_pos h,gq];rfl
   have yZ:¬j<c.c.length→eM c i j p D1 ⟨2,i,j,0,0⟩=A:=fun h=>by
    rw[← hA];unfold ls;rw[if_neg h];rfl
   clear sN sP sQ hA nk FG y2 qA iF
   refine .skip (.seq (.block (.sr ?_)))
   refine .sr ?_
   refine .seq (.au [0,1,2] rfl af (.rn [0,1] _ ?_))
   refine .pc rfl rfl rfl rfl rfl call79 (kG i j) ?_
   refine .done (.block ?_)
   refine .rangeFunc rfl call138 func138 rfl rfl rfl ?_
   refine .sr ?_
   refine .join (fun _:Unit=>([(1,.vp [.int .i64 i,.int .i64 j]),(2,.vp (cw c)),(3,.ptr 6 0)],⟨7,[(6,.box [.bw 5]),(5,sV none),(4,.box [.int .i64 i,.int .i64 j]),(3,.box [.ba 2]),(2,.map (a8 (places c) (D1))),(1,.box [.func f xs ys]),(0,.box (cQ c))]⟩)) (fun _=>True) ?_ ?_
   ·skip
    refine .seq ?_
    refine .drawn (ms:=[0,1,0,4,12,31,63,127,255,127,639,1663,4095,8191,16383,32767,65535,32767,163839,524287,1048575,32767,2129919,32767,8421375,31490047,65044479,134217727,268435455]) (W:=[]) (items:=B7) rfl af af af ?_
    iterate 7 refine .rx ?_
    refine .split (t:=15) rfl (fun cb=>?_) (fun cb=>?_)
    ·try subst cb
     try simp at cb
     iterate 8 refine .rx ?_
     refine .split (t:=23) rfl (fun fm=>?_) (fun fm=>?_)
     ·try subst fm
      try simp at fm
      have vw:i<c.t.length:=by simpa using er
      have cZ:j<c.c.length:=by simpa using fG
      have DC:c.t[i]=tv:=by rw[← nV,List.getD_eq_getElem?_getD,List.getElem?_eq_getElem vw];rfl
      have Yb:c.c[j]=cv:=by rw[← gq,List.getD_eq_getElem?_getD,List.getElem?_eq_getElem cZ];rfl
      iterate 14 refine .rx ?_
      refine .done ?_
      refine .cs ?_ ?_<;>intro nX
      ·try simp at nX
       have nB:=nB ⟨vw,cZ,nX⟩
       have xF:kV [.int .i64 ((i:Int)+1),.int .i64 ((j:Int)+1)] (a8 (places c) D)=some (some (.int .i64 d1)):=by
        have:=vy (i+1) (j+1) D (places c)
        rw[if_pos (xE.2 ⟨vw,cZ⟩),ke] at this
        exact this
       have sW:∀v,qz [.int .i64 ((i:Int)+1),.int .i64 ((j:Int)+1)] [.int .i64 ((i:Int)+1),.int .i64 ((j:Int)+1)] (.int .i64 v) (a8 (places c) D)=some (a8 (places c) (bz D (i+1) (j+1) v)):=fun v=>FB (xE.2 ⟨vw,cZ⟩) v
       have uY:(if d0<d1 then d0 else d1)=min d1 d0:=by split<;>omega
       refine .seq (.au vk rfl af (.rn fw _ ?_))
       refine .step rfl rfl (.yield rfl rfl rfl rfl rfl (by decide) rfl ?_)
       refine .rn ?_
       refine .block (.seq (.au pQ rfl af (.rn fe _ ?_)))
       refine .split (t:=60) rfl (fun jB=>?_) (fun jB=>?_)
       ·try subst jB
        try simp at jB
        have aY:d0<1099511627776:=by simpa using yQ
        refine .rn [5,6] _ ?_
        refine .step rfl rfl (.pure rfl rfl rfl dR (by decide) (vA) (by first|rfl|simp[*]) ?_)
        rintro _ rfl
        refine .rn [8] [] ?_
        refine .done ?_
        refine .cs ?_ ?_<;>intro pq
        ·try simp at pq
         rw[if_pos ⟨aY,pq⟩] at nB
         refine .drawn (ms:=[0,0,2,0,0,16,56,0,0,384,0,1024,3968,8184,16383]) (W:=[14]) (items:=P3) rfl af af af ?_
         iterate 14 refine .rx ?_
         refine .wv ?_
         refine .done ?_
         change bE _ _ _ _ _ _ _ _
         refine .rn [11] [] ?_
         refine .done (.gn rfl (.skip ?_))
         refine⟨(),trivial,by rw[nB];exact(.mk [] [] jP dP rfl rfl rfl)⟩
        try simp at pq
        rw[if_neg (fun hh=>by rw[pq] at hh;cases hh.2)] at nB
        refine .skip ?_
        change bE _ _ _ _ _ _ _ _
        refine .rn [11] [] ?_
        refine .done (.gn rfl (.skip ?_))
        refine⟨(),trivial,by rw[nB];exact(.mk [] [] jP dP rfl rfl rfl)⟩
       try subst jB
       try simp at jB
       rw[if_neg (fun hh=>by simp[hh.1] at yQ)] at nB
       refine .rn [5,6,7,8] [] ?_
       refine .done (.gn rfl (.skip ?_))
       change bE _ _ _ _ _ _ _ _
       refine .rn [11] [] ?_
       refine .done (.gn rfl (.skip ?_))
       refine⟨(),trivial,by rw[nB];exact(.mk [] [] jP dP rfl rfl rfl)⟩
      try simp at nX
      have nB:=nO (fun hh=>nX hh.2.2)
      refine .skip ?_
      refine⟨(),trivial,by rw[nB];exact(.mk [] [] jP dP rfl rfl rfl)⟩
     try subst fm
     try simp at fm
     have nB:=nO (fun hh=>by simp[hh.2.1] at fG)
     iterate 13 refine .ux ?_
     refine .rx ?_
     refine .done (.gn rfl (.skip ?_))
     refine⟨(),trivial,by rw[nB];exact(.mk [] [] jP dP rfl rfl rfl)⟩
    try subst cb
    try simp at cb
    have nB:=nO (fun hh=>by simp[hh.1] at er)
    iterate 6 refine .ux ?_
    iterate 2 refine .rx ?_
    iterate 13 refine .ux ?_
    refine .rx ?_
    refine .done (.gn rfl (.skip ?_))
    refine⟨(),trivial,by rw[nB];exact(.mk [] [] jP dP rfl rfl rfl)⟩
   skip
   rintro _ _
   simp only
   clear nO nB vA DB jV fN Qd mM ke BU yQ nV e2 d0 d1 pv tv hD
   refine .seq (.au [0,1,2] rfl af (.rn [0,1] _ ?_))
   refine .pc rfl rfl rfl rfl rfl call139 (lU i j) ?_
   refine .done (.block ?_)
   refine .rangeFunc rfl call166 func166 rfl rfl rfl ?_
   refine .sr ?_
   refine .sr ?_
   refine .sr ?_
   refine .join (fun _:Unit=>([(1,.vp [.int .i64 i,.int .i64 j]),(2,.vp (cw c)),(5,.func 167 [] [.ptr 9 0,.ptr 8 0])],⟨10,[(9,.box [.int .i64 2,.int .i64 i,.int .i64 j,.int .i64 0,.int .i64 0]),(8,.box [.bw 7]),(7,kU 6 c i j none),(6,.box [.bw 5]),(5,sV none),(4,.box [.int .i64 i,.int .i64 j]),(3,.box [.ba 2]),(2,.map (a8 (places c) (A))),(1,.box [.func f xs ys]),(0,.box (cQ c))]⟩)) (fun _=>True) ?_ ?_
   ·skip
    refine .seq ?_
    refine .rec (ax:=[(1,.vp [.int .i64 i,.int .i64 j]),(2,.vp (cw c)),(5,.func 167 [] [.ptr 9 0,.ptr 8 0])]) (aP:=⟨10,[(9,.box [.int .i64 0,.int .i64 i,.int .i64 j,.int .i64 0,.int .i64 0]),(8,.box [.bw 7]),(7,kU 6 c i j none),(6,.box [.bw 5]),(5,sV none),(4,.box [.int .i64 i,.int .i64 j]),(3,.box [.ba 2]),(2,.map (a8 (places c) (D1))),(1,.box [.func f xs ys]),(0,.box (cQ c))]⟩) (.mk [] [] jP dP rfl rfl rfl) ?_
    refine .au B8 rfl af (.rn gE _ ?_)
    refine .split (t:=21) rfl (fun dz=>?_) (fun dz=>?_)
    ·try subst dz
     try simp at dz
     have cZ:j<c.c.length:=by simpa using fG
     have sL:c.c[j]=cv:=by rw[← gq,List.getD_eq_getElem?_getD,List.getElem?_eq_getElem cZ];rfl
     have w1:=Ca c i j (D1) p f xs ys (1) (0) (cv) 0 0 0 hk oE ny (FH) hx hy dR hp
     have hA:=oD cZ
     obtain⟨L1,rF⟩:∃L,eM c i j p D1 ⟨1,i,j,0,cv⟩=L:=⟨_,rfl⟩
     have Lg:iS L1:=rF▸P4 bj FH
     rw[rF] at hA w1
     have w2:=Ca c i j (L1) p f xs ys (2) (0) (0) 1 0 cv hk oE ny (Lg) hx hy dR hp
     rw[hA] at w2
     refine .rn [7,8,9,10,11,12,13] _ ?_
     refine .step rfl rfl (.call rfl rfl rfl call167 (by decide) (((du.frame (i:=0) rfl rfl w1)).mono ?_))
     rintro _ _ ⟨_,⟨rfl,rfl⟩,rfl⟩
     refine .rn [15,16,17] _ ?_
     refine .split (t:=32) rfl (fun eC=>?_) (fun eC=>?_)
     ·try subst eC
      try simp at eC
     try subst eC
     try simp at eC
     refine .rn [18] _ ?_
     refine .step rfl rfl (.call rfl rfl rfl call167 (by decide) (((du.frame (i:=0) rfl rfl w2)).mono ?_))
     rintro _ _ ⟨_,⟨rfl,rfl⟩,rfl⟩
     refine .rn [20,21] [] ?_
     refine .done ?_
     refine .cs ?_ ?_<;>intro gT
     ·try simp at gT
     try simp at gT
     refine .skip ?_
     refine⟨(),trivial,(.mk [] [] jP dP rfl rfl rfl)⟩
    try subst dz
    try simp at dz
    have cZ:¬j<c.c.length:=by simpa using fG
    have w2:=Ca c i j (D1) p f xs ys (2) (0) (0) 0 0 0 hk oE ny (FH) hx hy dR hp
    rw[yZ cZ] at w2
    refine .rn [7,8,9,10,11,12,13,14,15,16,17,18] _ ?_
    refine .step rfl rfl (.call rfl rfl rfl call167 (by decide) (((du.frame (i:=0) rfl rfl w2)).mono ?_))
    rintro _ _ ⟨_,⟨rfl,rfl⟩,rfl⟩
    refine .rn [20,21] [] ?_
    refine .done ?_
    refine .cs ?_ ?_<;>intro gT
    ·try simp at gT
    try simp at gT
    refine .skip ?_
    refine⟨(),trivial,(.mk [] [] jP dP rfl rfl rfl)⟩
   skip
   rintro _ _
   simp only
   have BV:IntKind.i64.wrap ((c.t.length:Int) - (i:Int))=(c.t.length:Int) - (i:Int):=wrap64 (by omega) (by omega)
   refine .seq (.sr ?_)
   refine .block ?_
   refine .ec (fun z:Nat×Int×Int×Int=>([(1,.vp [.int .i64 i,.int .i64 j]),(2,.vp (cw c)),(5,.func 167 [] [.ptr 9 0,.ptr 8 0]),(6,.int .i64 ((z.1:Int)+1))],⟨10,[(9,.box [.int .i64 z.2.1,.int .i64 i,.int .i64 j,.int .i64 z.2.2.1,.int .i64 z.2.2.2]),(8,.box [.bw 7]),(7,kU 6 c i j none),(6,.box [.bw 5]),(5,sV none),(4,.box [.int .i64 i,.int .i64 j]),(3,.box [.ba 2]),(2,.map (a8 (places c) (XL z.1))),(1,.box [.func f xs ys]),(0,.box (cQ c))]⟩)) (fun z=>z.1≤c.t.length - i) (fun z=>c.t.length - i - z.1) (0,2,0,0) (Nat.zero_le _) (by simp only[B1];exact(.mk [] [] jP dP rfl rfl rfl)) ?_
   rintro⟨n,k,l,w⟩ hn
   simp only at hn ⊢
   refine .seq (.sr ?_)
   refine .cs ?_ ?_<;>intro sR
   ·try simp at sR
    have iR:n<c.t.length - i:=by omega
    have w3:=Ca c i j (XL n) p f xs ys (3) ((n:Int)+1) (0) k l w hk oE ny (FI n) hx hy dR hp
    rw[B4] at w3
    have xC:IntKind.i64.wrap ((n:Int)+1+1)=(n:Int)+1+1:=wrap64 (by omega) (by omega)
    refine .skip (.seq (.block (.seq (.au dt rfl af (.rn [0,1] _ ?_)))))
    refine .step rfl rfl (.call rfl rfl rfl call167 (by decide) (((du.frame (i:=0) rfl rfl w3)).mono ?_))
    rintro _ _ ⟨_,⟨rfl,rfl⟩,rfl⟩
    refine .rn [3] [] ?_
    refine .done ?_
    refine .cs ?_ ?_<;>intro xD
    ·try simp at xD
    try simp at xD
    refine .skip (.rn ?_)
    refine⟨(n+1,3,(n:Int)+1,0),bC,bC,?_⟩
    simp only
    exact(.mk [] [] jP dP rfl rfl rfl)
   try simp at sR
   obtain rfl:n=c.t.length - i:=by omega
   refine .exit (.seq (.sr ?_))
   refine .block ?_
   refine .ec (fun z:Nat×Int×Int×Int=>([(1,.vp [.int .i64 i,.int .i64 j]),(2,.vp (cw c)),(5,.func 167 [] [.ptr 9 0,.ptr 8 0]),(7,.int .i64 ((z.1:Int)+1))],⟨10,[(9,.box [.int .i64 z.2.1,.int .i64 i,.int .i64 j,.int .i64 z.2.2.1,.int .i64 z.2.2.2]),(8,.box [.bw 7]),(7,kU 6 c i j none),(6,.box [.bw 5]),(5,sV none),(4,.box [.int .i64 i,.int .i64 j]),(3,.box [.ba 2]),(2,.map (a8 (places c) (XT z.1))),(1,.box [.func f xs ys]),(0,.box (cQ c))]⟩)) (fun z=>z.1≤i) (fun z=>i - z.1) (0,k,l,w) (Nat.zero_le _) (by simp only[B2];exact(.mk [] [] jP dP rfl rfl rfl)) ?_
   rintro⟨n,k,l,w⟩ hn
   simp only at hn ⊢
   refine .seq (.sr ?_)
   refine .cs ?_ ?_<;>intro sS
   ·try simp at sS
    have iR:n<i:=by omega
    have w3:=Ca c i j (XT n) p f xs ys (4) ((n:Int)+1) (0) k l w hk oE ny (FJ n) hx hy dR hp
    rw[B5] at w3
    have xC:IntKind.i64.wrap ((n:Int)+1+1)=(n:Int)+1+1:=wrap64 (by omega) (by omega)
    refine .skip (.seq (.block (.seq (.au dt rfl af (.rn [0,1] _ ?_)))))
    refine .step rfl rfl (.call rfl rfl rfl call167 (by decide) (((du.frame (i:=0) rfl rfl w3)).mono ?_))
    rintro _ _ ⟨_,⟨rfl,rfl⟩,rfl⟩
    refine .rn [3] [] ?_
    refine .done ?_
    refine .cs ?_ ?_<;>intro jB
    ·try simp at jB
    try simp at jB
    refine .skip (.rn ?_)
    refine⟨(n+1,4,(n:Int)+1,0),bC,bC,?_⟩
    simp only
    exact(.mk [] [] jP dP rfl rfl rfl)
   try simp at sS
   obtain rfl:i=n:=by omega
   refine .exit (.seq (.sr ?_))
   refine .block ?_
   refine .ec (fun z:Nat×Int×Int×Int=>([(1,.vp [.int .i64 i,.int .i64 j]),(2,.vp (cw c)),(5,.func 167 [] [.ptr 9 0,.ptr 8 0]),(63,.int .i64 c.g.length),(64,.int .i64 z.1)],⟨10,[(9,.box [.int .i64 z.2.1,.int .i64 i,.int .i64 j,.int .i64 z.2.2.1,.int .i64 z.2.2.2]),(8,.box [.bw 7]),(7,kU 6 c i j none),(6,.box [.bw 5]),(5,sV none),(4,.box [.int .i64 i,.int .i64 j]),(3,.box [.ba 2]),(2,.map (a8 (places c) (XG z.1))),(1,.box [.func f xs ys]),(0,.box (cQ c))]⟩)) (fun z=>z.1≤c.g.length) (fun z=>c.g.length - z.1) (0,k,l,w) (Nat.zero_le _) (by simp only[B3];exact(.mk [] [] jP dP rfl rfl rfl)) ?_
   rintro⟨n,k,l,w⟩ hn
   simp only at hn ⊢
   refine .sr ?_
   refine .seq ?_
   refine .cs ?_ ?_<;>intro y0
   ·try simp at y0
    have w3:=Ca c i j (XG n) p f xs ys (5) ((n:Int)) (0) k l w hk oE ny (FK n) hx hy dR hp
    rw[B6] at w3
    have xC:=gD n
    refine .skip (.seq (.block (.sr ?_)))
    refine .seq (.au dt rfl af (.rn [0,1] _ ?_))
    refine .step rfl rfl (.call rfl rfl rfl call167 (by decide) (((du.frame (i:=0) rfl rfl w3)).mono ?_))
    rintro _ _ ⟨_,⟨rfl,rfl⟩,rfl⟩
    refine .rn [3] [] ?_
    refine .done ?_
    refine .cs ?_ ?_<;>intro fh
    ·try simp at fh
    try simp at fh
    refine .skip (.rn ?_)
    refine⟨(n+1,5,(n:Int),0),bC,bC,?_⟩
    simp only
    exact(.mk [] [] jP dP rfl rfl rfl)
   try simp at y0
   obtain rfl:n=c.g.length:=by omega
   refine .exit (.sr ?_)
   refine .cs ?_ ?_<;>intro po
   ·try simp at po
    have cZ:j<c.c.length:=by rw[po] at fG;simpa using fG
    rw[if_pos cZ] at cE
    have sL:c.c[j]=cv:=by rw[← gq,List.getD_eq_getElem?_getD,List.getElem?_eq_getElem cZ];rfl
    have w3:=Ca c i j (XG c.g.length) p f xs ys (6) (0) (cv) k l w hk oE ny (FK _) hx hy dR hp
    rw[cE] at w3
    refine .au lV rfl af (.rn gE _ ?_)
    refine .step rfl rfl (.call rfl rfl rfl call167 (by decide) (((du.frame (i:=0) rfl rfl w3)).mono ?_))
    rintro _ _ ⟨_,⟨rfl,rfl⟩,rfl⟩
    refine .done ?_
    change j3 _ _ _ _
    refine vx rfl ?_
    change j3 _ _ _ _
    refine vx rfl ?_
    refine .rn ?_
    refine⟨j+1,bC,bC,bT⟩
   try simp at po
   have cZ:¬j<c.c.length:=by rw[po] at fG;simpa using fG
   rw[if_neg cZ] at cE
   rw[cE]
   refine .skip ?_
   change j3 _ _ _ _
   refine vx rfl ?_
   change j3 _ _ _ _
   refine vx rfl ?_
   refine .rn ?_
   refine⟨j+1,bC,bC,bT⟩
  try simp at Dy
  obtain rfl:j=c.c.length+1:=by omega
  refine .exit (.rn ?_)
  refine⟨i+1,bC,bC,by rw[← X5];exact bT⟩
 try simp at mw
 obtain rfl:i=c.t.length+1:=by omega
 rw[P6]
 refine .exit (.sr ?_)
 refine .ret (aA ?_)
 exact zk
end Go.Am.Sl
end
