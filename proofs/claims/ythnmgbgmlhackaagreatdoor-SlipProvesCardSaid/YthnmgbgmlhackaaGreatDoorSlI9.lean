/-
 What is used in the proof of a statement (part SlI9); no condition.
-/
import Derived.Test.YthnmgbgmlhackaaGreatDoorSlH
import Derived.Test.YthnmgbgmlhackaaGreatDoorSlI0
import Derived.Test.YthnmgbgmlhackaaGreatDoorSlI2
import Derived.Test.YthnmgbgmlhackaaGreatDoorSlI7
set_option linter.all false
set_option maxHeartbeats 40000000
set_option maxRecDepth 100000
section
namespace Go.Am.Sl
open Go Go.Am Go.Proofs Tryz
attribute [local simp] de fQ lz dz dN jD af.back b6 dG iO bm Nat.testBit_eq_decide_div_mod_eq ct gf jB vO kN dX kO gE cJ jR jQ kK dY kL j9 jq ly j8 kM kF kC kG kD kE kH kI jM di ig dd kP jS ka kQ kR jL ls lu dW jC dy dx dA iL dK jY jO jP gX kz a7 j7 dw bA bC ja af.get af.alloc af.put af.drop af.empty bq cg gd gR fe cp chunk List.range List.range.loop iP lA jr bI bG PV.aD PV.az PV.b8 PV.dv eu dZ kc PV.one PV.ids PV.bT fJ beq_eq lQ l9
attribute [local simp] cQ bQ cw jU oL lD jE jN jc ef dD
attribute [local simp ↓ high] mG ma
attribute [local simp] cQ bQ cw jU lD jE jN jc ef dD
def pV (c:aj):Bool:=decide ((c.t.length≤60∧c.c.length≤60∧c.g.length≤10∧c.mx.length≤30)∧((c.t.length≤7∧c.c.length≤7)∨aN c≠0))
variable [bE] in
theorem SV (c:aj)(hB:BC c):aI prog 25 [aA c] fun r=>r=.bool (pV c):=by
 have fY:=A8 c hB
 have hC:cu c=(cQ c):=rfl
 have hF:pV c=decide ((c.t.length≤60∧c.c.length≤60∧c.g.length≤10∧c.mx.length≤30)∧((c.t.length≤7∧c.c.length≤7)∨aN c≠0)):=rfl
 obtain⟨e,he⟩:∃e,aN c=e:=⟨_,rfl⟩
 rw[he] at fY hF
 unfold aA at fY ⊢
 rw[hC] at fY ⊢
 refine .bJ func25 rfl rfl ?_
 refine .sr ?_
 refine .seq (.seq (.ar [0,1,2,3,4,5,6,7,8,9,10,11,12,13,14,15,16,17,18,19,20,21,22] rfl ae (.rn fR _ ?_)))
 refine .split (t:=7) rfl (fun c7=>?_) (fun c7=>?_)
 ·try rw[c7]
  try simp at c7
  refine .rn [5,6,7,8,9,10,11,12,13,14,15,16,17,18,19,20,21,22] [] ?_
  refine .done (.dR rfl (.sr ?_))
  refine .ret (ax ?_)
  refine congrArg PV.bool ?_
  rw[hF,Bool.eq_iff_iff]
  simp<;>omega
 try rw[c7]
 try simp at c7
 refine .rn [5,6,7,8,9,10] _ ?_
 refine .split (t:=13) rfl (fun gz=>?_) (fun gz=>?_)
 ·try rw[gz]
  try simp at gz
  refine .rn [11,12,13,14,15,16,17,18,19,20,21,22] [] ?_
  refine .done (.dR rfl (.sr ?_))
  refine .ret (ax ?_)
  refine congrArg PV.bool ?_
  rw[hF,Bool.eq_iff_iff]
  simp<;>omega
 try rw[gz]
 try simp at gz
 refine .rn [11,12,13,14,15,16] _ ?_
 refine .split (t:=19) rfl (fun gG=>?_) (fun gG=>?_)
 ·try rw[gG]
  try simp at gG
  refine .rn [17,18,19,20,21,22] [] ?_
  refine .done (.dR rfl (.sr ?_))
  refine .ret (ax ?_)
  refine congrArg PV.bool ?_
  rw[hF,Bool.eq_iff_iff]
  simp<;>omega
 try rw[gG]
 try simp at gG
 refine .rn [17,18,19,20,21,22] [] ?_
 refine .done ?_
 refine .cs ?_ ?_<;>intro gx
 ·try simp at gx
  refine .sr ?_
  refine .ret (ax ?_)
  refine congrArg PV.bool ?_
  rw[hF,Bool.eq_iff_iff]
  simp<;>omega
 try simp at gx
 refine .skip (.seq (.ar B2 rfl ae (.rn fR _ ?_)))
 refine .split (t:=30) rfl (fun uj=>?_) (fun uj=>?_)
 ·try rw[uj]
  try simp at uj
  refine .rn [5,6,7,8,9,10] _ ?_
  refine .split (t:=36) rfl (fun gJ=>?_) (fun gJ=>?_)
  ·try rw[gJ]
   try simp at gJ
   refine .rn [11,12,13,14,15] [] ?_
   refine .done (.ret (ax ?_))
   refine congrArg PV.bool ?_
   rw[hF,Bool.eq_iff_iff]
   simp<;>omega
  try rw[gJ]
  try simp at gJ
  refine .rn [11] _ ?_
  refine .pc rfl rfl rfl rfl rfl call66 (fY) ?_
  refine .rn [13,14,15] [] ?_
  refine .done (.ret (ax ?_))
  refine congrArg PV.bool ?_
  rw[hF,Bool.eq_iff_iff]
  simp<;>omega
 try rw[uj]
 try simp at uj
 refine .rn [5,6,7,8,9,10,11] _ ?_
 refine .pc rfl rfl rfl rfl rfl call66 (fY) ?_
 refine .rn [13,14,15] [] ?_
 refine .done (.ret (ax ?_))
 refine congrArg PV.bool ?_
 rw[hF,Bool.eq_iff_iff]
 simp<;>omega
end Go.Am.Sl
end
section
namespace Go.Am.Sl
def jG (n m:Nat)(L:List ay):Nat→Nat→Int:=L.foldr (fun x D=>fT D x) (bh (fun _ _=>1073741824) n m 0)
theorem Ln {c:aj}(hr:Rt c){L:List ay}(h:Sub c L)(a b:Nat):0≤gn L a b∧gn L a b≤cP:=by
 rw[Ia hr h]
 exact xhw (h.El hr) (by simp only[cP];omega) a b (by decide)
theorem SY {c:aj}(hr:Rt c){a b:Nat}(ha:a≤c.t.length)(hb:b≤c.c.length):gn (graph c) a b=aS c a b:=by
 have h:=(Cg hr ha hb)
 rw[Ia hr (Sub.graph c),Ch h.1]
theorem Oa {c:aj}(hr:Rt c):gn (graph c) c.t.length c.c.length=eR c:=SY hr (Nat.le_refl _) (Nat.le_refl _)
theorem Ic (n m:Nat)(x:ay)(L:List ay):jG n m (x::L)=fT (jG n m L) x:=rfl
theorem S8 (D:Nat→Nat→Int)(x:ay)(a b:Nat):fT D x a b≤D a b:=by
 unfold fT bh
 split
 ·rename_i h;obtain⟨rfl,rfl⟩:=h;exact Int.min_le_left _ _
 exact Int.le_refl _
theorem YY {n m:Nat}:∀ {L:List ay},Bk L→∀x∈L,jG n m L x.i x.j≤jG n m L x.i' x.j'+x.n
 |[],_,x,hx=>by cases hx
 |y::L,hs,x,hx=>by
  have iK:¬(x.i'=y.i∧x.j'=y.j):=fun he=>by
   have h1:=hs.on x hx
   rcases List.mem_cons.1 hx with rfl|hx
   ·rw[he.1,he.2] at h1;exact vM.irrefl h1
   have h2:=(List.pairwise_cons.1 hs.up).1 x hx
   exact h2 (by rw[← he.1,← he.2];exact h1)
  have e:jG n m (y::L) x.i' x.j'=jG n m L x.i' x.j':=by rw[Ic];unfold fT bh;rw[if_neg iK]
  rw[e]
  rcases List.mem_cons.1 hx with rfl|hx
  ·rw[Ic];unfold fT bh;rw[if_pos ⟨rfl,rfl⟩];exact Int.min_le_right _ _
  exact Int.le_trans (by rw[Ic];exact S8 _ _ _ _) (YY hs.tail x hx)
theorem z7v {n m:Nat}(L:List ay):jG n m L n m≤0:=by
 induction L with
 |nil=>unfold jG bh;simp
 |cons x L ih=>rw[Ic];exact Int.le_trans (S8 _ _ _ _) ih
theorem xdn {n m:Nat}{L:List ay}(hs:Bk L){i j:Nat}{v:Int}{w:List ay}(h:Way L i j n m v w):jG n m L i j≤v:=by
 have:∀ {i j a b:Nat} {v:Int} {w:List ay},Way L i j a b v w→jG n m L i j≤jG n m L a b+v:=by
  intro i j a b v w h
  induction h with
  |nil i j=>omega
  |cons x hx h ih=>have:=YY (n:=n) (m:=m) hs x hx;omega
 have h1:=this h
 have h2:=z7v (n:=n) (m:=m) L
 omega
theorem S9 {n m:Nat}{K:List ay}(hn:∀x∈K,0≤x.n):∀ {L:List ay},(∀x∈L,x∈K)→∀i j,cP≤jG n m L i j∨∃w,Way K i j n m (jG n m L i j) w
 |[],_,i,j=>by
  show cP≤bh (fun _ _=>1073741824) n m 0 i j∨∃w,Way K i j n m (bh (fun _ _=>1073741824) n m 0 i j) w
  unfold bh
  split
  ·rename_i h;obtain⟨rfl,rfl⟩:=h;exact .inr ⟨[],.nil _ _⟩
  exact .inl (Int.le_refl _)
 |x::L,h,i,j=>by
  have ih:=S9 (n:=n) (m:=m) hn (L:=L) fun y hy=>h y (List.mem_cons_of_mem _ hy)
  have hx:=h x List.mem_cons_self
  rw[Ic]
  unfold fT bh
  split
  ·rename_i he;obtain⟨rfl,rfl⟩:=he
   rcases Int.le_total (jG n m L x.i x.j) (jG n m L x.i' x.j'+x.n) with h1|h1
   ·rw[Int.min_eq_left h1];exact ih _ _
   rw[Int.min_eq_right h1]
   rcases ih x.i' x.j' with h2|⟨w,hw⟩
   ·exact .inl (by have:=hn x hx;omega)
   refine .inr ⟨x::w,?_⟩
   rw[Int.add_comm];exact .cons x hx hw
  exact ih i j
theorem YT {c:aj}(hr:Rt c){i j:Nat}(hi:i≤c.t.length)(hj:j≤c.c.length):jG c.t.length c.c.length (graph c) i j=bwd c i j:=by
 obtain⟨w,hw⟩:=HM hr _ i j hi hj (Nat.le_refl _)
 have h1:=xdn (JY hr) hw
 have h2:=Ng hr _ i j hi hj rfl
 have:=hr.tl;have:=hr.cl
 rcases S9 (n:=c.t.length) (m:=c.c.length) (fun x hx=>(JW hr x hx).1) (fun x hx=>hx) i j with h3|⟨w',vE⟩
 ·simp only[cP] at h3;omega
 have h4:=Wx hr vE;omega
def CU (c:aj):List ay:=(graph c).filter fun x=>decide (gn (graph c) x.i x.j+x.n+jG c.t.length c.c.length (graph c) x.i' x.j'=gn (graph c) c.t.length c.c.length)
theorem Lc {c:aj}(hr:Rt c):CU c=dS c:=by
 unfold CU dS
 refine List.filter_congr fun x hx=>?_
 obtain⟨h1,h2,h3⟩:=rQ hr hx
 have ho:=iz hr h1
 rw[SY hr h2 h3,YT hr ho.it ho.jt,Oa hr]
 rfl
open Go Go.Am Go.Proofs Tryz
attribute [local simp] de fQ lz dz dN jD af.back b6 dG iO bm Nat.testBit_eq_decide_div_mod_eq ct gf jB vO kN dX kO gE cJ jR jQ kK dY kL j9 jq ly j8 kM kF kC kG kD kE kH kI jM di ig dd kP jS ka kQ kR jL ls lu dW jC dy dx dA iL dK jY jO jP gX kz a7 j7 dw bA bC ja af.get af.alloc af.put af.drop af.empty bq cg gd gR fe cp chunk List.range List.range.loop iP lA jr bI bG PV.aD PV.az PV.b8 PV.dv eu dZ kc PV.one PV.ids PV.bT fJ beq_eq lQ l9
attribute [local simp] cQ bQ cw jU Eg lD CL jE jN jc ef dD
attribute [local simp ↓ high] mG ma
theorem z0z (i j:Nat):bh (fun _ _=>(1073741824:Int)) i j 1073741824=fun _ _=>1073741824:=by
 funext a b;unfold bh;split<;>rfl
theorem z4v {m i j:Nat}:rO [.int .i64 i,.int .i64 j] [.int .i64 i,.int .i64 j] (.int .i64 1073741824) (aR (mI m i j) fun _ _=>1073741824)=some (aR (mI m i (j+1)) fun _ _=>1073741824):=by
 have:=Hy (a:=i) (b:=j) (D:=fun _ _=>1073741824) (ps:=mI m i j) (by rw[P6];omega) 1073741824
 rw[z0z,← Jw] at this
 exact this
theorem Ob {c:aj}{i j:Nat}(hi:i≤c.t.length)(hj:j≤c.c.length)(D:Nat→Nat→Int)(v:Int):rO [.int .i64 i,.int .i64 j] [.int .i64 i,.int .i64 j] (.int .i64 v) (aR (places c) D)=some (aR (places c) (bh D i j v)):=
 Hw (xQ.2 ⟨hi,hj⟩) v
theorem CR {c:aj}{i j:Nat}(hi:i≤c.t.length)(hj:j≤c.c.length)(D:Nat→Nat→Int):mH [.int .i64 i,.int .i64 j] (aR (places c) D)=some (some (.int .i64 (D i j))):=by
 have:=xP i j D (places c)
 rw[if_pos (xQ.2 ⟨hi,hj⟩)] at this
 exact this
theorem z7o {L:List ay}{k:Nat}{x:ay}(h:L[k]?=some x):gn (L.take (k+1))=vm (gn (L.take k)) x:=by
 unfold gn
 rw[List.take_add_one,h,Option.toList_some,List.foldl_append];rfl
theorem z7l {n m:Nat}{L:List ay}{k:Nat}{x:ay}(h:L[k]?=some x):jG n m (L.drop k)=fT (jG n m (L.drop (k+1))) x:=by
 obtain⟨hk,he⟩:=List.getElem?_eq_some_iff.1 h
 rw[List.drop_eq_getElem_cons hk,he];rfl
theorem N8 (p q:Int):min p q=if q<p then q else p:=by
 split
 ·exact Int.min_eq_right (by omega)
 exact Int.min_eq_left (by omega)
theorem CW {L:List ay}(hn:∀x∈L,0≤x.n){i j a b:Nat}{n:Int}{w:List ay}(h:Way L i j a b n w):0≤n:=by
 induction h with
 |nil i j=>omega
 |cons x hx h ih=>have:=hn x hx;omega
theorem S2 {n m:Nat}{K:List ay}(hn:∀x∈K,0≤x.n){L:List ay}(hL:∀x∈L,x∈K)(a b:Nat):0≤jG n m L a b∧jG n m L a b≤cP:=by
  constructor
  · rcases S9 (n:=n) (m:=m) hn hL a b with h|⟨w,h⟩
    · have:(0:Int)≤cP:=by decide
      omega
    exact CW hn h
  clear hL
  induction L with
  | nil => show bh (fun _ _ => 1073741824) n m 0 a b ≤ cP
           unfold bh;split
           · decide
           exact Int.le_refl _
  |cons x r ih=>exact Int.le_trans (by rw[Ic];exact S8 _ x a b) ih
theorem Sub.pre {c:aj}{L:List ay}(h:Sub c L)(k:Nat):Sub c (L.take k):=⟨(List.take_sublist k L).trans h.sub⟩
section
variable [bE]
theorem S0 (c:aj)(L:List ay)(hk:aN c=0)(hs:Sub c L):aI prog 98 [aA c,.vec (L.map bZ)] fun r=>r=.bz [.aG (aR (places c) (gn L)),.aG (aR (places c) (jG c.t.length c.c.length L))]:=by
 have aP:=fC hk
 have nY:=aP.tl
 have fx:=aP.cl
 have hC:cu c=(cQ c):=rfl
 have MY:mI (c.c.length+1) 0 0=[]:=rfl
 have nR:aR [] (fun _ _=>1073741824)=[]:=rfl
 have mW:rO [.int .i64 0,.int .i64 0] [.int .i64 0,.int .i64 0] (.int .i64 0) (aR (places c) fun _ _=>1073741824)=some (aR (places c) (bh (fun _ _=>1073741824) 0 0 0)):=Ob (i:=0) (j:=0) (Nat.zero_le _) (Nat.zero_le _) _ 0
 have nk:=@Ob c c.t.length c.c.length (Nat.le_refl _) (Nat.le_refl _) (fun _ _=>1073741824) 0
 have H7:=hs.len aP
 have cS:∀x∈L,x.i≤c.t.length∧x.j≤c.c.length∧x.i'≤c.t.length∧x.j'≤c.c.length∧0≤x.n∧x.n≤100:=fun x hx=>by
  obtain⟨h1,h2,h3⟩:=JL aP (hs.mem hx)
  exact⟨h2,h3,h1.it,h1.jt,h1.n0,h1.n1⟩
 have oM:∀k a b,0≤gn (L.take k) a b∧gn (L.take k) a b≤1073741824:=fun k a b=>Ln aP (hs.pre k) a b
 have re:∀k a b,0≤jG c.t.length c.c.length (L.drop k) a b∧jG c.t.length c.c.length (L.drop k) a b≤1073741824:=fun k a b=>S2 (K:=L) (fun x hx=>(cS x hx).2.2.2.2.1) (fun x hx=>List.mem_of_mem_drop hx) a b
 have po:∀k x,L[k]?=some x→gn (L.take (k+1))=vm (gn (L.take k)) x:=fun k x h=>z7o h
 have Gm:∀k x,L[k]?=some x→jG c.t.length c.c.length (L.drop k)=fT (jG c.t.length c.c.length (L.drop (k+1))) x:=fun k x h=>z7l h
 unfold aA
 rw[hC]
 refine .bJ func98 rfl rfl ?_
 refine .sr ?_
 refine .sr ?_
 refine .sr ?_
 refine .seq (.sr ?_)
 refine .block ?_
 refine .cZ (fun i:Nat=>([(2,.ptr 0 0),(1,.vec (L.map bZ)),(6,.a6 1),(7,.a6 2),(8,.int .i64 i)],⟨3,[(2,.map (aR (mI (c.c.length+1) i 0) (fun _ _=>1073741824))),(1,.map (aR (mI (c.c.length+1) i 0) (fun _ _=>1073741824))),(0,.box (cQ c))]⟩)) (fun i=>i≤c.t.length+1) (fun i=>c.t.length+1 - i) 0 (Nat.zero_le _) (by simp only[MY,nR];exact aX) ?_
 rintro i hi
 simp only at hi ⊢
 refine .seq (.sr ?_)
 refine .cs ?_ ?_<;>intro zw
 ·try simp at zw
  have cR:IntKind.i64.wrap ((i:Int)+1)=((i+1:Nat):Int):=by rw[wrap64 (by omega) (by omega)];omega
  refine .skip (.seq (.block (.sr ?_)))
  refine .block ?_
  refine .cZ (fun j:Nat=>([(2,.ptr 0 0),(1,.vec (L.map bZ)),(6,.a6 1),(7,.a6 2),(8,.int .i64 i),(9,.int .i64 j)],⟨3,[(2,.map (aR (mI (c.c.length+1) i j) (fun _ _=>1073741824))),(1,.map (aR (mI (c.c.length+1) i j) (fun _ _=>1073741824))),(0,.box (cQ c))]⟩)) (fun j=>j≤c.c.length+1) (fun j=>c.c.length+1 - j) 0 (Nat.zero_le _) aX ?_
  rintro j hj
  simp only at hj ⊢
  refine .seq (.sr ?_)
  refine .cs ?_ ?_<;>intro fg
  ·try simp at fg
   have sh:IntKind.i64.wrap ((j:Int)+1)=((j+1:Nat):Int):=by rw[wrap64 (by omega) (by omega)];omega
   have Dw:=@z4v (c.c.length+1) i j
   refine .skip (.seq (.block (.sr ?_)))
   refine .rn ?_
   refine .rn ?_
   refine⟨j+1,ba,ba,aX⟩
  try simp at fg
  obtain rfl:j=c.c.length+1:=by omega
  refine .exit (.rn ?_)
  refine⟨i+1,ba,ba,by rw[← Jx];exact aX⟩
 try simp at zw
 obtain rfl:i=c.t.length+1:=by omega
 rw[Hx]
 refine .exit (.sr ?_)
 refine .sr ?_
 refine .seq (.sr ?_)
 refine .block ?_
 refine .cZ (fun k:Nat=>([(2,.ptr 0 0),(1,.vec (L.map bZ)),(6,.a6 1),(7,.a6 2),(10,.int .i64 k)],⟨3,[(2,.map (aR (places c) (jG c.t.length c.c.length []))),(1,.map (aR (places c) (gn (L.take k)))),(0,.box (cQ c))]⟩)) (fun k=>k≤L.length) (fun k=>L.length - k) 0 (Nat.zero_le _) aX ?_
 rintro k im
 simp only at im ⊢
 refine .seq (.sr ?_)
 refine .cs ?_ ?_<;>intro vV
 ·try simp at vV
  have DM:IntKind.i64.wrap ((k:Int)+1)=((k+1:Nat):Int):=by rw[wrap64 (by omega) (by omega)];omega
  have ee:k<L.length:=by omega
  obtain⟨x,hx⟩:∃x,L[k]?=some x:=⟨_,List.getElem?_eq_getElem ee⟩
  have ic:=(List.getElem?_eq_some_iff.1 hx).2
  obtain⟨h1,h2,h3,h4,h5,h6⟩:=cS x (List.mem_of_getElem? hx)
  obtain⟨xb,xk,xa,xi,xl,xw,hD⟩:=KM x
  have dp:=po k x hx
  have eM:=oM k x.i x.j
  have cr:=oM k x.i' x.j'
  obtain⟨D,xR⟩:∃D,gn (L.take k)=D:=⟨_,rfl⟩
  rw[xR] at dp eM cr ⊢
  have qf:=CR h1 h2 D
  have nH:=CR h3 h4 D
  have D7:=Ob h3 h4 D (min (D x.i' x.j') (D x.i x.j+x.n))
  have R6:IntKind.i64.wrap (D x.i x.j+x.n)=D x.i x.j+x.n:=wrap64 (by omega) (by omega)
  unfold vm at dp
  rw[← dp,N8] at D7
  clear cS oM re po Gm
  refine .skip (.seq (.block (.sr ?_)))
  refine .drawn (ms:=[0,0,2,0,0,16,56,0,0,256,896,0,2048,8064,16376,32767]) (W:=[15]) (items:=Lt) rfl ae ae ae ?_
  iterate 15 refine .rx ?_
  refine .wv ?_
  refine .done (.rn ?_)
  refine⟨k+1,ba,ba,?_⟩
  exact aX
 try simp at vV
 obtain rfl:k=L.length:=by omega
 rw[List.take_length]
 obtain⟨DF,x8⟩:∃D,gn L=D:=⟨_,rfl⟩
 rw[x8]
 have n3:L.drop L.length=[]:=List.drop_length
 have qV:IntKind.i64.wrap ((L.length:Int) - 1)=(L.length:Int) - 1:=wrap64 (by omega) (by omega)
 refine .exit (.seq (.sr ?_))
 refine .block ?_
 refine .cZ (fun m:Nat=>([(2,.ptr 0 0),(1,.vec (L.map bZ)),(6,.a6 1),(7,.a6 2),(12,.int .i64 ((m:Int) - 1))],⟨3,[(2,.map (aR (places c) (jG c.t.length c.c.length (L.drop m)))),(1,.map (aR (places c) DF)),(0,.box (cQ c))]⟩)) (fun m=>m≤L.length) (fun m=>m) L.length (Nat.le_refl _) (by rw[n3];exact aX) ?_
 rintro m hm
 simp only at hm ⊢
 refine .seq (.sr ?_)
 refine .cs ?_ ?_<;>intro uV
 ·try simp at uV
  have b7:0<m:=by omega
  obtain⟨k,rfl⟩:∃k,m=k+1:=⟨m - 1,by omega⟩
  have ee:k<L.length:=by omega
  have qe:((k+1:Nat):Int) - 1=(k:Int):=by omega
  obtain⟨x,hx⟩:∃x,L[k]?=some x:=⟨_,List.getElem?_eq_getElem ee⟩
  have ic:=(List.getElem?_eq_some_iff.1 hx).2
  obtain⟨h1,h2,h3,h4,h5,h6⟩:=cS x (List.mem_of_getElem? hx)
  obtain⟨xb,xk,xa,xi,xl,xw,hD⟩:=KM x
  have dp:=Gm k x hx
  have eM:=re (k+1) x.i x.j
  have cr:=re (k+1) x.i' x.j'
  obtain⟨D,xR⟩:∃D,jG c.t.length c.c.length (L.drop (k+1))=D:=⟨_,rfl⟩
  rw[xR] at dp eM cr ⊢
  have qf:=CR h1 h2 D
  have nH:=CR h3 h4 D
  have D7:=Ob h1 h2 D (min (D x.i x.j) (D x.i' x.j'+x.n))
  have R6:IntKind.i64.wrap (D x.i' x.j'+x.n)=D x.i' x.j'+x.n:=wrap64 (by omega) (by omega)
  have hwm:IntKind.i64.wrap ((k:Int) - 1)=(k:Int) - 1:=wrap64 (by omega) (by omega)
  unfold fT at dp
  rw[← dp,N8] at D7
  clear cS oM re po Gm
  refine .skip (.seq (.block (.sr ?_)))
  refine .drawn (ms:=[0,0,2,0,0,16,56,0,0,256,896,0,2048,8064,16376,32767]) (W:=[15]) (items:=Lt) rfl ae ae ae ?_
  iterate 15 refine .rx ?_
  refine .wv ?_
  refine .done (.rn ?_)
  refine⟨k,ba,ba,?_⟩
  exact aX
 try simp at uV
 obtain rfl:m=0:=by omega
 rw[List.drop_zero]
 refine .exit (.sr ?_)
 refine .ret (ax ?_)
 exact zk
theorem Gt (c:aj)(L:List ay)(hk:aN c=0)(hs:Sub c L):aI prog 91 [aA c,.vec (L.map bZ)] fun r=>r=.int .i64 (gn L c.t.length c.c.length):=by
 have sE:=S0 c L hk hs
 have hC:cu c=(cQ c):=rfl
 have hg:=CR (Nat.le_refl _) (Nat.le_refl _) (c:=c) (gn L)
 obtain⟨DF,x8⟩:∃D,gn L=D:=⟨_,rfl⟩
 obtain⟨DT,CQ⟩:∃D,jG c.t.length c.c.length L=D:=⟨_,rfl⟩
 rw[x8,CQ] at sE
 rw[x8] at hg ⊢
 unfold aA at sE ⊢
 rw[hC] at sE ⊢
 refine .bJ func91 rfl rfl ?_
 refine .sr ?_
 refine .seq (.ar js rfl ae (.rn [0,1] _ ?_))
 refine .pc rfl rfl rfl rfl rfl call98 (sE) ?_
 refine .rn [3,4,5,6,7] [] ?_
 refine .done (.sr ?_)
 refine .ret (ax ?_)
 exact zk
theorem Lb (c:aj)(hk:aN c=0):aI prog 90 [aA c] fun r=>ec r ((.vec ((CU c).map bZ))):=by
 have aP:=fC hk
 have nY:=aP.tl
 have fx:=aP.cl
 have mJ:=aI.soft (KI c hk) (by simp[PV.aD,PV.az])
 have hG:Sub c (graph c):=Sub.graph c
 have sE:=S0 c (graph c) hk hG
 have fE:=Gt c (graph c) hk hG
 have hC:cu c=(cQ c):=rfl
 have S1:=hG.len aP
 have cS:∀x∈graph c,x.i≤c.t.length∧x.j≤c.c.length∧x.i'≤c.t.length∧x.j'≤c.c.length∧0≤x.n∧x.n≤100:=fun x hx=>by
  obtain⟨h1,h2,h3⟩:=JL aP hx
  exact⟨h2,h3,h1.it,h1.jt,h1.n0,h1.n1⟩
 have oM:∀a b,0≤gn (graph c) a b∧gn (graph c) a b≤1073741824:=fun a b=>Ln aP hG a b
 have re:∀a b,0≤jG c.t.length c.c.length (graph c) a b∧jG c.t.length c.c.length (graph c) a b≤1073741824:=fun a b=>S2 (K:=graph c) (fun x hx=>(cS x hx).2.2.2.2.1) (fun x hx=>hx) a b
 have kB:CU c=(graph c).filter fun x=>decide (gn (graph c) x.i x.j+x.n+jG c.t.length c.c.length (graph c) x.i' x.j'=gn (graph c) c.t.length c.c.length):=rfl
 obtain⟨G,YZ⟩:∃G,graph c=G:=⟨_,rfl⟩
 rw[YZ] at mJ sE fE cS oM re kB S1
 obtain⟨DF,x8⟩:∃D,gn G=D:=⟨_,rfl⟩
 obtain⟨DT,CQ⟩:∃D,jG c.t.length c.c.length G=D:=⟨_,rfl⟩
 rw[x8,CQ] at sE kB
 rw[x8] at fE oM
 rw[CQ] at re
 obtain⟨le,hle⟩:∃x,DF c.t.length c.c.length=x:=⟨_,rfl⟩
 rw[hle] at fE kB
 have lL:∀(D:Nat→Nat→Int) (x:ay),x∈G→mH [.int .i64 x.i,.int .i64 x.j] (aR (places c) D)=some (some (.int .i64 (D x.i x.j)))∧mH [.int .i64 x.i',.int .i64 x.j'] (aR (places c) D)=some (some (.int .i64 (D x.i' x.j'))):=fun D x hx=>by
  obtain⟨h1,h2,h3,h4,_⟩:=cS x hx
  exact⟨CR h1 h2 D,CR h3 h4 D⟩
 obtain⟨PP,Y0⟩:∃P:ay→Bool,(fun x=>decide (DF x.i x.j+x.n+DT x.i' x.j'=le))=P:=⟨_,rfl⟩
 rw[Y0] at kB
 have Y1:∀x,PP x=(DF x.i x.j+x.n+DT x.i' x.j'==le):=fun x=>by rw[← Y0,Bool.eq_iff_iff];simp
 unfold aA at mJ sE fE ⊢
 rw[hC] at mJ sE fE ⊢
 clear YZ hG x8 CQ hle
 refine .bJ func90 rfl rfl ?_
 refine .sr ?_
 refine .seq (.ar [0,1,2] rfl ae (.rn [0] _ ?_))
 refine .pc rfl rfl rfl rfl rfl call97 (mJ) ?_
 refine .rn [2] [] ?_
 refine .done (.seq (.ar js rfl ae ?_))
 refine .rn [0,1] _ ?_
 refine .pc rfl rfl rfl rfl rfl call98 (sE) ?_
 refine .rn [3,4,5,6,7] [] ?_
 refine .done (.seq (.ar dQ rfl ae ?_))
 refine .rn [0,1] _ ?_
 refine .pc rfl rfl rfl rfl rfl call91 (fE) ?_
 refine .rn [3] [] ?_
 refine .done (.sr ?_)
 refine .seq (.sr ?_)
 refine .block ?_
 refine .cZ (fun z:Nat×List ay=>([(1,.ptr 0 0),(3,.vec (G.map bZ)),(4,.aG (aR (places c) DF)),(5,.aG (aR (places c) DT)),(6,.int .i64 le),(7,.grow 1 z.2.length true),(8,.int .i64 z.1)],⟨2,[(1,.grow 11 (z.2.map bZ)),(0,.box (cQ c))]⟩)) (fun z=>z.1≤G.length∧(G.take z.1).filter PP=z.2) (fun z=>G.length - z.1) (0,[]) ⟨Nat.zero_le _,rfl⟩ aX ?_
 rintro⟨k,D⟩ ⟨ee,kh⟩
 simp only at ee kh ⊢
 refine .seq (.sr ?_)
 refine .cs ?_ ?_<;>intro hP
 ·try simp at hP
  have qA:IntKind.i64.wrap ((k:Int)+1)=((k+1:Nat):Int):=by rw[wrap64 (by omega) (by omega)];omega
  have dm:k<G.length:=by omega
  obtain⟨x,hx⟩:∃x,G[k]?=some x:=⟨_,List.getElem?_eq_getElem dm⟩
  have ic:G[k]=x:=(List.getElem?_eq_some_iff.1 hx).2
  have Bf:=List.mem_of_getElem? hx
  obtain⟨h1,h2,h3,h4,h5,h6⟩:=cS x Bf
  have eM:=oM x.i x.j
  have cr:=re x.i' x.j'
  have qf:=(lL DF x Bf).1
  have nH:=(lL DT x Bf).2
  have ue:D.length≤k:=by rw[← kh];exact Nat.le_trans (List.length_filter_le _ _) (by rw[List.length_take];omega)
  have dp:(G.take (k+1)).filter PP=D++(if PP x then [x] else []):=by
   rw[List.take_add_one,hx,List.filter_append,kh]
   cases hp:PP x<;>simp[hp]
  have ub:=Y1 x
  obtain⟨xb,xk,xa,xi,xl,xw,hD⟩:=KM x
  obtain⟨v1,iF⟩:∃v,DF x.i x.j=v:=⟨_,rfl⟩
  obtain⟨v2,eZ⟩:∃v,DT x.i' x.j'=v:=⟨_,rfl⟩
  rw[iF] at eM qf ub
  rw[eZ] at cr nH ub
  have Jm:IntKind.i64.wrap (v1+x.n)=v1+x.n:=wrap64 (by omega) (by omega)
  have sA:IntKind.i64.wrap (v1+x.n+v2)=v1+x.n+v2:=wrap64 (by omega) (by omega)
  have qV:D.length+1≤4294967296:=by omega
  have hvx:[bZ x]=[x].map bZ:=rfl
  obtain⟨eb,qG⟩:∃b,(v1+x.n+v2==le)=b:=⟨_,rfl⟩
  rw[qG] at ub
  rw[ub] at dp
  clear cS oM re lL Y1
  refine .skip (.seq (.block (.seq ?_)))
  refine .drawn (ms:=[0,0,0,6,14,30,63,0,0,384,896,1920,4095,0,0,0,49152,114688,245760,516096,1048575,0,4194303]) (W:=[]) (items:=Li) rfl ae ae ae ?_
  iterate 23 refine .rx ?_
  refine .done ?_
  refine .cs ?_ ?_<;>intro fV
  ·try simp at fV
   refine .rn ?_
   refine .rn ?_
   refine⟨(k+1,D++[x]),⟨by omega,by rw[dp];simp[fV]⟩,ba,?_⟩
   exact(.mk [] [(1,3)] gH gY rfl rfl rfl)
  try simp at fV
  refine .skip (.rn ?_)
  refine⟨(k+1,D),⟨by omega,by rw[dp];simp[fV]⟩,ba,?_⟩
  exact aX
 try simp at hP
 obtain rfl:k=G.length:=by omega
 rw[List.take_length] at kh
 refine .exit (.sr ?_)
 refine .ret (ax ?_)
 show ec _ _
 rw[kB,kh];exact oF (rj _)
end
end Go.Am.Sl
end
