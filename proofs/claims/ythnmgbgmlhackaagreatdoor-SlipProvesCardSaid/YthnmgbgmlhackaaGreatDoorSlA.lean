/-
 What is used in the proof of a statement (part SlA); no condition.
-/
import Derived.Test.YthnmgbgmlhackaaGreatDoorSlZ
import Derived.Test.YthnmgbgmlhackaaGreatDoorVm2
import Derived.Test.YthnmgbgmlhackaaGreatDoorSlT
set_option linter.all false
set_option maxHeartbeats 40000000
set_option maxRecDepth 100000
section
namespace Go.Am.Sl
open Go Go.Am Go.Proofs Tryz
attribute [local simp] de fQ lz dz dN jD af.back b6 dG iO bm Nat.testBit_eq_decide_div_mod_eq ct gf jB vO kN dX kO gE cJ jR jQ kK dY kL j9 jq ly j8 kM kF kC kG kD kE kH kI jM di ig dd kP jS ka kQ kR jL ls lu dW jC dy dx dA iL dK jY jO jP gX kz a7 j7 dw bA bC ja af.get af.alloc af.put af.drop af.empty bq cg gd gR fe cp chunk List.range List.range.loop iP lA jr bI bG PV.aD PV.az PV.b8 PV.dv eu dZ kc PV.one PV.ids PV.bT fJ beq_eq lQ l9
def ke {α:Type}(p:α→Bool):Nat→List α→Int
 |_,[] => -1
 |i,a::r=>if p a then i else ke p (i+1) r
theorem PM {α:Type}(p:α→Bool)(l:List α)(i:Nat)(h:i<l.length):ke p i (l.drop i)=if p l[i] then (i:Int) else ke p (i+1) (l.drop (i+1)):=by
 rw[List.drop_eq_getElem_cons h];rfl
theorem Vp {α:Type}(p:α→Bool):∀(l:List α) (i:Nat),(ke p i l = -1∧l.any p=false)∨((i:Int)≤ke p i l∧ke p i l<i+l.length∧l.any p=true)
 |[],i=>.inl ⟨rfl,rfl⟩
 |a::r,i=>by
  simp only[ke,List.any_cons,List.length_cons]
  cases h:p a with
  |true=>exact .inr ⟨by simp,by simp;omega,rfl⟩
  |false=>
   rcases Vp p r (i+1) with⟨h1,h2⟩|⟨h1,h2,h3⟩
   ·exact .inl ⟨by simpa using h1,by simpa using h2⟩
   exact .inr ⟨by simp;omega,by simp;omega,by simpa using h3⟩
theorem PN {α:Type}(p:α→Bool)(l:List α)(i:Nat):decide (ke p i l≥0)=l.any p:=by
 rcases Vp p l i with⟨h1,h2⟩|⟨h1,h2,h3⟩
 ·rw[h1,h2];decide
 rw[h3];simp;omega
def bD (m:mD):PV:=.agg [.int .i64 m.f,.int .i64 m.t,.int .i64 m.c]
def cy (g:pw):PV:=.agg [.int .i64 g.at_,ints g.ws]
def cu (c:aj):List PV:=[.int .i64 c.om,.int .i64 c.le,.int .i64 c.tw,.int .i64 c.gl,.int .i64 c.ad,.vec (c.mx.map bD),ints c.t,.vec (c.g.map cy),ints c.c]
@[reducible] def cQ (c:aj):List PV:=[.int .i64 c.om,.int .i64 c.le,.int .i64 c.tw,.int .i64 c.gl,.int .i64 c.ad,.vec (c.mx.map bD),ints c.t,.vec (c.g.map cy),ints c.c]
@[reducible] def bQ (c:aj)(x y z:PV):List PV:=[.int .i64 c.om,.int .i64 c.le,.int .i64 c.tw,.int .i64 c.gl,.int .i64 c.ad,.vec (c.mx.map bD),ints c.t,.vec (c.g.map cy),ints c.c,x,y,z]
def aA (c:aj):PV:=.agg (cu c)
def encS (s:ak):PV:=.agg [.int .i64 s.k,.int .i64 s.a,.int .i64 s.i,.int .i64 s.l,.int .i64 s.w]
theorem Vq (m:mD):bD m=.agg [.int .i64 m.f,.int .i64 m.t,.int .i64 m.c]:=rfl
theorem Vr (g:pw):cy g=.agg [.int .i64 g.at_,ints g.ws]:=rfl
@[simp] theorem xdz (m:mD):(bD m).cells=[.int .i64 m.f,.int .i64 m.t,.int .i64 m.c]:=rfl
@[simp] theorem xd3 (g:pw):(cy g).cells=[.int .i64 g.at_,ints g.ws]:=rfl
@[simp] theorem xdv (s:ak):(encS s).cells=[.int .i64 s.k,.int .i64 s.a,.int .i64 s.i,.int .i64 s.l,.int .i64 s.w]:=rfl
@[simp] theorem xjw (m:mD):(bD m).aD=true:=by simp[bD,PV.aD,PV.az]
@[simp] theorem xj0 (g:pw):(cy g).aD=true:=by simp[cy,PV.aD,PV.az]
@[simp] theorem xjx (s:ak):(encS s).aD=true:=by simp[encS,PV.aD,PV.az]
@[simp] theorem z5p (c:aj):(aA c).aD=true:=by simp[aA,cu,PV.aD,PV.az]
@[simp] theorem xdt (l:List mD):nU 3 (l.map bD)=true:=AQ (f:=bD) (n:=3) (fun _=>rfl) l
@[simp] theorem xd1 (l:List pw):nU 2 (l.map cy)=true:=AQ (f:=cy) (n:=2) (fun _=>rfl) l
@[simp] theorem PQ (l:List ak):nU 5 (l.map encS)=true:=AQ (f:=encS) (n:=5) (fun _=>rfl) l
@[simp] theorem xci (l:List mD):nV (l.map bD)=true:=AR (f:=bD) (fun _=>by simp[PV.one]) l
@[simp] theorem xct (l:List pw):nV (l.map cy)=true:=AR (f:=cy) (fun _=>by simp[PV.one]) l
@[simp] theorem xb4 (l:List ak):nV (l.map encS)=true:=AR (f:=encS) (fun _=>by simp[PV.one]) l
theorem Vs (l:List mD)(i:Nat)(h:i<l.length):oz (l.take i) (l.drop i)=(py (l.take i) l[i]&&oz (l.take (i+1)) (l.drop (i+1))):=by
 rw[List.drop_eq_getElem_cons h,oz,List.take_succ_eq_append_getElem h]
theorem z6p {α:Type}(p:α→Bool)(l:List α)(i:Nat)(h:i<l.length):(l.drop i).all p=(p l[i]&&(l.drop (i+1)).all p):=by
 rw[List.drop_eq_getElem_cons h];rfl
theorem PR {α:Type}(p:α→Bool)(l:List α):(!(l.any fun a=>!p a))=l.all p:=by
 rw[← List.not_all_eq_any_not];simp
structure BC (c:aj):Prop where
  hm:c.mx.length<4611686018427387904
  ht:c.t.length<4611686018427387904
  hc:c.c.length<4611686018427387904
  hg:c.g.length<4611686018427387904
  hw:∀x∈c.g,x.ws.length<4611686018427387904
section
variable [bE]
theorem xL (n a b:Int):aI prog 85 [.int .i64 n,.int .i64 a,.int .i64 b] fun r=>r=.bool (decide (a≤n)&&decide (n≤b)):=by
 refine .bJ func85 rfl rfl ?_
 refine .sr ?_
 refine .seq (.ar oT rfl ae (.rn dQ _ ?_))
 refine .split (t:=10) rfl (fun fp=>?_) (fun fp=>?_)
 ·try rw[fp]
  try simp at fp
  refine .rn [4,5,6,7,8] [] ?_
  refine .done (.ret (ax ?_))
  simp<;>omega
 try rw[fp]
 try simp at fp
 refine .rn [4,5,6,7,8] [] ?_
 refine .done (.ret (ax ?_))
 simp<;>omega
theorem B0 (n:Int):aI prog 116 [.int .i64 n] fun r=>r=.bool (fB n):=by
 refine .bJ func116 rfl rfl ?_
 refine .sr ?_
 refine .seq (.ar [0,1,2] rfl ae (.rn [0] _ ?_))
 refine .pc rfl rfl rfl rfl rfl call85 (xL n 1 9999) ?_
 refine .rn [2] [] ?_
 refine .done (.ret (ax ?_))
 exact zk
theorem wF (n:Int):aI prog 113 [.int .i64 n] fun r=>r=.bool (ns n):=by
 refine .bJ func113 rfl rfl ?_
 refine .sr ?_
 refine .seq (.ar [0,1,2] rfl ae (.rn [0] _ ?_))
 refine .pc rfl rfl rfl rfl rfl call85 (xL n 1 100) ?_
 refine .rn [2] [] ?_
 refine .done (.ret (ax ?_))
 exact zk
theorem PS {α:Type}(l:List α)(enc:α→PV)(p:α→Bool)(f:FuncId)(xs ys:List PV)(hl:l.length<4611686018427387904)(he:∀a,(enc a).cells=[enc a])(hx:PV.az xs=true)(hy:PV.az ys=true)(hF:∀a,(enc a).aD=true)(eD:∀cs w,(callFunc f cs).run prog w=.ok (.enter f cs) w)(hp:∀a∈l,aI prog f (xs++[enc a]++ys) fun r=>r=.bool (p a)):aI prog 168 [.vec (l.map enc),.func f xs ys] fun r=>r=.int .i64 (ke p 0 l):=by
 refine .bJ func168 rfl rfl ?_
 refine .sr ?_
 refine .seq (.sr ?_)
 refine .block ?_
 refine .cZ (fun s:Nat=>([(0,.vec (l.map enc)),(1,.func f xs ys),(7,.int .i64 l.length),(8,.int .i64 s)],af.empty)) (fun s=>s≤l.length∧ke p s (l.drop s)=ke p 0 l) (fun s=>l.length - s) 0 ⟨by simp,by simp⟩ (.pure (by simp[*]) (by simp)) ?_
 rintro i ⟨hi,hr⟩
 simp only at hi hr ⊢
 refine .sr ?_
 refine .seq ?_
 refine .cs ?_ ?_<;>intro c9
 ·try simp at c9
  have cR:=iQ i
  rw[PM p l i c9] at hr
  have he:=he l[i]
  have hp:=hp l[i] (List.getElem_mem c9)
  refine .skip (.seq (.block (.sr ?_)))
  refine .seq (.ar kS rfl ae (.rn fR _ ?_))
  refine .step rfl rfl (.pure rfl rfl rfl eD (by decide) (hp) (by first|rfl|simp[*]) ?_)
  rintro _ rfl
  refine .done ?_
  refine .cs ?_ ?_<;>intro mE
  ·try simp at mE
   refine .sr ?_
   refine .ret (ax ?_)
   rw[← hr,if_pos mE]
  try simp at mE
  refine .skip (.rn ?_)
  refine⟨i+1,⟨ba,?_⟩,ba,.pure (by simp[*]) (by simp)⟩
  rw[← hr,if_neg (by simp[mE])]
 try simp at c9
 have:i=l.length:=by omega
 refine .exit (.sr ?_)
 refine .ret (ax ?_)
 rw[← hr,this,List.drop_length];rfl
theorem Jd {α:Type}(l:List α)(enc:α→PV)(p:α→Bool)(f:FuncId)(xs ys:List PV)(hl:l.length<4611686018427387904)(he:∀a,(enc a).cells=[enc a])(hx:PV.az xs=true)(hy:PV.az ys=true)(hF:∀a,(enc a).aD=true)(eD:∀cs w,(callFunc f cs).run prog w=.ok (.enter f cs) w)(hp:∀a∈l,aI prog f (xs++[enc a]++ys) fun r=>r=.bool (p a)):aI prog 149 [.vec (l.map enc),.func f xs ys] fun r=>r=.bool (l.any p):=by
 refine .bJ func149 rfl rfl ?_
 refine .sr ?_
 refine .seq (.ar fR rfl ae (.rn [0,1] _ ?_))
 refine .pc rfl rfl rfl rfl rfl call168 (PS l enc p f xs ys hl he hx hy hF eD hp) ?_
 refine .rn [3,4] [] ?_
 refine .done (.ret (ax ?_))
 rw[← PN _ l 0]
theorem PT (n:Int):aI prog 150 [.int .i64 n] fun r=>r=.bool (!fB n):=by
 refine .bJ func150 rfl rfl ?_
 refine .sr ?_
 refine .seq (.ar dQ rfl ae (.rn [0] _ ?_))
 refine .pc rfl rfl rfl rfl rfl call116 (B0 n) ?_
 refine .rn [2,3] [] ?_
 refine .done (.ret (ax ?_))
 exact zk
theorem Fp (l:List Int)(hl:l.length<4611686018427387904):aI prog 105 [ints l] fun r=>r=.bool (l.all fB):=by
 refine .bJ func105 rfl rfl ?_
 refine .sr ?_
 refine .seq (.ar dQ rfl ae (.rn [0] _ ?_))
 refine .pc rfl rfl rfl rfl rfl call149 (Jd l (PV.int .i64) (fun n=>!fB n) 150 [] [] hl (fun _=>rfl) rfl rfl (fun _=>rfl) call150 (fun n _=>PT n)) ?_
 refine .rn [2,3] [] ?_
 refine .done (.ret (ax ?_))
 rw[← PR]
theorem PU {α:Type}(l:List α)(enc:α→PV)(p:α→Bool)(f:FuncId)(xs ys:List PV)(hl:l.length<4611686018427387904)(hz:∀a,(enc a).cells.length=3)(he:∀a,PV.agg (List.take 3 (enc a).cells)=enc a)(hx:PV.az xs=true)(hy:PV.az ys=true)(hF:∀a,(enc a).aD=true)(eD:∀cs w,(callFunc f cs).run prog w=.ok (.enter f cs) w)(hp:∀a∈l,aI prog f (xs++[enc a]++ys) fun r=>r=.bool (p a)):aI prog 153 [.vec (l.map enc),.func f xs ys] fun r=>r=.int .i64 (ke p 0 l):=by
 refine .bJ func153 rfl rfl ?_
 refine .sr ?_
 refine .seq (.sr ?_)
 refine .block ?_
 refine .cZ (fun s:Nat=>([(0,.vec (l.map enc)),(1,.func f xs ys),(7,.int .i64 l.length),(8,.int .i64 s)],af.empty)) (fun s=>s≤l.length∧ke p s (l.drop s)=ke p 0 l) (fun s=>l.length - s) 0 ⟨by simp,by simp⟩ (.pure (by simp[*]) (by simp)) ?_
 rintro i ⟨hi,hr⟩
 simp only at hi hr ⊢
 refine .sr ?_
 refine .seq ?_
 refine .cs ?_ ?_<;>intro c9
 ·try simp at c9
  have cR:=iQ i
  rw[PM p l i c9] at hr
  have he:=he l[i]
  have hz:=hz l[i]
  have hp:=hp l[i] (List.getElem_mem c9)
  refine .skip (.seq (.block (.sr ?_)))
  refine .seq (.ar kS rfl ae (.rn fR _ ?_))
  refine .step rfl rfl (.pure rfl rfl rfl eD (by decide) (hp) (by first|rfl|simp[*]) ?_)
  rintro _ rfl
  refine .done ?_
  refine .cs ?_ ?_<;>intro mE
  ·try simp at mE
   refine .sr ?_
   refine .ret (ax ?_)
   rw[← hr,if_pos mE]
  try simp at mE
  refine .skip (.rn ?_)
  refine⟨i+1,⟨ba,?_⟩,ba,.pure (by simp[*]) (by simp)⟩
  rw[← hr,if_neg (by simp[mE])]
 try simp at c9
 have:i=l.length:=by omega
 refine .exit (.sr ?_)
 refine .ret (ax ?_)
 rw[← hr,this,List.drop_length];rfl
theorem PW {α:Type}(l:List α)(enc:α→PV)(p:α→Bool)(f:FuncId)(xs ys:List PV)(hl:l.length<4611686018427387904)(hz:∀a,(enc a).cells.length=3)(he:∀a,PV.agg (List.take 3 (enc a).cells)=enc a)(hx:PV.az xs=true)(hy:PV.az ys=true)(hF:∀a,(enc a).aD=true)(eD:∀cs w,(callFunc f cs).run prog w=.ok (.enter f cs) w)(hp:∀a∈l,aI prog f (xs++[enc a]++ys) fun r=>r=.bool (p a)):aI prog 114 [.vec (l.map enc),.func f xs ys] fun r=>r=.bool (l.any p):=by
 refine .bJ func114 rfl rfl ?_
 refine .sr ?_
 refine .seq (.ar fR rfl ae (.rn [0,1] _ ?_))
 refine .pc rfl rfl rfl rfl rfl call153 (PU l enc p f xs ys hl hz he hx hy hF eD hp) ?_
 refine .rn [3,4] [] ?_
 refine .done (.ret (ax ?_))
 rw[← PN _ l 0]
theorem PX (y x:mD):aI prog 115 [bD y,.vp [.int .i64 x.f,.int .i64 x.t,.int .i64 x.c]] fun r=>r=.bool (decide (y.f=x.f)&&decide (y.t=x.t)):=by
 unfold bD
 refine .bJ func115 rfl rfl ?_
 refine .sr ?_
 refine .seq (.ar kf rfl ae (.rn kS _ ?_))
 refine .split (t:=9) rfl (fun c9=>?_) (fun c9=>?_)
 ·try rw[c9]
  try simp at c9
  refine .rn [6,7,8,9,10,11,12] [] ?_
  refine .done (.ret (ax ?_))
  simp_all<;>rfl
 try rw[c9]
 try simp at c9
 refine .rn [6,7,8,9,10,11,12] [] ?_
 refine .done (.ret (ax ?_))
 simp_all<;>rfl
end
def B1 (c:aj):Bool:=ns c.om&&ns c.le&&ns c.tw&&ns c.gl&&ns c.ad
theorem xm0 {c:aj}(h:B1 c=false):aN c=1:=by unfold B1 at h;unfold aN q7;rw[h];rfl
theorem xmh {c:aj}(h:B1 c=true)(hl:20<c.mx.length):aN c=2:=by unfold B1 at h;unfold aN q7;rw[h,if_pos rfl,if_pos hl];rfl
theorem xls {c:aj}(h:B1 c=true)(hl:¬20<c.mx.length)(hm:oz [] c.mx=false):aN c=1:=by unfold B1 at h;unfold aN q7;rw[h,if_pos rfl,if_neg hl,hm];rfl
theorem xj9 {c:aj}(h:B1 c=true)(hl:¬20<c.mx.length)(hm:oz [] c.mx=true):aN c=if 48<c.t.length∨48<c.c.length∨6<c.g.length then 2 else if (c.t.all fB&&c.c.all fB&&c.g.all (lB c.t.length))=true then 0 else 1:=by
 unfold B1 at h;unfold aN q7;rw[h,if_pos rfl,if_neg hl,hm];simp
variable [bE] in
theorem wG (c:aj)(h:BC c):aI prog 55 [aA c] fun r=>r=.int .i64 (aN c):=by
 obtain⟨hm,ht,fx,hg,hw⟩:=h
 have e1:=@xm0 c
 have e2:=@xmh c
 have e3:=@xls c
 have e4:=@xj9 c
 unfold B1 at e1 e2 e3 e4
 have q1:=wF c.om
 have q2:=wF c.le
 have q3:=wF c.tw
 have q4:=wF c.gl
 have q5:=wF c.ad
 generalize ns c.om=b1 at q1 e1 e2 e3 e4
 generalize ns c.le=b2 at q2 e1 e2 e3 e4
 generalize ns c.tw=b3 at q3 e1 e2 e3 e4
 generalize ns c.gl=b4 at q4 e1 e2 e3 e4
 generalize ns c.ad=b5 at q5 e1 e2 e3 e4
 unfold aA cu
 refine .bJ func55 rfl rfl ?_
 refine .sr ?_
 refine .sr ?_
 refine .seq (.seq (.ar Je rfl ae (.rn [0,1] _ ?_)))
 refine .pc rfl rfl rfl rfl rfl call113 (q1) ?_
 refine .rn [3,4] _ ?_
 refine .split (t:=15) rfl (fun dj=>?_) (fun dj=>?_)
 ·first|cases dj|(have h:=nW dj;cases h)|(have h:=nX dj;cases h)|try rw[dj]
  try simp at dj
  refine .rn [5,6,7,8,9,10,11,12,13,14,15,16,17,18,19,20,21,22,23,24,25,26,27] [] ?_
  refine .done (.dR rfl (.sr ?_))
  refine .ret (ax ?_)
  rw[e1 (by simp)]
 first|cases dj|(have h:=nW dj;cases h)|(have h:=nX dj;cases h)|try rw[dj]
 try simp at dj
 refine .rn [5,6] _ ?_
 refine .pc rfl rfl rfl rfl rfl call113 (q2) ?_
 refine .rn [8,9,10] _ ?_
 refine .split (t:=21) rfl (fun e8=>?_) (fun e8=>?_)
 ·first|cases e8|(have h:=nW e8;cases h)|(have h:=nX e8;cases h)|try rw[e8]
  try simp at e8
  refine .rn [11,12,13,14,15,16,17,18,19,20,21,22,23,24,25,26,27] [] ?_
  refine .done (.dR rfl (.sr ?_))
  refine .ret (ax ?_)
  rw[e1 (by simp)]
 first|cases e8|(have h:=nW e8;cases h)|(have h:=nX e8;cases h)|try rw[e8]
 try simp at e8
 refine .rn [11,12] _ ?_
 refine .pc rfl rfl rfl rfl rfl call113 (q3) ?_
 refine .rn [14,15,16] _ ?_
 refine .split (t:=27) rfl (fun fg=>?_) (fun fg=>?_)
 ·first|cases fg|(have h:=nW fg;cases h)|(have h:=nX fg;cases h)|try rw[fg]
  try simp at fg
  refine .rn [17,18,19,20,21,22,23,24,25,26,27] [] ?_
  refine .done (.dR rfl (.sr ?_))
  refine .ret (ax ?_)
  rw[e1 (by simp)]
 first|cases fg|(have h:=nW fg;cases h)|(have h:=nX fg;cases h)|try rw[fg]
 try simp at fg
 refine .rn [17,18] _ ?_
 refine .pc rfl rfl rfl rfl rfl call113 (q4) ?_
 refine .rn [20,21,22] _ ?_
 refine .split (t:=33) rfl (fun s9=>?_) (fun s9=>?_)
 ·first|cases s9|(have h:=nW s9;cases h)|(have h:=nX s9;cases h)|try rw[s9]
  try simp at s9
  refine .rn [23,24,25,26,27] [] ?_
  refine .done (.dR rfl (.sr ?_))
  refine .ret (ax ?_)
  rw[e1 (by simp)]
 first|cases s9|(have h:=nW s9;cases h)|(have h:=nX s9;cases h)|try rw[s9]
 try simp at s9
 refine .rn [23,24] _ ?_
 refine .pc rfl rfl rfl rfl rfl call113 (q5) ?_
 refine .rn [26,27] [] ?_
 refine .done ?_
 refine .cs ?_ ?_<;>intro nt
 ·try simp at nt
  refine .sr ?_
  refine .ret (ax ?_)
  rw[e1 (by simp[nt])]
 try simp at nt
 clear e1
 subst nt
 refine .skip (.seq (.sr ?_))
 refine .cs ?_ ?_<;>intro Vt
 ·try simp at Vt
  refine .sr ?_
  refine .ret (ax ?_)
  rw[e2 rfl (by omega)]
 try simp at Vt
 have e3:=e3 rfl (by omega)
 have e4:=e4 rfl (by omega)
 clear e2
 refine .skip (.seq (.sr ?_))
 refine .block ?_
 refine .cZ (fun k:Nat=>([(1,.ptr 0 0),(3,.ptr 1 0),(44,.vec (c.mx.map bD)),(45,.int .i64 c.mx.length),(46,.int .i64 k)],⟨2,[(1,.box [.int .i64 c.om,.int .i64 c.le,.int .i64 c.tw,.int .i64 c.gl,.int .i64 c.ad,.vec (c.mx.map bD)]),(0,.box (cQ c))]⟩)) (fun k=>k≤c.mx.length∧oz (c.mx.take k) (c.mx.drop k)=oz [] c.mx) (fun k=>c.mx.length - k) 0 ⟨by simp,by simp⟩ aX ?_
 rintro k ⟨hk,hr⟩
 simp only at hk hr ⊢
 refine .sr ?_
 refine .seq ?_
 refine .cs ?_ ?_<;>intro Hq
 ·try simp at Hq
  have cR:=iQ k
  rw[Vs _ _ Hq] at hr
  have hE:=Vq c.mx[k]
  obtain⟨x,hx⟩:∃x,c.mx[k]=x:=⟨_,rfl⟩
  rw[hx] at hr hE
  have hS:List.take k (c.mx.map bD)=(c.mx.take k).map bD:=List.map_take.symm
  have DK:(c.mx.take k).length=k:=by rw[List.length_take];omega
  have ky:py (c.mx.take k) x=true→oz (c.mx.take (k+1)) (c.mx.drop (k+1))=oz [] c.mx:=fun h=>by rw[← hr,h];rfl
  have oQ:py (c.mx.take k) x=false→oz [] c.mx=false:=fun h=>by rw[← hr,h];rfl
  clear hr
  obtain⟨S,Hr⟩:∃S,c.mx.take k=S:=⟨_,rfl⟩
  rw[Hr] at hS DK oQ ky
  clear Hr
  have Jf:=PW S bD (fun y=>decide (y.f=x.f)&&decide (y.t=x.t)) 115 [] [.vp [.int .i64 x.f,.int .i64 x.t,.int .i64 x.c]] (by omega) (fun _=>rfl) (fun _=>rfl) rfl rfl (fun _=>by simp) call115 (fun y _=>PX y x)
  have lR:py S x=(fB x.f&&fB x.t&&!decide (x.f=x.t)&&ns x.c&&!(S.any fun y=>decide (y.f=x.f)&&decide (y.t=x.t))):=rfl
  have w1:=B0 x.f
  have w2:=B0 x.t
  have w3:=wF x.c
  generalize (S.any fun y=>decide (y.f=x.f)&&decide (y.t=x.t))=av at Jf lR
  generalize fB x.f=v1 at w1 lR
  generalize fB x.t=v2 at w2 lR
  generalize ns x.c=v3 at w3 lR
  have iK:py S x=false→aN c=1:=fun h=>e3 (oQ h)
  refine .skip (.seq (.block (.sr ?_)))
  refine .seq (.ar gT rfl ae (.rn fR _ ?_))
  refine .step rfl rfl (.borrow rfl rfl rfl call114 (by decide) (by first|(simp<;>rfl)|(simp[*]<;>rfl)|(simp[*];done)) (Jf) (by rintro _ rfl<;>first|(simp;done)|rfl) ?_)
  rintro _ rfl
  refine .rn [6] [] ?_
  refine .done (.seq (.ar [0,1,2,3,4,5,6,7,8,9,10,11,12,13,14,15,16,17,18,19,20,21,22,23,24,25] rfl ae ?_))
  refine .rn [0,1] _ ?_
  refine .pc rfl rfl rfl rfl rfl call116 (w1) ?_
  refine .rn [3,4] _ ?_
  refine .split (t:=61) rfl (fun pz=>?_) (fun pz=>?_)
  ·first|cases pz|(have h:=nW pz;cases h)|(have h:=nX pz;cases h)|try rw[pz]
   try simp at pz
   refine .rn [5,6,7,8,9,10,11,12,13,14,15,16,17,18,19,20,21,22,23,24,25] [] ?_
   refine .done (.dR rfl (.sr ?_))
   refine .ret (ax ?_)
   rw[iK (by rw[lR];simp)]
  first|cases pz|(have h:=nW pz;cases h)|(have h:=nX pz;cases h)|try rw[pz]
  try simp at pz
  refine .rn [5,6] _ ?_
  refine .pc rfl rfl rfl rfl rfl call116 (w2) ?_
  refine .rn [8,9,10] _ ?_
  refine .split (t:=67) rfl (fun yU=>?_) (fun yU=>?_)
  ·first|cases yU|(have h:=nW yU;cases h)|(have h:=nX yU;cases h)|try rw[yU]
   try simp at yU
   refine .rn [11,12,13,14,15,16,17,18,19,20,21,22,23,24,25] [] ?_
   refine .done (.dR rfl (.sr ?_))
   refine .ret (ax ?_)
   rw[iK (by rw[lR];simp)]
  first|cases yU|(have h:=nW yU;cases h)|(have h:=nX yU;cases h)|try rw[yU]
  try simp at yU
  refine .rn [11,12,13,14,15,16,17] _ ?_
  refine .split (t:=74) rfl (fun mF=>?_) (fun mF=>?_)
  ·first|cases mF|(have h:=nW mF;cases h)|(have h:=nX mF;cases h)|try rw[mF]
   try simp at mF
   refine .rn [18,19,20,21,22,23,24,25] [] ?_
   refine .done (.dR rfl (.sr ?_))
   refine .ret (ax ?_)
   rw[iK (by rw[lR];simp[mF])]
  first|cases mF|(have h:=nW mF;cases h)|(have h:=nX mF;cases h)|try rw[mF]
  try simp at mF
  refine .rn [18,19] _ ?_
  refine .pc rfl rfl rfl rfl rfl call113 (w3) ?_
  refine .rn [21,22,23] _ ?_
  refine .split (t:=80) rfl (fun qy=>?_) (fun qy=>?_)
  ·first|cases qy|(have h:=nW qy;cases h)|(have h:=nX qy;cases h)|try rw[qy]
   try simp at qy
   refine .rn [24,25] [] ?_
   refine .done (.dR rfl (.sr ?_))
   refine .ret (ax ?_)
   rw[iK (by rw[lR];simp)]
  first|cases qy|(have h:=nW qy;cases h)|(have h:=nX qy;cases h)|try rw[qy]
  try simp at qy
  refine .rn [24,25] [] ?_
  refine .done ?_
  refine .cs ?_ ?_<;>intro xM
  ·try simp at xM
   refine .sr ?_
   refine .ret (ax ?_)
   rw[iK (by rw[lR];simp[xM])]
  try simp at xM
  refine .skip (.rn ?_)
  refine⟨k+1,⟨ba,?_⟩,ba,aX⟩
  exact ky (by rw[lR];simp[mF,xM])
 try simp at Hq
 have ee:k=c.mx.length:=by omega
 subst ee
 rw[List.take_length,List.drop_length] at hr
 have e4:=e4 hr.symm
 clear e3 hr
 refine .exit (.seq (.seq (.ar B2 rfl ae (.rn fR _ ?_))))
 refine .split (t:=88) rfl (fun vI=>?_) (fun vI=>?_)
 ·first|cases vI|(have h:=nW vI;cases h)|(have h:=nX vI;cases h)|try rw[vI]
  try simp at vI
  refine .rn [5,6,7,8,9,10,11,12,13,14,15] [] ?_
  refine .done (.dR rfl (.sr ?_))
  refine .ret (ax ?_)
  rw[e4,if_pos (by omega)]
 first|cases vI|(have h:=nW vI;cases h)|(have h:=nX vI;cases h)|try rw[vI]
 try simp at vI
 refine .rn [5,6,7,8,9,10] _ ?_
 refine .split (t:=94) rfl (fun ta=>?_) (fun ta=>?_)
 ·first|cases ta|(have h:=nW ta;cases h)|(have h:=nX ta;cases h)|try rw[ta]
  try simp at ta
  refine .rn [11,12,13,14,15] [] ?_
  refine .done (.dR rfl (.sr ?_))
  refine .ret (ax ?_)
  rw[e4,if_pos (by omega)]
 first|cases ta|(have h:=nW ta;cases h)|(have h:=nX ta;cases h)|try rw[ta]
 try simp at ta
 refine .rn [11,12,13,14,15] [] ?_
 refine .done ?_
 refine .cs ?_ ?_<;>intro AS
 ·try simp at AS
  refine .sr ?_
  refine .ret (ax ?_)
  rw[e4,if_pos (by omega)]
 try simp at AS
 rw[if_neg (by omega)] at e4
 have w1:=Fp c.t ht
 have w2:=Fp c.c fx
 generalize c.t.all fB=v1 at w1 e4
 generalize c.c.all fB=v2 at w2 e4
 refine .skip (.seq (.seq (.ar gh rfl ae (.rn [0,1] _ ?_))))
 refine .pc rfl rfl rfl rfl rfl call105 (w1) ?_
 refine .rn [3,4] _ ?_
 refine .split (t:=104) rfl (fun pA=>?_) (fun pA=>?_)
 ·first|cases pA|(have h:=nW pA;cases h)|(have h:=nX pA;cases h)|try rw[pA]
  try simp at pA
  refine .rn [5,6,7,8,9] [] ?_
  refine .done (.dR rfl (.sr ?_))
  refine .ret (ax ?_)
  rw[e4];simp
 first|cases pA|(have h:=nW pA;cases h)|(have h:=nX pA;cases h)|try rw[pA]
 try simp at pA
 refine .rn [5,6] _ ?_
 refine .pc rfl rfl rfl rfl rfl call105 (w2) ?_
 refine .rn [8,9] [] ?_
 refine .done ?_
 refine .cs ?_ ?_<;>intro tc
 ·try simp at tc
  refine .sr ?_
  refine .ret (ax ?_)
  rw[e4];simp[tc]
 try simp at tc
 subst tc
 refine .skip (.seq (.sr ?_))
 refine .block ?_
 refine .cZ (fun k:Nat=>([(1,.ptr 0 0),(111,.vec (c.g.map cy)),(112,.int .i64 c.g.length),(113,.int .i64 k)],⟨1,[(0,.box (cQ c))]⟩)) (fun k=>k≤c.g.length∧(c.g.drop k).all (lB c.t.length)=c.g.all (lB c.t.length)) (fun k=>c.g.length - k) 0 ⟨by simp,by simp⟩ aX ?_
 rintro k ⟨hk,hr⟩
 simp only at hk hr ⊢
 refine .sr ?_
 refine .seq ?_
 refine .cs ?_ ?_<;>intro fq
 ·try simp at fq
  have cR:=iQ k
  rw[z6p _ _ _ fq] at hr
  have hE:=Vr c.g[k]
  have Jg:=hw c.g[k] (List.getElem_mem fq)
  obtain⟨x,hx⟩:∃x,c.g[k]=x:=⟨_,rfl⟩
  rw[hx] at hr hE Jg
  have DL:lB c.t.length x=((decide (0≤x.at_)&&decide (x.at_≤(c.t.length:Int)))&&(decide (1≤x.ws.length)&&decide (x.ws.length≤6))&&x.ws.all fB):=rfl
  have z1:=xL x.at_ 0 (c.t.length:Int)
  have z2:=xL (x.ws.length:Int) 1 6
  have z3:=Fp x.ws Jg
  have e12:(decide (1≤x.ws.length)&&decide (x.ws.length≤6))=(decide (1≤(x.ws.length:Int))&&decide ((x.ws.length:Int)≤6)):=by rw[Bool.eq_iff_iff];simp;omega
  rw[e12] at DL
  generalize (decide (0≤x.at_)&&decide (x.at_≤(c.t.length:Int)))=a1 at z1 DL
  generalize (decide (1≤(x.ws.length:Int))&&decide ((x.ws.length:Int)≤6))=a2 at z2 DL
  generalize x.ws.all fB=a3 at z3 DL
  have iK:lB c.t.length x=false→aN c=1:=fun h=>by rw[e4,← hr,h];simp
  refine .skip (.seq (.block (.sr ?_)))
  refine .seq (.ar Jh rfl ae (.rn fR _ ?_))
  refine .pc rfl rfl rfl rfl rfl call85 (z1) ?_
  refine .rn [6,7] _ ?_
  refine .split (t:=124) rfl (fun kg=>?_) (fun kg=>?_)
  ·first|cases kg|(have h:=nW kg;cases h)|(have h:=nX kg;cases h)|try rw[kg]
   try simp at kg
   refine .rn [8,9,10,11,12,13,14,15,16,17,18,19] [] ?_
   refine .done (.dR rfl (.sr ?_))
   refine .ret (ax ?_)
   rw[iK (by rw[DL];simp)]
  first|cases kg|(have h:=nW kg;cases h)|(have h:=nX kg;cases h)|try rw[kg]
  try simp at kg
  refine .rn [8,9,10] _ ?_
  refine .pc rfl rfl rfl rfl rfl call85 (z2) ?_
  refine .rn [12,13,14] _ ?_
  refine .split (t:=131) rfl (fun pB=>?_) (fun pB=>?_)
  ·first|cases pB|(have h:=nW pB;cases h)|(have h:=nX pB;cases h)|try rw[pB]
   try simp at pB
   refine .rn [15,16,17,18,19] [] ?_
   refine .done (.dR rfl (.sr ?_))
   refine .ret (ax ?_)
   rw[iK (by rw[DL];simp)]
  first|cases pB|(have h:=nW pB;cases h)|(have h:=nX pB;cases h)|try rw[pB]
  try simp at pB
  refine .rn [15,16] _ ?_
  refine .pc rfl rfl rfl rfl rfl call105 (z3) ?_
  refine .rn [18,19] [] ?_
  refine .done ?_
  refine .cs ?_ ?_<;>intro B3
  ·try simp at B3
   refine .sr ?_
   refine .ret (ax ?_)
   rw[iK (by rw[DL];simp[B3])]
  try simp at B3
  refine .skip (.rn ?_)
  refine⟨k+1,⟨ba,?_⟩,ba,aX⟩
  rw[← hr,DL];simp[B3]
 try simp at fq
 have ee:k=c.g.length:=by omega
 subst ee
 rw[List.drop_length] at hr
 rw[← hr] at e4
 refine .exit (.sr ?_)
 refine .ret (ax ?_)
 rw[e4];simp
def jT (i j:Int):PV:=.agg [.int .i64 i,.int .i64 j]
def eW (w:List Int):PV:=if w=[] then .aJ else ints w
theorem B4:eW []=.aJ:=rfl
theorem Vu (a:Int)(r:List Int):eW (a::r)=ints (a::r):=rfl
theorem Ji {w:List Int}(h:w≠[]):eW w=ints w:=if_neg h
@[simp] theorem mG (w:List Int):(eW w).cells=[eW w]:=by unfold eW;split<;>rfl
@[simp] theorem ma (w:List Int):(eW w).aD=true:=by unfold eW;split<;>simp[PV.aD]
@[simp] theorem PY (vh:af)(w:List Int):bI vh (eW w)=some (eW w):=PZ vh (ma w)
def Jj (c:aj)(s:ak):PV:=match aM c s with
 |some (n,i',w)=>.bz [.int .i64 n,eW w,jT i' (IntKind.i64.wrap (s.i+w.length)),.bool true]
 |none=>.bz [.int .i64 0,.aJ,jT 0 0,.bool false]
def JP (c:aj)(s:ak)(n i:Int)(b:Bool)(w:List Int)(l' w':Int):Prop:=
 (b=true→l'=s.l→w'=s.w→∃i':Nat,i=i'∧aM c s=some (n,i',w))∧((b=false∨l'≠s.l∨w'≠s.w)→aM c s=none)
theorem Vv {c:aj}{s:ak}(h:¬(0≤s.a∧s.a≤(c.t.length:Int)∧0≤s.i)):aM c s=none:=if_neg h
def rJ (c:aj)(s:ak)(k:Nat):Option Int:=if s.a.toNat<c.t.length then rK (c.mx.take k) (c.t.getD s.a.toNat 0) s.w else none
def oW:Option Int→Int→List Int
 |none,_=>[]
 |some _,w=>[w]
theorem J1 {c:aj}{s:ak}(hk:aN c=0)(h:0≤s.a∧s.a≤(c.t.length:Int)∧0≤s.i)(h1:s.k=1):JP c s ((rJ c s c.mx.length).getD 0) (if (rJ c s c.mx.length).isSome then s.a+1 else s.a) (rJ c s c.mx.length).isSome (oW (rJ c s c.mx.length) s.w) 0 s.w:=by
 have e:rJ c s c.mx.length=if s.a.toNat<c.t.length then fK c.mx (c.t.getD s.a.toNat 0) s.w else none:=by unfold rJ;rw[List.take_length,xcl hk]
 have hd:aM c s=if s.a.toNat<c.t.length∧s.l=0 then (fK c.mx (c.t.getD s.a.toNat 0) s.w).map fun n=>(n,s.a.toNat+1,[s.w]) else none:=by
  unfold aM;rw[if_pos h];simp only[h1,if_true]
 rw[e]
 by_cases ha:s.a.toNat<c.t.length
 ·rw[if_pos ha]
  cases hm:fK c.mx (c.t.getD s.a.toNat 0) s.w with
  |none=>exact⟨fun h=>(by cases h),fun _=>by rw[hd,hm];simp⟩
  |some n=>
   refine⟨fun _ hl _=>⟨s.a.toNat+1,by simp;omega,by rw[hd,if_pos ⟨ha,hl.symm⟩,hm];rfl⟩,?_⟩
   rintro (h|h|h)
   ·cases h
   ·rw[hd,if_neg (fun hh=>h hh.2.symm)]
   exact absurd rfl h
 rw[if_neg ha]
 exact⟨fun h=>(by cases h),fun _=>by rw[hd,if_neg fun hh=>ha hh.1]⟩
theorem J2 {c:aj}{s:ak}(h:0≤s.a∧s.a≤(c.t.length:Int)∧0≤s.i)(h1:s.k=2):JP c s c.om (s.a+1) (decide (s.a<(c.t.length:Int))) [] 0 0:=by
 have hd:aM c s=if s.a.toNat<c.t.length∧s.l=0∧s.w=0 then some (c.om,s.a.toNat+1,[]) else none:=by
  unfold aM;rw[if_pos h];simp[h1]
 refine⟨fun hb hl hw=>⟨s.a.toNat+1,by omega,by rw[hd,if_pos ⟨by simp at hb;omega,hl.symm,hw.symm⟩]⟩,fun hh=>by rw[hd,if_neg];rintro⟨a1,a2,a3⟩;rcases hh with hh|hh|hh<;>simp_all<;>omega⟩
theorem J3 {c:aj}{s:ak}{b:Bool}{i:Int}(h:0≤s.a∧s.a≤(c.t.length:Int)∧0≤s.i)(h1:s.k=3)(hi:b=true→i=s.a+s.l)(hb:b=true↔1≤s.a∧1≤s.l∧s.l≤(c.t.length:Int) - s.a∧c.t.getD (s.a.toNat+s.l.toNat - 1) 0=c.t.getD (s.a.toNat - 1) 0):JP c s c.le i b [] s.l 0:=by
 have hd:aM c s=if 1≤s.a.toNat∧1≤s.l∧s.l≤(c.t.length:Int) - s.a∧s.w=0∧c.t.getD (s.a.toNat+s.l.toNat - 1) 0=c.t.getD (s.a.toNat - 1) 0 then some (c.le,s.a.toNat+s.l.toNat,[]) else none:=by
  unfold aM;rw[if_pos h];simp[h1]
 refine⟨fun AT _ hw=>?_,fun hh=>?_⟩
 ·obtain⟨a1,a2,a3,a4⟩:=hb.1 AT
  exact⟨s.a.toNat+s.l.toNat,by rw[hi AT];omega,by rw[hd,if_pos ⟨by omega,a2,a3,hw.symm,a4⟩]⟩
 rw[hd,if_neg]
 rintro⟨a1,a2,a3,a4,a5⟩
 have:=hb.2 ⟨by omega,a2,a3,a5⟩
 rcases hh with hh|hh|hh
 ·rw[this] at hh;cases hh
 ·exact hh rfl
 exact hh a4.symm
theorem J4 {c:aj}{s:ak}{b:Bool}{w:List Int}(h:0≤s.a∧s.a≤(c.t.length:Int)∧0≤s.i)(h1:s.k=4)(hb:b=true↔1≤s.l∧s.l≤s.a)(hw:b=true→w=(c.t.drop (s.a.toNat - s.l.toNat)).take s.l.toNat):JP c s c.tw s.a b w s.l 0:=by
 have hd:aM c s=if 1≤s.l∧s.l≤s.a∧s.w=0 then some (c.tw,s.a.toNat,(c.t.drop (s.a.toNat - s.l.toNat)).take s.l.toNat) else none:=by
  unfold aM;rw[if_pos h];simp[h1]
 refine⟨fun AT _ vE=>?_,fun hh=>?_⟩
 ·obtain⟨a1,a2⟩:=hb.1 AT
  exact⟨s.a.toNat,by omega,by rw[hd,if_pos ⟨a1,a2,vE.symm⟩,hw AT]⟩
 rw[hd,if_neg]
 rintro⟨a1,a2,a3⟩
 have:=hb.2 ⟨a1,a2⟩
 rcases hh with hh|hh|hh
 ·rw[this] at hh;cases hh
 ·exact hh rfl
 exact hh a3.symm
theorem J5 {c:aj}{s:ak}{b:Bool}{w:List Int}(h:0≤s.a∧s.a≤(c.t.length:Int)∧0≤s.i)(h1:s.k=5)(hb:b=true↔0≤s.l∧s.l≤(c.g.length:Int) - 1∧(c.g.getD s.l.toNat ⟨0,[]⟩).at_=s.a)(hw:b=true→w=(c.g.getD s.l.toNat ⟨0,[]⟩).ws):JP c s c.gl s.a b w s.l 0:=by
 have hd:aM c s=if 0≤s.l∧s.l≤(c.g.length:Int) - 1∧s.w=0∧(c.g.getD s.l.toNat ⟨0,[]⟩).at_=s.a then some (c.gl,s.a.toNat,(c.g.getD s.l.toNat ⟨0,[]⟩).ws) else none:=by
  unfold aM;rw[if_pos h];simp[h1]
 refine⟨fun AT _ vE=>?_,fun hh=>?_⟩
 ·obtain⟨a1,a2,a3⟩:=hb.1 AT
  exact⟨s.a.toNat,by omega,by rw[hd,if_pos ⟨a1,a2,vE.symm,a3⟩,hw AT]⟩
 rw[hd,if_neg]
 rintro⟨a1,a2,a3,a4⟩
 have:=hb.2 ⟨a1,a2,a4⟩
 rcases hh with hh|hh|hh
 ·rw[this] at hh;cases hh
 ·exact hh rfl
 exact hh a3.symm
theorem J6 {c:aj}{s:ak}(h:0≤s.a∧s.a≤(c.t.length:Int)∧0≤s.i)(h1:s.k=6):JP c s c.ad s.a (fB s.w) [s.w] 0 s.w:=by
 have hd:aM c s=if fB s.w=true∧s.l=0 then some (c.ad,s.a.toNat,[s.w]) else none:=by
  unfold aM;rw[if_pos h];simp[h1]
 refine⟨fun AT hl _=>⟨s.a.toNat,by omega,by rw[hd,if_pos ⟨AT,hl.symm⟩]⟩,fun hh=>?_⟩
 rw[hd,if_neg]
 rintro⟨a1,a2⟩
 rcases hh with hh|hh|hh
 ·rw[a1] at hh;cases hh
 ·exact hh a2.symm
 exact hh rfl
theorem J0 {c:aj}{s:ak}{i:Int}(h1:s.k≠1)(h2:s.k≠2)(h3:s.k≠3)(h4:s.k≠4)(h5:s.k≠5)(h6:s.k≠6):JP c s 0 i false [] 0 0:=by
 refine⟨fun h=>(by cases h),fun _=>?_⟩
 unfold aM
 split
 ·simp[h1,h2,h3,h4,h5,h6]
 rfl
attribute [local simp] cQ bQ cw jU
attribute [local simp ↓ high] mG ma
theorem z5z {c:aj}{s:ak}{k:Nat}(h:k<c.mx.length):rJ c s (k+1)=if s.a.toNat<c.t.length∧c.mx[k].f=c.t.getD s.a.toNat 0∧c.mx[k].t=s.w then some c.mx[k].c else rJ c s k:=by
 unfold rJ
 by_cases ha:s.a.toNat<c.t.length
 ·rw[if_pos ha,if_pos ha,z2l h]
  simp only[ha,true_and]
 rw[if_neg ha,if_neg ha,if_neg fun hh=>ha hh.1]
theorem z1p {c:aj}{s:ak}{k:Nat}(hk:aN c=0)(h:k<c.mx.length)(h1:c.mx[k].f=c.t.getD s.a.toNat 0)(h2:c.mx[k].t=s.w):rJ c s k=none:=by
 have hp:=Vw hk
 unfold rJ
 split
 ·unfold rK
  rw[P0 none (hp.sublist (List.take_sublist k _)),Vx]
  ·rfl
  intro x hx hh
  obtain⟨j,hj,rfl⟩:=List.mem_iff_getElem.1 hx
  rw[List.length_take] at hj
  rw[List.getElem_take] at hh
  exact(List.pairwise_iff_getElem.1 hp) j k (by omega) h (by omega) ⟨hh.1.trans h1.symm,hh.2.trans h2.symm⟩
 rfl
theorem B5 {c:aj}{s:ak}(h:aM c s=none):Jj c s=.bz [.int .i64 0,.aJ,jT 0 0,.bool false]:=by unfold Jj;rw[h]
theorem AU {c:aj}{s:ak}{n:Int}{i':Nat}{w:List Int}(h:aM c s=some (n,i',w)):Jj c s=.bz [.int .i64 n,eW w,jT i' (IntKind.i64.wrap (s.i+w.length)),.bool true]:=by unfold Jj;rw[h]
section
variable [bE]
theorem Hs (c:aj)(s:ak)(hk:aN c=0):aI prog 95 [aA c,encS s] fun r=>r=Jj c s:=by
 have aP:=fC hk
 have nY:=aP.tl
 have P1:=aP.MP
 have tX:=aP.yV
 have lC:=xL s.a 0 (c.t.length:Int)
 have Fq:=@Vv c s
 obtain⟨iv,MQ⟩:∃b,(decide (0≤s.a)&&decide (s.a≤(c.t.length:Int)))=b:=⟨_,rfl⟩
 rw[MQ] at lC
 obtain⟨an,Jk⟩:∃an:Nat,s.a.toNat=an:=⟨_,rfl⟩
 obtain⟨ln,Jl⟩:∃ln:Nat,s.l.toNat=ln:=⟨_,rfl⟩
 obtain⟨kn,qe⟩:∃kn:Nat,an+ln - 1=kn:=⟨_,rfl⟩
 obtain⟨am,Vy⟩:∃am:Nat,an - 1=am:=⟨_,rfl⟩
 obtain⟨dn,Fb⟩:∃dn:Nat,an - ln=dn:=⟨_,rfl⟩
 obtain⟨v1,iF⟩:∃v,c.t.getD kn 0=v:=⟨_,rfl⟩
 obtain⟨v2,eZ⟩:∃v,c.t.getD am 0=v:=⟨_,rfl⟩
 obtain⟨W,hW⟩:∃W,(c.t.drop dn).take ln=W:=⟨_,rfl⟩
 obtain⟨tv,rL⟩:∃v,c.t.getD an 0=v:=⟨_,rfl⟩
 obtain⟨gv,tY⟩:∃v,c.g.getD ln ⟨0,[]⟩=v:=⟨_,rfl⟩
 obtain⟨e30,yW⟩:∃b,decide (1≤(an:Int))=b:=⟨_,rfl⟩
 obtain⟨e31,wH⟩:∃b,(decide (1≤s.l)&&decide (s.l≤(c.t.length:Int) - (an:Int)))=b:=⟨_,rfl⟩
 obtain⟨e41,wI⟩:∃b,(decide (1≤s.l)&&decide (s.l≤(an:Int)))=b:=⟨_,rfl⟩
 obtain⟨e51,wJ⟩:∃b,(decide (0≤s.l)&&decide (s.l≤(c.g.length:Int) - 1))=b:=⟨_,rfl⟩
 obtain⟨Vz,Fs⟩:∃b,fB s.w=b:=⟨_,rfl⟩
 unfold aA cu encS
 refine .bJ func95 rfl rfl ?_
 refine .sr ?_
 refine .seq (.seq (.ar qz rfl ae (.rn fR _ ?_)))
 refine .pc rfl rfl rfl rfl rfl call85 (lC) ?_
 refine .rn [6,7] _ ?_
 refine .split (t:=22) rfl (fun fL=>?_) (fun fL=>?_)
 ·try subst fL
  try simp at fL
  refine .rn [8,9,10,11] [] ?_
  refine .done (.dR rfl (.sr ?_))
  refine .ret (ax ?_)
  rw[B5 (Fq (by subst fL;simp at MQ;omega))];rfl
 try subst fL
 try simp at fL
 refine .rn [8,9,10,11] [] ?_
 refine .done ?_
 refine .cs ?_ ?_<;>intro jb
 ·try simp at jb
  refine .sr ?_
  refine .ret (ax ?_)
  rw[B5 (Fq (by omega))];rfl
 try simp at jb
 have dC:0≤s.a∧s.a≤(c.t.length:Int)∧0≤s.i:=by subst fL;simp at MQ;omega
 clear MQ
 clear Fq
 have xN:s.a=(an:Int):=by omega
 refine .skip (.sr ?_)
 refine .seq ?_
 refine .drawn (ms:=[0,1,0,7,15]) (W:=[]) (items:=[.op 0,.op 1,.op 2,.op 3,.op 4]) rfl ae ae ae ?_
 iterate 5 refine .rx ?_
 refine .done (.sr ?_)
 refine .join (fun z:Int×Int×Bool×List Int×Int×Int=>([(3,.ptr 1 0),(6,.ptr 2 0),(8,.ptr 3 0),(9,.int .i64 z.1),(10,.int .i64 z.2.1),(11,.bool z.2.2.1),(12,eW z.2.2.2.1)],⟨4,[(3,.box [.int .i64 s.k,.int .i64 s.a,.int .i64 s.i,.int .i64 z.2.2.2.2.1,.int .i64 z.2.2.2.2.2]),(2,.box [.int .i64 0,.int .i64 0]),(1,.box [.int .i64 s.k,.int .i64 s.a,.int .i64 s.i,.int .i64 s.l,.int .i64 s.w])]⟩)) (fun z=>JP c s z.1 z.2.1 z.2.2.1 z.2.2.2.1 z.2.2.2.2.1 z.2.2.2.2.2) ?_ ?_
 ·skip
  refine .sr ?_
  refine .block (.sr ?_)
  refine .cs ?_ ?_<;>intro B6
  ·try simp at B6
   have Jm:=iQ an
   have h1:s.k=1:=by simpa using B6
   have cT:=J1 hk dC h1
   have p8:(rJ c s 0)=none:=by unfold rJ;split<;>rfl
   refine .sr ?_
   refine .sr ?_
   refine .block ?_
   refine .cZ (fun k:Nat=>([(2,.ptr 0 0),(3,.ptr 1 0),(6,.ptr 2 0),(8,.ptr 3 0),(9,.int .i64 ((rJ c s k).getD 0)),(10,.int .i64 (if (rJ c s k).isSome then s.a+1 else s.a)),(11,.bool (rJ c s k).isSome),(12,eW (oW (rJ c s k) s.w)),(46,.vec (c.mx.map bD)),(47,.int .i64 c.mx.length),(48,.int .i64 k)],⟨4,[(3,.box [.int .i64 s.k,.int .i64 s.a,.int .i64 s.i,.int .i64 0,.int .i64 s.w]),(2,.box [.int .i64 0,.int .i64 0]),(1,.box [.int .i64 s.k,.int .i64 s.a,.int .i64 s.i,.int .i64 s.l,.int .i64 s.w]),(0,.box (cQ c))]⟩)) (fun k=>k≤c.mx.length) (fun k=>c.mx.length - k) 0 (by simp) (by rw[p8];exact aX) ?_
   rintro k ee
   simp only at ee ⊢
   refine .sr ?_
   refine .seq ?_
   refine .cs ?_ ?_<;>intro rM
   ·try simp at rM
    have cR:=iQ k
    have jK:=z5z (s:=s) rM
    have rE:=z1p (s:=s) hk rM
    have hE:=Vq c.mx[k]
    obtain⟨x,hx⟩:∃x,c.mx[k]=x:=⟨_,rfl⟩
    rw[hx,Jk] at jK rE
    rw[hx] at hE
    obtain⟨o,ho⟩:∃o,rJ c s k=o:=⟨_,rfl⟩
    rw[ho] at jK rE ⊢
    rw[rL] at jK rE
    rw[xN]
    obtain⟨e0,bR⟩:∃b,decide (an<c.t.length)=b:=⟨_,rfl⟩
    obtain⟨e1,jV⟩:∃b,(tv==x.f)=b:=⟨_,rfl⟩
    obtain⟨e2,AV⟩:∃b,(x.t==s.w)=b:=⟨_,rfl⟩
    refine .skip (.seq (.block (.sr ?_)))
    refine .seq ?_
    refine .drawn (ms:=[0,1,0,4,12,31,63,127,255,127,639,2047,4095,127,8319,32767,65535,131071,262143,524287,262143,1310719,4194303,8388607]) (W:=[]) (items:=VA) rfl ae ae ae ?_
    iterate 7 refine .rx ?_
    refine .split (t:=58) rfl (fun vJ=>?_) (fun vJ=>?_)
    ·try subst vJ
     try simp at vJ
     have pg:an<c.t.length:=by simpa using bR
     have hg:c.t[an]=tv:=by rw[← rL,List.getD_eq_getElem?_getD,List.getElem?_eq_getElem pg];rfl
     iterate 11 refine .rx ?_
     refine .split (t:=69) rfl (fun wK=>?_) (fun wK=>?_)
     ·try subst wK
      try simp at wK
      iterate 6 refine .rx ?_
      refine .done ?_
      refine .cs ?_ ?_<;>intro AX
      ·try simp at AX
       have MR:x.t=s.w:=by simpa[AX] using AV
       have MS:x.f=tv:=(show tv=x.f by simpa using jV).symm
       obtain rfl:=rE MS MR
       rw[if_pos ⟨pg,MS,MR⟩] at jK
       refine .drawn (ms:=[0,1,0,4,0,16,48,3,143,511,1023]) (W:=[6]) (items:=[.op 0,.op 1,.op 2,.op 3,.op 4,.op 5,.op 7,.op 8,.op 6,.ck 1,.op 9,.op 10]) rfl ae ae ae ?_
       iterate 8 refine .rx ?_
       refine .wv ?_
       refine .ck rfl eQ ?_
       iterate 2 refine .rx ?_
       refine .done (.rn ?_)
       refine⟨k+1,rM,ba,?_⟩
       rw[jK]
       simp only[oW,Vu,Option.getD_some,Option.isSome_some,if_true]
       exact(.mk [5] [] gH gY rfl rfl rfl)
      try simp at AX
      have MR:¬x.t=s.w:=by simpa[AX] using AV
      rw[if_neg fun hh=>MR hh.2.2] at jK
      refine .skip (.rn ?_)
      refine⟨k+1,rM,ba,by rw[jK];exact aX⟩
     try subst wK
     try simp at wK
     have MS:¬tv=x.f:=by simpa using jV
     rw[if_neg fun hh=>MS hh.2.1.symm] at jK
     iterate 5 refine .ux ?_
     refine .rx ?_
     refine .done (.gI rfl (.skip (.rn ?_)))
     refine⟨k+1,rM,ba,by rw[jK];exact aX⟩
    try subst vJ
    try simp at vJ
    have pg:¬an<c.t.length:=by simpa using bR
    rw[if_neg fun hh=>pg hh.1] at jK
    iterate 9 refine .ux ?_
    iterate 2 refine .rx ?_
    iterate 5 refine .ux ?_
    refine .rx ?_
    refine .done (.gI rfl (.skip (.rn ?_)))
    refine⟨k+1,rM,ba,by rw[jK];exact aX⟩
   try simp at rM
   obtain rfl:k=c.mx.length:=by omega
   obtain⟨o,ho⟩:∃o,rJ c s c.mx.length=o:=⟨_,rfl⟩
   rw[ho] at cT ⊢
   refine .exit ?_
   refine⟨(o.getD 0,(if o.isSome then s.a+1 else s.a),o.isSome,oW o s.w,0,s.w),cT,?_⟩
   simp only
   exact aX
  try simp at B6
  refine .sr ?_
  refine .cs ?_ ?_<;>intro AY
  ·try simp at AY
   have Jm:=iQ an
   have h2:s.k=2:=by simpa using AY
   rw[xN]
   have cT:=J2 dC h2
   rw[xN] at cT
   refine .drawn (ms:=[0,1,3,0,8,0,32,0,128,384,992,7,2079,8191]) (W:=[]) (items:=xO) rfl ae ae ae ?_
   iterate 14 refine .rx ?_
   refine .done ?_
   refine⟨(c.om,(an:Int)+1,decide ((an:Int)<(c.t.length:Int)),[],0,0),cT,?_⟩
   simp only[B4]
   exact aX
  try simp at AY
  refine .sr ?_
  refine .cs ?_ ?_<;>intro pC
  ·try simp at pC
   have h3:s.k=3:=by simpa using pC
   have hJ:∀(b:Bool) (i:Int),(b=true→i=s.a+s.l)→(b=true↔1≤s.a∧1≤s.l∧s.l≤(c.t.length:Int) - s.a∧c.t.getD (s.a.toNat+s.l.toNat - 1) 0=c.t.getD (s.a.toNat - 1) 0)→JP c s c.le i b [] s.l 0:=fun b i g g'=>J3 dC h3 g g'
   rw[xN] at hJ
   rw[xN]
   have lC:=xL s.l 1 ((c.t.length:Int) - (an:Int))
   rw[wH] at lC
   have Ft:IntKind.i64.wrap ((c.t.length:Int) - (an:Int))=(c.t.length:Int) - (an:Int):=wrap64 (by omega) (by omega)
   refine .sr ?_
   refine .seq ?_
   refine .drawn (ms:=[0,1,3,7,15,31,15,79,207,15,527,1999,4095,8191,16383,32767,65535,32767,163839,32767,557055,1998847,4095999,8388607,16777215,32767,33587199,32767,134250495,402685951,1040220159,2113961983,4294967295,8589934591,17179869183]) (W:=[12]) (items:=VB) rfl ae ae ae ?_
   iterate 4 refine .rx ?_
   refine .split (t:=105) rfl (fun pD=>?_) (fun pD=>?_)
   ·try subst pD
    try simp at pD
    iterate 8 refine .rx ?_
    refine .wp rfl rfl rfl rfl rfl call85 (lC) ?_
    iterate 2 refine .rx ?_
    refine .split (t:=116) rfl (fun te=>?_) (fun te=>?_)
    ·try subst te
     try simp at te
     clear Ft lC
     have cr:1≤(an:Int)∧1≤s.l∧s.l≤(c.t.length:Int) - (an:Int):=by
      simp only[bW,decide_eq_true_eq] at yW wH
      exact⟨yW,wH⟩
     have Jn:s.l=(ln:Int):=by omega
     have mU:kn<c.t.length:=by omega
     have im:am<c.t.length:=by omega
     have qf:c.t[kn]=v1:=by rw[← iF,List.getD_eq_getElem?_getD,List.getElem?_eq_getElem mU];rfl
     have nH:c.t[am]=v2:=by rw[← eZ,List.getD_eq_getElem?_getD,List.getElem?_eq_getElem im];rfl
     have cT:=hJ (v1==v2) ((an:Int)+(ln:Int)) (fun _=>by rw[Jn]) (by
      rw[Jn,Int.toNat_natCast,Int.toNat_natCast,qe,Vy,iF,eZ,beq_iff_eq]
      exact⟨fun h=>⟨cr.1,by omega,by omega,h⟩,fun h=>h.2.2.2⟩)
     clear hJ
     have sh:IntKind.i64.wrap ((an:Int)+(ln:Int))=(an:Int)+(ln:Int):=wrap64 (by omega) (by omega)
     have DM:IntKind.i64.wrap ((an:Int)+(ln:Int) - 1)=(kn:Int):=by rw[wrap64 (by omega) (by omega)];omega
     have qA:IntKind.i64.wrap ((an:Int) - 1)=(am:Int):=by rw[wrap64 (by omega) (by omega)];omega
     iterate 20 refine .rx ?_
     refine .done ?_
     refine .drawn (ms:=[0,1,3,0,0,16,56,7,255]) (W:=[]) (items:=Fu) rfl ae ae ae ?_
     iterate 9 refine .rx ?_
     refine .done ?_
     refine⟨(c.le,(an:Int)+(ln:Int),(v1==v2),[],s.l,0),cT,?_⟩
     simp only[B4]
     exact aX
    try subst te
    try simp at te
    clear Ft
    have cT:=hJ false (IntKind.i64.wrap ((an:Int)+s.l)) (fun h=>(by cases h)) ⟨fun h=>(by cases h),fun h=>(by
     exfalso
     have:(decide (1≤s.l)&&decide (s.l≤(c.t.length:Int) - (an:Int)))=true:=by simp only[bW,decide_eq_true_eq];exact⟨h.2.1,h.2.2.1⟩
     rw[this] at wH;cases wH)⟩
    clear lC hJ
    iterate 18 refine .ux ?_
    iterate 2 refine .rx ?_
    refine .done ?_
    refine .drawn (ms:=[0,1,3,0,0,16,56,7,255]) (W:=[]) (items:=Fu) rfl ae ae ae ?_
    iterate 9 refine .rx ?_
    refine .done ?_
    refine⟨(c.le,IntKind.i64.wrap ((an:Int)+s.l),false,[],s.l,0),cT,?_⟩
    simp only[B4]
    exact aX
   try subst pD
   try simp at pD
   clear Ft
   have cT:=hJ false (IntKind.i64.wrap ((an:Int)+s.l)) (fun h=>(by cases h)) ⟨fun h=>(by cases h),fun h=>(by
    exfalso
    have:decide (1≤(an:Int))=true:=by simp only[decide_eq_true_eq];exact h.1
    rw[this] at yW;cases yW)⟩
   clear lC hJ
   iterate 9 refine .ux ?_
   iterate 2 refine .rx ?_
   iterate 18 refine .ux ?_
   iterate 2 refine .rx ?_
   refine .done ?_
   refine .drawn (ms:=[0,1,3,0,0,16,56,7,255]) (W:=[]) (items:=Fu) rfl ae ae ae ?_
   iterate 9 refine .rx ?_
   refine .done ?_
   refine⟨(c.le,IntKind.i64.wrap ((an:Int)+s.l),false,[],s.l,0),cT,?_⟩
   simp only[B4]
   exact aX
  try simp at pC
  refine .sr ?_
  refine .cs ?_ ?_<;>intro B7
  ·try simp at B7
   have h4:s.k=4:=by simpa using B7
   have hJ:∀(b:Bool) (w:List Int),(b=true↔1≤s.l∧s.l≤s.a)→(b=true→w=(c.t.drop (s.a.toNat - s.l.toNat)).take s.l.toNat)→JP c s c.tw s.a b w s.l 0:=fun b w g g'=>J4 dC h4 g g'
   rw[xN] at hJ
   rw[xN]
   have lC:=xL s.l 1 (an:Int)
   rw[wI] at lC
   refine .sr ?_
   refine .seq (.seq (.ar kS rfl ae (.rn dQ _ ?_)))
   refine .pc rfl rfl rfl rfl rfl call85 (lC) ?_
   refine .rn [5] [] ?_
   refine .done (.sr ?_)
   refine .cs ?_ ?_<;>intro B8
   ·try simp at B8
    subst B8
    have cr:1≤s.l∧s.l≤(an:Int):=by
     simp only[bW,decide_eq_true_eq] at wI
     exact wI
    have Jn:s.l=(ln:Int):=by omega
    have mU:dn≤c.t.length:=by omega
    have im:an≤c.t.length:=by omega
    have tf:dn≤an:=by omega
    have MT:an - dn=ln:=by omega
    have Ht:W.length=ln:=by rw[← hW,List.length_take,List.length_drop];omega
    have uN:W≠[]:=by intro h;rw[h] at Ht;simp at Ht;omega
    have hS:List.take ln (List.drop dn (c.t.map (PV.int .i64)))=W.map (PV.int .i64):=by rw[← hW,List.map_take,List.map_drop]
    have cT:=hJ true W ⟨fun _=>cr,fun _=>rfl⟩ (fun _=>by rw[Jn,Int.toNat_natCast,Int.toNat_natCast,Fb,hW])
    clear lC hJ hW
    have sh:IntKind.i64.wrap ((an:Int) - (ln:Int))=(dn:Int):=by rw[wrap64 (by omega) (by omega)];omega
    refine .rn ?_
    refine .rn ?_
    refine⟨(c.tw,(an:Int),true,W,s.l,0),cT,?_⟩
    simp only[Ji uN]
    exact aX
   try simp at B8
   subst B8
   have cT:=hJ false [] ⟨fun h=>(by cases h),fun h=>(by
    exfalso
    have:(decide (1≤s.l)&&decide (s.l≤(an:Int)))=true:=by simp only[bW,decide_eq_true_eq];exact h
    rw[this] at wI;cases wI)⟩ (fun h=>(by cases h))
   clear lC hJ
   refine .skip (.rn ?_)
   refine⟨(c.tw,(an:Int),false,[],s.l,0),cT,?_⟩
   simp only[B4]
   exact aX
  try simp at B7
  refine .sr ?_
  refine .cs ?_ ?_<;>intro B9
  ·try simp at B9
   have h5:s.k=5:=by simpa using B9
   have hJ:∀(b:Bool) (w:List Int),(b=true↔0≤s.l∧s.l≤(c.g.length:Int) - 1∧(c.g.getD s.l.toNat ⟨0,[]⟩).at_=s.a)→(b=true→w=(c.g.getD s.l.toNat ⟨0,[]⟩).ws)→JP c s c.gl s.a b w s.l 0:=fun b w g g'=>J5 dC h5 g g'
   rw[xN,Jl,tY] at hJ
   rw[xN]
   have lC:=xL s.l 0 ((c.g.length:Int) - 1)
   rw[wJ] at lC
   have VC:IntKind.i64.wrap ((c.g.length:Int) - 1)=(c.g.length:Int) - 1:=wrap64 (by omega) (by omega)
   refine .sr ?_
   refine .seq (.seq ?_)
   refine .drawn (ms:=[0,1,0,4,12,28,63,127,255,511,255,1279,4095,8191,16383,255,33023,131071,262143,524287]) (W:=[6]) (items:=Hu) rfl ae ae ae ?_
   iterate 6 refine .rx ?_
   refine .wp rfl rfl rfl rfl rfl call85 (lC) ?_
   refine .rx ?_
   refine .split (t:=179) rfl (fun yX=>?_) (fun yX=>?_)
   ·try subst yX
    try simp at yX
    clear VC lC
    have cr:0≤s.l∧s.l≤(c.g.length:Int) - 1:=by
     simp only[bW,decide_eq_true_eq] at wJ
     exact wJ
    have Jn:s.l=(ln:Int):=by omega
    have mU:ln<c.g.length:=by omega
    have VD:c.g[ln]=gv:=by rw[← tY,List.getD_eq_getElem?_getD,List.getElem?_eq_getElem mU];rfl
    have hE:=Vr gv
    have yY:1≤gv.ws.length:=(aP.MU gv (VD▸List.getElem_mem mU)).2.1
    have uN:gv.ws≠[]:=by intro h;rw[h] at yY;simp at yY
    iterate 12 refine .rx ?_
    refine .done (.sr ?_)
    refine .cs ?_ ?_<;>intro Ca
    ·try simp at Ca
     have cT:=hJ true gv.ws ⟨fun _=>⟨cr.1,cr.2,by simpa using Ca⟩,fun _=>rfl⟩ (fun _=>rfl)
     clear hJ
     refine .rn ?_
     refine .rn ?_
     refine⟨(c.gl,(an:Int),true,gv.ws,s.l,0),cT,?_⟩
     simp only[Ji uN]
     exact aX
    try simp at Ca
    have cT:=hJ false [] ⟨fun h=>(by cases h),fun h=>(by exfalso;have h2:=h.2.2;simp[h2] at Ca)⟩ (fun h=>(by cases h))
    clear hJ
    refine .skip (.rn ?_)
    refine⟨(c.gl,(an:Int),false,[],s.l,0),cT,?_⟩
    simp only[B4]
    exact aX
   try subst yX
   try simp at yX
   clear VC lC
   have cT:=hJ false [] ⟨fun h=>(by cases h),fun h=>(by
    exfalso
    have:(decide (0≤s.l)&&decide (s.l≤(c.g.length:Int) - 1))=true:=by simp only[bW,decide_eq_true_eq];exact⟨h.1,h.2.1⟩
    rw[this] at wJ;cases wJ)⟩ (fun h=>(by cases h))
   clear hJ
   iterate 10 refine .ux ?_
   iterate 2 refine .rx ?_
   refine .done (.sr ?_)
   refine .gI rfl (.skip (.rn ?_))
   refine⟨(c.gl,(an:Int),false,[],s.l,0),cT,?_⟩
   simp only[B4]
   exact aX
  try simp at B9
  refine .sr ?_
  refine .cs ?_ ?_<;>intro Cb
  ·try simp at Cb
   have h6:s.k=6:=by simpa using Cb
   have cT:=J6 dC h6
   rw[xN,Fs] at cT
   rw[xN]
   have Jo:=B0 s.w
   rw[Fs] at Jo
   refine .sr ?_
   refine .vK (ms:=[0,1,3,0,8,24,0,64,192,455,1023,2047]) (W:=[8]) (As:=[5]) (items:=[.op 0,.op 1,.op 2,.op 3,.op 4,.op 5,.op 6,.op 7,.op 8,.ck 4,.ck 2,.op 9,.op 10,.op 11]) rfl ae ae ae ae (by decide) ?_
   iterate 5 refine .rf ?_
   refine .al rfl rfl (by decide) (by decide) (by decide) (by decide) iq ?_
   iterate 2 refine .rf ?_
   refine .wr rfl rfl (by decide) (.pure rfl rfl rfl call116 (by decide) (Jo) (by first|rfl|simp[*]) ?_)
   rintro _ rfl
   refine .ck rfl eQ ?_
   refine .ck rfl eQ ?_
   iterate 3 refine .rf ?_
   refine .done ?_
   refine⟨(c.ad,(an:Int),Vz,[s.w],0,s.w),cT,?_⟩
   simp only[Vu]
   exact(.mk [4] [] gH gY rfl rfl rfl)
  try simp at Cb
  have cT:=J0 (c:=c) (i:=(an:Int)) (show s.k≠1 by simpa using B6) (show s.k≠2 by simpa using AY) (show s.k≠3 by simpa using pC) (show s.k≠4 by simpa using B7) (show s.k≠5 by simpa using B9) (show s.k≠6 by simpa using Cb)
  rw[xN]
  refine .skip ?_
  refine⟨(0,(an:Int),false,[],0,0),cT,?_⟩
  simp only[B4]
  exact aX
 skip
 rintro⟨n,i,b,w,l',w'⟩ hJ
 simp only at hJ ⊢
 clear lC qe Vy Fb iF eZ hW rL tY yW wH wI wJ Fs e30 e31 e41 e51 Vz gv tv W v1 v2 dn am kn Jk Jl
 refine .seq (.seq (.ar gT rfl ae (.rn [0,1,2] _ ?_)))
 refine .split (t:=218) rfl (fun uO=>?_) (fun uO=>?_)
 ·try subst uO
  try simp at uO
  refine .rn [3,4,5,6] [] ?_
  refine .done (.dR rfl (.sr ?_))
  refine .ret (ax ?_)
  rw[B5 (hJ.2 (.inl uO))];rfl
 try subst uO
 try simp at uO
 subst uO
 refine .rn [3,4,5,6] [] ?_
 refine .done ?_
 refine .cs ?_ ?_<;>intro uP
 ·try simp at uP
  refine .sr ?_
  refine .ret (ax ?_)
  rw[B5 (hJ.2 (.inr (by first|exact uP|(simpa using uP))))];rfl
 try simp at uP
 have da:l'=s.l∧w'=s.w:=by first|exact uP|(simpa using uP)|omega
 obtain⟨ll,lr⟩:=da
 obtain⟨i',hi,hd⟩:=hJ.1 rfl ll lr
 have Cc:=AU hd
 subst hi
 clear hJ uP
 rcases Classical.em (w=[]) with hw|hw
 ·skip
  refine .skip (.seq ?_)
  subst hw
  have P2:eW []=.aJ:=B4
  refine .drawn (ms:=[0,0,0,0,8,0,32,120,252,1,515,2047,4095]) (W:=[11]) (items:=VE) rfl ae ae ae ?_
  iterate 11 refine .rx ?_
  refine .wv ?_
  refine .rx ?_
  refine .done (.ret (ax ?_))
  rw[Cc];simp[jT,P2]
 skip
 refine .skip (.seq ?_)
 have P2:=Ji hw
 refine .drawn (ms:=[0,0,0,0,8,0,32,120,252,1,515,2047,4095]) (W:=[11]) (items:=VE) rfl ae ae ae ?_
 iterate 11 refine .rx ?_
 refine .wv ?_
 refine .rx ?_
 refine .done (.ret (ax ?_))
 rw[Cc];simp[jT,P2]
theorem Jp (a b:List Int)(ha:a.length<4611686018427387904)(hb:b.length<4611686018427387904):aI prog 144 [ints a,ints b] fun r=>r=.bool (decide (a=b)):=by
 refine .bJ func144 rfl rfl ?_
 refine .sr ?_
 refine .seq (.sr ?_)
 refine .cs ?_ ?_<;>intro fp
 ·try simp at fp
  refine .sr ?_
  refine .ret (ax ?_)
  have h:¬a=b:=by intro h;subst h;omega
  simp[h]
 try simp at fp
 have hlen:b.length=a.length:=by omega
 clear fp
 refine .skip (.seq (.sr ?_))
 refine .block ?_
 refine .cZ (fun i:Nat=>([(0,ints a),(1,ints b),(12,.int .i64 a.length),(13,.int .i64 i)],af.empty)) (fun i=>i≤a.length∧a.take i=b.take i) (fun i=>a.length - i) 0 (by simp) (.pure (by simp[*]) (by simp)) ?_
 rintro i ⟨hi,hr⟩
 simp only at hi hr ⊢
 refine .sr ?_
 refine .seq ?_
 refine .cs ?_ ?_<;>intro iy
 ·try simp at iy
  have cR:=iQ i
  have sj:i<a.length:=by omega
  have AZ:i<b.length:=by omega
  refine .skip (.seq (.block (.sr ?_)))
  refine .seq ?_
  refine .drawn (ms:=[0,0,3,7,0,0,48,112,255]) (W:=[]) (items:=Fu) rfl ae ae ae ?_
  iterate 9 refine .rx ?_
  refine .done ?_
  refine .cs ?_ ?_<;>intro mb
  ·try simp at mb
   refine .sr ?_
   refine .ret (ax ?_)
   have h:¬a=b:=by intro h;subst h;simp at mb
   simp[h]
  try simp at mb
  refine .skip (.rn ?_)
  refine⟨i+1,⟨ba,?_⟩,ba,.pure (by simp[*]) (by simp)⟩
  rw[List.take_succ_eq_append_getElem sj,List.take_succ_eq_append_getElem AZ,hr,mb]
 try simp at iy
 have:i=a.length:=by omega
 have lN:a=b:=by
  rw[this,List.take_length] at hr
  rw[hr];exact List.take_of_length_le (by omega)
 refine .exit (.sr ?_)
 refine .ret (ax ?_)
 simp[lN]
theorem VG (c:aj)(l:List Int)(j:Nat)(hc:c.c.length≤48)(hl:l.length<4611686018427387904):aI prog 96 [aA c,ints l,.int .i64 j] fun r=>r=.bool (hasB c j l):=by
 obtain⟨e0,bR⟩:∃b,decide ((j:Int)≤(c.c.length:Int) - (l.length:Int))=b:=⟨_,rfl⟩
 have lr:IntKind.i64.wrap ((c.c.length:Int) - (l.length:Int))=(c.c.length:Int) - (l.length:Int):=wrap64 (by omega) (by omega)
 obtain⟨S,hS⟩:∃S,(c.c.drop j).take l.length=S:=⟨_,rfl⟩
 obtain⟨jl,eV⟩:∃k,j+l.length=k:=⟨_,rfl⟩
 have P3:List.take l.length (List.drop j (c.c.map (PV.int .i64)))=S.map (PV.int .i64):=by rw[← hS,List.map_take,List.map_drop]
 have DK:S.length≤l.length:=by rw[← hS,List.length_take];omega
 have Fv:hasB c j l=(decide (j+l.length≤c.c.length)&&decide (S=l)):=by unfold hasB;rw[hS]
 unfold aA cu
 refine .bJ func96 rfl rfl ?_
 refine .sr ?_
 refine .seq (.ar [0,1,2,3,4,5,6,7,8,9,10,11,12,13,14,15,16,17,18,19,20] rfl ae (.rn oT _ ?_))
 refine .split (t:=15) rfl (fun dj=>?_) (fun dj=>?_)
 ·try subst dj
  try simp at dj
  have hjb:jl≤c.c.length:=by simp at bR;omega
  have cR:IntKind.i64.wrap ((j:Int)+(l.length:Int))=(jl:Int):=by rw[wrap64 (by omega) (by omega)];omega
  have BH:j≤jl:=by omega
  have yav:jl - j=l.length:=by omega
  have qg:j≤c.c.length:=by omega
  rw[eV] at Fv
  refine .rn [9,10,11,12,13,14,15,16,17] _ ?_
  refine .pc rfl rfl rfl rfl rfl call144 (Jp S l (by omega) hl) ?_
  refine .rn [19,20] [] ?_
  refine .done (.ret (ax ?_))
  rw[Fv,decide_eq_true hjb];rfl
 try subst dj
 try simp at dj
 refine .rn [9,10,11,12,13,14,15,16,17,18,19,20] [] ?_
 refine .done (.ret (ax ?_))
 rw[Fv,decide_eq_false (by simp at bR;omega)];rfl
theorem wL (c:aj)(l:List Int)(j:Nat)(hc:c.c.length≤48)(hl:l.length<4611686018427387904):aI prog 96 [aA c,eW l,.int .i64 j] fun r=>r=.bool (hasB c j l):=by
 unfold eW
 split
 ·rename_i h;subst h
  exact aI.xky (l:=[aA c]) (r:=[.int .i64 j]) (VG c [] j hc (by simp))
 exact VG c l j hc hl
theorem Jq (c:aj)(i j:Int):aI prog 79 [aA c,jT i j] fun r=>r=.func 138 [] [.vp [.int .i64 i,.int .i64 j],.vp (cu c)]:=by
 unfold aA cu jT
 refine .bJ func79 rfl rfl ?_
 refine .sr ?_
 refine .sr ?_
 refine .ret (ax ?_)
 exact zk
theorem Jr (c:aj)(i j:Int):aI prog 139 [aA c,jT i j] fun r=>r=.func 166 [] [.vp [.int .i64 i,.int .i64 j],.vp (cu c)]:=by
 unfold aA cu jT
 refine .bJ func139 rfl rfl ?_
 refine .sr ?_
 refine .sr ?_
 refine .ret (ax ?_)
 exact zk
end
end Go.Am.Sl
end
