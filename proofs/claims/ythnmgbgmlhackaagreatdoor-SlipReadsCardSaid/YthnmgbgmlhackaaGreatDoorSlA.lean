/-
 What is used in the proof of a statement (part SlA); no condition.
-/
import Derived.Test.YthnmgbgmlhackaaGreatDoorSlZ
import Derived.Test.YthnmgbgmlhackaaGreatDoorVm2
import Derived.Test.YthnmgbgmlhackaaGreatDoorSlT
set_option linter.all false
set_option maxHeartbeats 40000000
set_option maxRecDepth 100000
section
namespace Go.Am.Sl
open Go Go.Am Go.Proofs Tryz
attribute [local simp] fZ jh tW eo jM pg ai.back dE ji nr bm Nat.testBit_eq_decide_div_mod_eq cN jL o9 vO sy kh sA jY dh qq qo ss ki su rp oz tU rm sv sg sd sh se sf sj sn pO gz lq fY sB qt rq sC sD pN tR tS kg pa iz gO iA nc jF qZ qe qf kL rY bp rl gN bZ cm nR ai.get ai.alloc ai.put ai.drop ai.empty bs dN jz kx gA cG chunk List.range List.range.loop ns tX oA bK cA PV.aH PV.aJ PV.dU PV.gM kQ kj ru PV.one PV.ids PV.di ia beq_eq vc xq
def jN {α:Type}(p:α→Bool):Nat→List α→Int
 |_,[] => -1
 |i,a::r=>if p a then i else jN p (i+1) r
theorem PD {α:Type}(p:α→Bool)(l:List α)(i:Nat)(h:i<l.length):jN p i (l.drop i)=if p l[i] then (i:Int) else jN p (i+1) (l.drop (i+1)):=by
 rw[List.drop_eq_getElem_cons h];rfl
theorem PE {α:Type}(p:α→Bool):∀(l:List α) (i:Nat),(jN p i l = -1∧l.any p=false)∨((i:Int)≤jN p i l∧jN p i l<i+l.length∧l.any p=true)
 |[],i=>.inl ⟨rfl,rfl⟩
 |a::r,i=>by
  simp only[jN,List.any_cons,List.length_cons]
  cases h:p a with
  |true=>exact .inr ⟨by simp,by simp;omega,rfl⟩
  |false=>
   rcases PE p r (i+1) with⟨h1,h2⟩|⟨h1,h2,h3⟩
   ·exact .inl ⟨by simpa using h1,by simpa using h2⟩
   exact .inr ⟨by simp;omega,by simp;omega,by simpa using h3⟩
theorem PF {α:Type}(p:α→Bool)(l:List α)(i:Nat):decide (jN p i l≥0)=l.any p:=by
 rcases PE p l i with⟨h1,h2⟩|⟨h1,h2,h3⟩
 ·rw[h1,h2];decide
 rw[h3];simp;omega
def bu (m:jO):PV:=.agg [.int .i64 m.f,.int .i64 m.t,.int .i64 m.c]
def cn (g:mo):PV:=.agg [.int .i64 g.at_,ints g.ws]
def cw (c:ao):List PV:=[.int .i64 c.om,.int .i64 c.le,.int .i64 c.tw,.int .i64 c.gl,.int .i64 c.ad,.vec (c.mx.map bu),ints c.t,.vec (c.g.map cn),ints c.c]
@[reducible] def cQ (c:ao):List PV:=[.int .i64 c.om,.int .i64 c.le,.int .i64 c.tw,.int .i64 c.gl,.int .i64 c.ad,.vec (c.mx.map bu),ints c.t,.vec (c.g.map cn),ints c.c]
@[reducible] def bQ (c:ao)(x y z:PV):List PV:=[.int .i64 c.om,.int .i64 c.le,.int .i64 c.tw,.int .i64 c.gl,.int .i64 c.ad,.vec (c.mx.map bu),ints c.t,.vec (c.g.map cn),ints c.c,x,y,z]
def aD (c:ao):PV:=.agg (cw c)
def encS (s:aq):PV:=.agg [.int .i64 s.k,.int .i64 s.a,.int .i64 s.i,.int .i64 s.l,.int .i64 s.w]
theorem PG (m:jO):bu m=.agg [.int .i64 m.f,.int .i64 m.t,.int .i64 m.c]:=rfl
theorem PH (g:mo):cn g=.agg [.int .i64 g.at_,ints g.ws]:=rfl
@[simp] theorem z7f (m:jO):(bu m).cells=[.int .i64 m.f,.int .i64 m.t,.int .i64 m.c]:=rfl
@[simp] theorem z7m (g:mo):(cn g).cells=[.int .i64 g.at_,ints g.ws]:=rfl
@[simp] theorem z7c (s:aq):(encS s).cells=[.int .i64 s.k,.int .i64 s.a,.int .i64 s.i,.int .i64 s.l,.int .i64 s.w]:=rfl
@[simp] theorem xay (m:jO):(bu m).aH=true:=by simp[bu,PV.aH,PV.aJ]
@[simp] theorem xaz (g:mo):(cn g).aH=true:=by simp[cn,PV.aH,PV.aJ]
@[simp] theorem xa1 (s:aq):(encS s).aH=true:=by simp[encS,PV.aH,PV.aJ]
@[simp] theorem xaw (c:ao):(aD c).aH=true:=by simp[aD,cw,PV.aH,PV.aJ]
@[simp] theorem z7b (l:List jO):ky 3 (l.map bu)=true:=xr (f:=bu) (n:=3) (fun _=>rfl) l
@[simp] theorem z7i (l:List mo):ky 2 (l.map cn)=true:=xr (f:=cn) (n:=2) (fun _=>rfl) l
@[simp] theorem KR (l:List aq):ky 5 (l.map encS)=true:=xr (f:=encS) (n:=5) (fun _=>rfl) l
@[simp] theorem z4d (l:List jO):kz (l.map bu)=true:=xt (f:=bu) (fun _=>by simp[PV.one]) l
@[simp] theorem z6i (l:List mo):kz (l.map cn)=true:=xt (f:=cn) (fun _=>by simp[PV.one]) l
@[simp] theorem Xs (l:List aq):kz (l.map encS)=true:=xt (f:=encS) (fun _=>by simp[PV.one]) l
theorem PI (l:List jO)(i:Nat)(h:i<l.length):mq (l.take i) (l.drop i)=(mI (l.take i) l[i]&&mq (l.take (i+1)) (l.drop (i+1))):=by
 rw[List.drop_eq_getElem_cons h,mq,List.take_succ_eq_append_getElem h]
theorem Xt {α:Type}(p:α→Bool)(l:List α)(i:Nat)(h:i<l.length):(l.drop i).all p=(p l[i]&&(l.drop (i+1)).all p):=by
 rw[List.drop_eq_getElem_cons h];rfl
theorem Xu {α:Type}(p:α→Bool)(l:List α):(!(l.any fun a=>!p a))=l.all p:=by
 rw[← List.not_all_eq_any_not];simp
structure BC (c:ao):Prop where
  hm:c.mx.length<4611686018427387904
  ht:c.t.length<4611686018427387904
  hc:c.c.length<4611686018427387904
  hg:c.g.length<4611686018427387904
  hw:∀x∈c.g,x.ws.length<4611686018427387904
section
variable [bG]
theorem sE (n a b:Int):aN prog 85 [.int .i64 n,.int .i64 a,.int .i64 b] fun r=>r=.bool (decide (a≤n)&&decide (n≤b)):=by
 refine .bP func85 rfl rfl ?_
 refine .sr ?_
 refine .seq (.au pQ rfl af (.rn dt _ ?_))
 refine .split (t:=10) rfl (fun fc=>?_) (fun fc=>?_)
 ·try rw[fc]
  try simp at fc
  refine .rn [4,5,6,7,8] [] ?_
  refine .done (.ret (aA ?_))
  simp<;>omega
 try rw[fc]
 try simp at fc
 refine .rn [4,5,6,7,8] [] ?_
 refine .done (.ret (aA ?_))
 simp<;>omega
theorem yK (n:Int):aN prog 116 [.int .i64 n] fun r=>r=.bool (fa n):=by
 refine .bP func116 rfl rfl ?_
 refine .sr ?_
 refine .seq (.au [0,1,2] rfl af (.rn [0] _ ?_))
 refine .pc rfl rfl rfl rfl rfl call85 (sE n 1 9999) ?_
 refine .rn [2] [] ?_
 refine .done (.ret (aA ?_))
 exact zk
theorem sF (n:Int):aN prog 113 [.int .i64 n] fun r=>r=.bool (jZ n):=by
 refine .bP func113 rfl rfl ?_
 refine .sr ?_
 refine .seq (.au [0,1,2] rfl af (.rn [0] _ ?_))
 refine .pc rfl rfl rfl rfl rfl call85 (sE n 1 100) ?_
 refine .rn [2] [] ?_
 refine .done (.ret (aA ?_))
 exact zk
theorem KS {α:Type}(l:List α)(bx:α→PV)(p:α→Bool)(f:FuncId)(xs ys:List PV)(hl:l.length<4611686018427387904)(he:∀a,(bx a).cells=[bx a])(hx:PV.aJ xs=true)(hy:PV.aJ ys=true)(hF:∀a,(bx a).aH=true)(dR:∀cs w,(callFunc f cs).run prog w=.ok (.enter f cs) w)(hp:∀a∈l,aN prog f (xs++[bx a]++ys) fun r=>r=.bool (p a)):aN prog 168 [.vec (l.map bx),.func f xs ys] fun r=>r=.int .i64 (jN p 0 l):=by
 refine .bP func168 rfl rfl ?_
 refine .sr ?_
 refine .seq (.sr ?_)
 refine .block ?_
 refine .ec (fun s:Nat=>([(0,.vec (l.map bx)),(1,.func f xs ys),(7,.int .i64 l.length),(8,.int .i64 s)],ai.empty)) (fun s=>s≤l.length∧jN p s (l.drop s)=jN p 0 l) (fun s=>l.length - s) 0 ⟨by simp,by simp⟩ (.pure (by simp[*]) (by simp)) ?_
 rintro i ⟨hi,hr⟩
 simp only at hi hr ⊢
 refine .sr ?_
 refine .seq ?_
 refine .cs ?_ ?_<;>intro c9
 ·try simp at c9
  have eO:=gD i
  rw[PD p l i c9] at hr
  have he:=he l[i]
  have hp:=hp l[i] (List.getElem_mem c9)
  refine .skip (.seq (.block (.sr ?_)))
  refine .seq (.au iB rfl af (.rn fe _ ?_))
  refine .step rfl rfl (.pure rfl rfl rfl dR (by decide) (hp) (by first|rfl|simp[*]) ?_)
  rintro _ rfl
  refine .done ?_
  refine .cs ?_ ?_<;>intro sG
  ·try simp at sG
   refine .sr ?_
   refine .ret (aA ?_)
   rw[← hr,if_pos sG]
  try simp at sG
  refine .skip (.rn ?_)
  refine⟨i+1,⟨bC,?_⟩,bC,.pure (by simp[*]) (by simp)⟩
  rw[← hr,if_neg (by simp[sG])]
 try simp at c9
 have:i=l.length:=by omega
 refine .exit (.sr ?_)
 refine .ret (aA ?_)
 rw[← hr,this,List.drop_length];rfl
theorem KT {α:Type}(l:List α)(bx:α→PV)(p:α→Bool)(f:FuncId)(xs ys:List PV)(hl:l.length<4611686018427387904)(he:∀a,(bx a).cells=[bx a])(hx:PV.aJ xs=true)(hy:PV.aJ ys=true)(hF:∀a,(bx a).aH=true)(dR:∀cs w,(callFunc f cs).run prog w=.ok (.enter f cs) w)(hp:∀a∈l,aN prog f (xs++[bx a]++ys) fun r=>r=.bool (p a)):aN prog 149 [.vec (l.map bx),.func f xs ys] fun r=>r=.bool (l.any p):=by
 refine .bP func149 rfl rfl ?_
 refine .sr ?_
 refine .seq (.au fe rfl af (.rn [0,1] _ ?_))
 refine .pc rfl rfl rfl rfl rfl call168 (KS l bx p f xs ys hl he hx hy hF dR hp) ?_
 refine .rn [3,4] [] ?_
 refine .done (.ret (aA ?_))
 rw[← PF _ l 0]
theorem KU (n:Int):aN prog 150 [.int .i64 n] fun r=>r=.bool (!fa n):=by
 refine .bP func150 rfl rfl ?_
 refine .sr ?_
 refine .seq (.au dt rfl af (.rn [0] _ ?_))
 refine .pc rfl rfl rfl rfl rfl call116 (yK n) ?_
 refine .rn [2,3] [] ?_
 refine .done (.ret (aA ?_))
 exact zk
theorem BN (l:List Int)(hl:l.length<4611686018427387904):aN prog 105 [ints l] fun r=>r=.bool (l.all fa):=by
 refine .bP func105 rfl rfl ?_
 refine .sr ?_
 refine .seq (.au dt rfl af (.rn [0] _ ?_))
 refine .pc rfl rfl rfl rfl rfl call149 (KT l (PV.int .i64) (fun n=>!fa n) 150 [] [] hl (fun _=>rfl) rfl rfl (fun _=>rfl) call150 (fun n _=>KU n)) ?_
 refine .rn [2,3] [] ?_
 refine .done (.ret (aA ?_))
 rw[← Xu]
theorem KV {α:Type}(l:List α)(bx:α→PV)(p:α→Bool)(f:FuncId)(xs ys:List PV)(hl:l.length<4611686018427387904)(hz:∀a,(bx a).cells.length=3)(he:∀a,PV.agg (List.take 3 (bx a).cells)=bx a)(hx:PV.aJ xs=true)(hy:PV.aJ ys=true)(hF:∀a,(bx a).aH=true)(dR:∀cs w,(callFunc f cs).run prog w=.ok (.enter f cs) w)(hp:∀a∈l,aN prog f (xs++[bx a]++ys) fun r=>r=.bool (p a)):aN prog 153 [.vec (l.map bx),.func f xs ys] fun r=>r=.int .i64 (jN p 0 l):=by
 refine .bP func153 rfl rfl ?_
 refine .sr ?_
 refine .seq (.sr ?_)
 refine .block ?_
 refine .ec (fun s:Nat=>([(0,.vec (l.map bx)),(1,.func f xs ys),(7,.int .i64 l.length),(8,.int .i64 s)],ai.empty)) (fun s=>s≤l.length∧jN p s (l.drop s)=jN p 0 l) (fun s=>l.length - s) 0 ⟨by simp,by simp⟩ (.pure (by simp[*]) (by simp)) ?_
 rintro i ⟨hi,hr⟩
 simp only at hi hr ⊢
 refine .sr ?_
 refine .seq ?_
 refine .cs ?_ ?_<;>intro c9
 ·try simp at c9
  have eO:=gD i
  rw[PD p l i c9] at hr
  have he:=he l[i]
  have hz:=hz l[i]
  have hp:=hp l[i] (List.getElem_mem c9)
  refine .skip (.seq (.block (.sr ?_)))
  refine .seq (.au iB rfl af (.rn fe _ ?_))
  refine .step rfl rfl (.pure rfl rfl rfl dR (by decide) (hp) (by first|rfl|simp[*]) ?_)
  rintro _ rfl
  refine .done ?_
  refine .cs ?_ ?_<;>intro sG
  ·try simp at sG
   refine .sr ?_
   refine .ret (aA ?_)
   rw[← hr,if_pos sG]
  try simp at sG
  refine .skip (.rn ?_)
  refine⟨i+1,⟨bC,?_⟩,bC,.pure (by simp[*]) (by simp)⟩
  rw[← hr,if_neg (by simp[sG])]
 try simp at c9
 have:i=l.length:=by omega
 refine .exit (.sr ?_)
 refine .ret (aA ?_)
 rw[← hr,this,List.drop_length];rfl
theorem KW {α:Type}(l:List α)(bx:α→PV)(p:α→Bool)(f:FuncId)(xs ys:List PV)(hl:l.length<4611686018427387904)(hz:∀a,(bx a).cells.length=3)(he:∀a,PV.agg (List.take 3 (bx a).cells)=bx a)(hx:PV.aJ xs=true)(hy:PV.aJ ys=true)(hF:∀a,(bx a).aH=true)(dR:∀cs w,(callFunc f cs).run prog w=.ok (.enter f cs) w)(hp:∀a∈l,aN prog f (xs++[bx a]++ys) fun r=>r=.bool (p a)):aN prog 114 [.vec (l.map bx),.func f xs ys] fun r=>r=.bool (l.any p):=by
 refine .bP func114 rfl rfl ?_
 refine .sr ?_
 refine .seq (.au fe rfl af (.rn [0,1] _ ?_))
 refine .pc rfl rfl rfl rfl rfl call153 (KV l bx p f xs ys hl hz he hx hy hF dR hp) ?_
 refine .rn [3,4] [] ?_
 refine .done (.ret (aA ?_))
 rw[← PF _ l 0]
theorem KX (y x:jO):aN prog 115 [bu y,.vp [.int .i64 x.f,.int .i64 x.t,.int .i64 x.c]] fun r=>r=.bool (decide (y.f=x.f)&&decide (y.t=x.t)):=by
 unfold bu
 refine .bP func115 rfl rfl ?_
 refine .sr ?_
 refine .seq (.au gb rfl af (.rn iB _ ?_))
 refine .split (t:=9) rfl (fun c9=>?_) (fun c9=>?_)
 ·try rw[c9]
  try simp at c9
  refine .rn [6,7,8,9,10,11,12] [] ?_
  refine .done (.ret (aA ?_))
  simp_all<;>rfl
 try rw[c9]
 try simp at c9
 refine .rn [6,7,8,9,10,11,12] [] ?_
 refine .done (.ret (aA ?_))
 simp_all<;>rfl
end
def yL (c:ao):Bool:=jZ c.om&&jZ c.le&&jZ c.tw&&jZ c.gl&&jZ c.ad
theorem Xv {c:ao}(h:yL c=false):bf c=1:=by unfold yL at h;unfold bf pR;rw[h];rfl
theorem Xw {c:ao}(h:yL c=true)(hl:20<c.mx.length):bf c=2:=by unfold yL at h;unfold bf pR;rw[h,if_pos rfl,if_pos hl];rfl
theorem Xx {c:ao}(h:yL c=true)(hl:¬20<c.mx.length)(hm:mq [] c.mx=false):bf c=1:=by unfold yL at h;unfold bf pR;rw[h,if_pos rfl,if_neg hl,hm];rfl
theorem Xy {c:ao}(h:yL c=true)(hl:¬20<c.mx.length)(hm:mq [] c.mx=true):bf c=if 48<c.t.length∨48<c.c.length∨6<c.g.length then 2 else if (c.t.all fa&&c.c.all fa&&c.g.all (kl c.t.length))=true then 0 else 1:=by
 unfold yL at h;unfold bf pR;rw[h,if_pos rfl,if_neg hl,hm];simp
variable [bG] in
theorem rz (c:ao)(h:BC c):aN prog 55 [aD c] fun r=>r=.int .i64 (bf c):=by
 obtain⟨hm,ht,eJ,hg,hw⟩:=h
 have e1:=@Xv c
 have e2:=@Xw c
 have e3:=@Xx c
 have e4:=@Xy c
 unfold yL at e1 e2 e3 e4
 have q1:=sF c.om
 have q2:=sF c.le
 have q3:=sF c.tw
 have q4:=sF c.gl
 have q5:=sF c.ad
 generalize jZ c.om=b1 at q1 e1 e2 e3 e4
 generalize jZ c.le=b2 at q2 e1 e2 e3 e4
 generalize jZ c.tw=b3 at q3 e1 e2 e3 e4
 generalize jZ c.gl=b4 at q4 e1 e2 e3 e4
 generalize jZ c.ad=b5 at q5 e1 e2 e3 e4
 unfold aD cw
 refine .bP func55 rfl rfl ?_
 refine .sr ?_
 refine .sr ?_
 refine .seq (.seq (.au Fe rfl af (.rn [0,1] _ ?_)))
 refine .pc rfl rfl rfl rfl rfl call113 (q1) ?_
 refine .rn [3,4] _ ?_
 refine .split (t:=15) rfl (fun cb=>?_) (fun cb=>?_)
 ·first|cases cb|(have h:=kB cb;cases h)|(have h:=kC cb;cases h)|try rw[cb]
  try simp at cb
  refine .rn [5,6,7,8,9,10,11,12,13,14,15,16,17,18,19,20,21,22,23,24,25,26,27] [] ?_
  refine .done (.ep rfl (.sr ?_))
  refine .ret (aA ?_)
  rw[e1 (by simp)]
 first|cases cb|(have h:=kB cb;cases h)|(have h:=kC cb;cases h)|try rw[cb]
 try simp at cb
 refine .rn [5,6] _ ?_
 refine .pc rfl rfl rfl rfl rfl call113 (q2) ?_
 refine .rn [8,9,10] _ ?_
 refine .split (t:=21) rfl (fun dz=>?_) (fun dz=>?_)
 ·first|cases dz|(have h:=kB dz;cases h)|(have h:=kC dz;cases h)|try rw[dz]
  try simp at dz
  refine .rn [11,12,13,14,15,16,17,18,19,20,21,22,23,24,25,26,27] [] ?_
  refine .done (.ep rfl (.sr ?_))
  refine .ret (aA ?_)
  rw[e1 (by simp)]
 first|cases dz|(have h:=kB dz;cases h)|(have h:=kC dz;cases h)|try rw[dz]
 try simp at dz
 refine .rn [11,12] _ ?_
 refine .pc rfl rfl rfl rfl rfl call113 (q3) ?_
 refine .rn [14,15,16] _ ?_
 refine .split (t:=27) rfl (fun fg=>?_) (fun fg=>?_)
 ·first|cases fg|(have h:=kB fg;cases h)|(have h:=kC fg;cases h)|try rw[fg]
  try simp at fg
  refine .rn [17,18,19,20,21,22,23,24,25,26,27] [] ?_
  refine .done (.ep rfl (.sr ?_))
  refine .ret (aA ?_)
  rw[e1 (by simp)]
 first|cases fg|(have h:=kB fg;cases h)|(have h:=kC fg;cases h)|try rw[fg]
 try simp at fg
 refine .rn [17,18] _ ?_
 refine .pc rfl rfl rfl rfl rfl call113 (q4) ?_
 refine .rn [20,21,22] _ ?_
 refine .split (t:=33) rfl (fun rA=>?_) (fun rA=>?_)
 ·first|cases rA|(have h:=kB rA;cases h)|(have h:=kC rA;cases h)|try rw[rA]
  try simp at rA
  refine .rn [23,24,25,26,27] [] ?_
  refine .done (.ep rfl (.sr ?_))
  refine .ret (aA ?_)
  rw[e1 (by simp)]
 first|cases rA|(have h:=kB rA;cases h)|(have h:=kC rA;cases h)|try rw[rA]
 try simp at rA
 refine .rn [23,24] _ ?_
 refine .pc rfl rfl rfl rfl rfl call113 (q5) ?_
 refine .rn [26,27] [] ?_
 refine .done ?_
 refine .cs ?_ ?_<;>intro nt
 ·try simp at nt
  refine .sr ?_
  refine .ret (aA ?_)
  rw[e1 (by simp[nt])]
 try simp at nt
 clear e1
 subst nt
 refine .skip (.seq (.sr ?_))
 refine .cs ?_ ?_<;>intro PJ
 ·try simp at PJ
  refine .sr ?_
  refine .ret (aA ?_)
  rw[e2 rfl (by omega)]
 try simp at PJ
 have e3:=e3 rfl (by omega)
 have e4:=e4 rfl (by omega)
 clear e2
 refine .skip (.seq (.sr ?_))
 refine .block ?_
 refine .ec (fun k:Nat=>([(1,.ptr 0 0),(3,.ptr 1 0),(44,.vec (c.mx.map bu)),(45,.int .i64 c.mx.length),(46,.int .i64 k)],⟨2,[(1,.box [.int .i64 c.om,.int .i64 c.le,.int .i64 c.tw,.int .i64 c.gl,.int .i64 c.ad,.vec (c.mx.map bu)]),(0,.box (cQ c))]⟩)) (fun k=>k≤c.mx.length∧mq (c.mx.take k) (c.mx.drop k)=mq [] c.mx) (fun k=>c.mx.length - k) 0 ⟨by simp,by simp⟩ bT ?_
 rintro k ⟨hk,hr⟩
 simp only at hk hr ⊢
 refine .sr ?_
 refine .seq ?_
 refine .cs ?_ ?_<;>intro Dy
 ·try simp at Dy
  have eO:=gD k
  rw[PI _ _ Dy] at hr
  have hE:=PG c.mx[k]
  obtain⟨x,hx⟩:∃x,c.mx[k]=x:=⟨_,rfl⟩
  rw[hx] at hr hE
  have hS:List.take k (c.mx.map bu)=(c.mx.take k).map bu:=List.map_take.symm
  have KY:(c.mx.take k).length=k:=by rw[List.length_take];omega
  have jb:mI (c.mx.take k) x=true→mq (c.mx.take (k+1)) (c.mx.drop (k+1))=mq [] c.mx:=fun h=>by rw[← hr,h];rfl
  have oU:mI (c.mx.take k) x=false→mq [] c.mx=false:=fun h=>by rw[← hr,h];rfl
  clear hr
  obtain⟨S,PK⟩:∃S,c.mx.take k=S:=⟨_,rfl⟩
  rw[PK] at hS KY oU jb
  clear PK
  have Ff:=KW S bu (fun y=>decide (y.f=x.f)&&decide (y.t=x.t)) 115 [] [.vp [.int .i64 x.f,.int .i64 x.t,.int .i64 x.c]] (by omega) (fun _=>rfl) (fun _=>rfl) rfl rfl (fun _=>by simp) call115 (fun y _=>KX y x)
  have iO:mI S x=(fa x.f&&fa x.t&&!decide (x.f=x.t)&&jZ x.c&&!(S.any fun y=>decide (y.f=x.f)&&decide (y.t=x.t))):=rfl
  have w1:=yK x.f
  have w2:=yK x.t
  have w3:=sF x.c
  generalize (S.any fun y=>decide (y.f=x.f)&&decide (y.t=x.t))=av at Ff iO
  generalize fa x.f=v1 at w1 iO
  generalize fa x.t=v2 at w2 iO
  generalize jZ x.c=v3 at w3 iO
  have fW:mI S x=false→bf c=1:=fun h=>e3 (oU h)
  refine .skip (.seq (.block (.sr ?_)))
  refine .seq (.au gE rfl af (.rn fe _ ?_))
  refine .step rfl rfl (.borrow rfl rfl rfl call114 (by decide) (by first|(simp<;>rfl)|(simp[*]<;>rfl)|(simp[*];done)) (Ff) (by rintro _ rfl<;>first|(simp;done)|rfl) ?_)
  rintro _ rfl
  refine .rn [6] [] ?_
  refine .done (.seq (.au [0,1,2,3,4,5,6,7,8,9,10,11,12,13,14,15,16,17,18,19,20,21,22,23,24,25] rfl af ?_))
  refine .rn [0,1] _ ?_
  refine .pc rfl rfl rfl rfl rfl call116 (w1) ?_
  refine .rn [3,4] _ ?_
  refine .split (t:=61) rfl (fun vd=>?_) (fun vd=>?_)
  ·first|cases vd|(have h:=kB vd;cases h)|(have h:=kC vd;cases h)|try rw[vd]
   try simp at vd
   refine .rn [5,6,7,8,9,10,11,12,13,14,15,16,17,18,19,20,21,22,23,24,25] [] ?_
   refine .done (.ep rfl (.sr ?_))
   refine .ret (aA ?_)
   rw[fW (by rw[iO];simp)]
  first|cases vd|(have h:=kB vd;cases h)|(have h:=kC vd;cases h)|try rw[vd]
  try simp at vd
  refine .rn [5,6] _ ?_
  refine .pc rfl rfl rfl rfl rfl call116 (w2) ?_
  refine .rn [8,9,10] _ ?_
  refine .split (t:=67) rfl (fun ve=>?_) (fun ve=>?_)
  ·first|cases ve|(have h:=kB ve;cases h)|(have h:=kC ve;cases h)|try rw[ve]
   try simp at ve
   refine .rn [11,12,13,14,15,16,17,18,19,20,21,22,23,24,25] [] ?_
   refine .done (.ep rfl (.sr ?_))
   refine .ret (aA ?_)
   rw[fW (by rw[iO];simp)]
  first|cases ve|(have h:=kB ve;cases h)|(have h:=kC ve;cases h)|try rw[ve]
  try simp at ve
  refine .rn [11,12,13,14,15,16,17] _ ?_
  refine .split (t:=74) rfl (fun lr=>?_) (fun lr=>?_)
  ·first|cases lr|(have h:=kB lr;cases h)|(have h:=kC lr;cases h)|try rw[lr]
   try simp at lr
   refine .rn [18,19,20,21,22,23,24,25] [] ?_
   refine .done (.ep rfl (.sr ?_))
   refine .ret (aA ?_)
   rw[fW (by rw[iO];simp[lr])]
  first|cases lr|(have h:=kB lr;cases h)|(have h:=kC lr;cases h)|try rw[lr]
  try simp at lr
  refine .rn [18,19] _ ?_
  refine .pc rfl rfl rfl rfl rfl call113 (w3) ?_
  refine .rn [21,22,23] _ ?_
  refine .split (t:=80) rfl (fun vf=>?_) (fun vf=>?_)
  ·first|cases vf|(have h:=kB vf;cases h)|(have h:=kC vf;cases h)|try rw[vf]
   try simp at vf
   refine .rn [24,25] [] ?_
   refine .done (.ep rfl (.sr ?_))
   refine .ret (aA ?_)
   rw[fW (by rw[iO];simp)]
  first|cases vf|(have h:=kB vf;cases h)|(have h:=kC vf;cases h)|try rw[vf]
  try simp at vf
  refine .rn [24,25] [] ?_
  refine .done ?_
  refine .cs ?_ ?_<;>intro tY
  ·try simp at tY
   refine .sr ?_
   refine .ret (aA ?_)
   rw[fW (by rw[iO];simp[tY])]
  try simp at tY
  refine .skip (.rn ?_)
  refine⟨k+1,⟨bC,?_⟩,bC,bT⟩
  exact jb (by rw[iO];simp[lr,tY])
 try simp at Dy
 have gP:k=c.mx.length:=by omega
 subst gP
 rw[List.take_length,List.drop_length] at hr
 have e4:=e4 hr.symm
 clear e3 hr
 refine .exit (.seq (.seq (.au BO rfl af (.rn fe _ ?_))))
 refine .split (t:=88) rfl (fun vg=>?_) (fun vg=>?_)
 ·first|cases vg|(have h:=kB vg;cases h)|(have h:=kC vg;cases h)|try rw[vg]
  try simp at vg
  refine .rn [5,6,7,8,9,10,11,12,13,14,15] [] ?_
  refine .done (.ep rfl (.sr ?_))
  refine .ret (aA ?_)
  rw[e4,if_pos (by omega)]
 first|cases vg|(have h:=kB vg;cases h)|(have h:=kC vg;cases h)|try rw[vg]
 try simp at vg
 refine .rn [5,6,7,8,9,10] _ ?_
 refine .split (t:=94) rfl (fun ph=>?_) (fun ph=>?_)
 ·first|cases ph|(have h:=kB ph;cases h)|(have h:=kC ph;cases h)|try rw[ph]
  try simp at ph
  refine .rn [11,12,13,14,15] [] ?_
  refine .done (.ep rfl (.sr ?_))
  refine .ret (aA ?_)
  rw[e4,if_pos (by omega)]
 first|cases ph|(have h:=kB ph;cases h)|(have h:=kC ph;cases h)|try rw[ph]
 try simp at ph
 refine .rn [11,12,13,14,15] [] ?_
 refine .done ?_
 refine .cs ?_ ?_<;>intro BP
 ·try simp at BP
  refine .sr ?_
  refine .ret (aA ?_)
  rw[e4,if_pos (by omega)]
 try simp at BP
 rw[if_neg (by omega)] at e4
 have w1:=BN c.t ht
 have w2:=BN c.c eJ
 generalize c.t.all fa=v1 at w1 e4
 generalize c.c.all fa=v2 at w2 e4
 refine .skip (.seq (.seq (.au fw rfl af (.rn [0,1] _ ?_))))
 refine .pc rfl rfl rfl rfl rfl call105 (w1) ?_
 refine .rn [3,4] _ ?_
 refine .split (t:=104) rfl (fun lR=>?_) (fun lR=>?_)
 ·first|cases lR|(have h:=kB lR;cases h)|(have h:=kC lR;cases h)|try rw[lR]
  try simp at lR
  refine .rn [5,6,7,8,9] [] ?_
  refine .done (.ep rfl (.sr ?_))
  refine .ret (aA ?_)
  rw[e4];simp
 first|cases lR|(have h:=kB lR;cases h)|(have h:=kC lR;cases h)|try rw[lR]
 try simp at lR
 refine .rn [5,6] _ ?_
 refine .pc rfl rfl rfl rfl rfl call105 (w2) ?_
 refine .rn [8,9] [] ?_
 refine .done ?_
 refine .cs ?_ ?_<;>intro yM
 ·try simp at yM
  refine .sr ?_
  refine .ret (aA ?_)
  rw[e4];simp[yM]
 try simp at yM
 subst yM
 refine .skip (.seq (.sr ?_))
 refine .block ?_
 refine .ec (fun k:Nat=>([(1,.ptr 0 0),(111,.vec (c.g.map cn)),(112,.int .i64 c.g.length),(113,.int .i64 k)],⟨1,[(0,.box (cQ c))]⟩)) (fun k=>k≤c.g.length∧(c.g.drop k).all (kl c.t.length)=c.g.all (kl c.t.length)) (fun k=>c.g.length - k) 0 ⟨by simp,by simp⟩ bT ?_
 rintro k ⟨hk,hr⟩
 simp only at hk hr ⊢
 refine .sr ?_
 refine .seq ?_
 refine .cs ?_ ?_<;>intro mJ
 ·try simp at mJ
  have eO:=gD k
  rw[Xt _ _ _ mJ] at hr
  have hE:=PH c.g[k]
  have Fg:=hw c.g[k] (List.getElem_mem mJ)
  obtain⟨x,hx⟩:∃x,c.g[k]=x:=⟨_,rfl⟩
  rw[hx] at hr hE Fg
  have Aq:kl c.t.length x=((decide (0≤x.at_)&&decide (x.at_≤(c.t.length:Int)))&&(decide (1≤x.ws.length)&&decide (x.ws.length≤6))&&x.ws.all fa):=rfl
  have z1:=sE x.at_ 0 (c.t.length:Int)
  have z2:=sE (x.ws.length:Int) 1 6
  have z3:=BN x.ws Fg
  have Xz:(decide (1≤x.ws.length)&&decide (x.ws.length≤6))=(decide (1≤(x.ws.length:Int))&&decide ((x.ws.length:Int)≤6)):=by rw[Bool.eq_iff_iff];simp;omega
  rw[Xz] at Aq
  generalize (decide (0≤x.at_)&&decide (x.at_≤(c.t.length:Int)))=a1 at z1 Aq
  generalize (decide (1≤(x.ws.length:Int))&&decide ((x.ws.length:Int)≤6))=a2 at z2 Aq
  generalize x.ws.all fa=a3 at z3 Aq
  have fW:kl c.t.length x=false→bf c=1:=fun h=>by rw[e4,← hr,h];simp
  refine .skip (.seq (.block (.sr ?_)))
  refine .seq (.au [0,1,2,3,4,5,6,7,8,9,10,11,12,13,14,15,16,17,18,19] rfl af (.rn fe _ ?_))
  refine .pc rfl rfl rfl rfl rfl call85 (z1) ?_
  refine .rn [6,7] _ ?_
  refine .split (t:=124) rfl (fun gQ=>?_) (fun gQ=>?_)
  ·first|cases gQ|(have h:=kB gQ;cases h)|(have h:=kC gQ;cases h)|try rw[gQ]
   try simp at gQ
   refine .rn [8,9,10,11,12,13,14,15,16,17,18,19] [] ?_
   refine .done (.ep rfl (.sr ?_))
   refine .ret (aA ?_)
   rw[fW (by rw[Aq];simp)]
  first|cases gQ|(have h:=kB gQ;cases h)|(have h:=kC gQ;cases h)|try rw[gQ]
  try simp at gQ
  refine .rn [8,9,10] _ ?_
  refine .pc rfl rfl rfl rfl rfl call85 (z2) ?_
  refine .rn [12,13,14] _ ?_
  refine .split (t:=131) rfl (fun lT=>?_) (fun lT=>?_)
  ·first|cases lT|(have h:=kB lT;cases h)|(have h:=kC lT;cases h)|try rw[lT]
   try simp at lT
   refine .rn [15,16,17,18,19] [] ?_
   refine .done (.ep rfl (.sr ?_))
   refine .ret (aA ?_)
   rw[fW (by rw[Aq];simp)]
  first|cases lT|(have h:=kB lT;cases h)|(have h:=kC lT;cases h)|try rw[lT]
  try simp at lT
  refine .rn [15,16] _ ?_
  refine .pc rfl rfl rfl rfl rfl call105 (z3) ?_
  refine .rn [18,19] [] ?_
  refine .done ?_
  refine .cs ?_ ?_<;>intro yN
  ·try simp at yN
   refine .sr ?_
   refine .ret (aA ?_)
   rw[fW (by rw[Aq];simp[yN])]
  try simp at yN
  refine .skip (.rn ?_)
  refine⟨k+1,⟨bC,?_⟩,bC,bT⟩
  rw[← hr,Aq];simp[yN]
 try simp at mJ
 have gP:k=c.g.length:=by omega
 subst gP
 rw[List.drop_length] at hr
 rw[← hr] at e4
 refine .exit (.sr ?_)
 refine .ret (aA ?_)
 rw[e4];simp
def gd (i j:Int):PV:=.agg [.int .i64 i,.int .i64 j]
def eW (w:List Int):PV:=if w=[] then .aG else ints w
theorem yO:eW []=.aG:=rfl
theorem PL (a:Int)(r:List Int):eW (a::r)=ints (a::r):=rfl
theorem Fh {w:List Int}(h:w≠[]):eW w=ints w:=if_neg h
@[simp] theorem xu (w:List Int):(eW w).cells=[eW w]:=by unfold eW;split<;>rfl
@[simp] theorem vi (w:List Int):(eW w).aH=true:=by unfold eW;split<;>simp[PV.aH]
@[simp] theorem KZ (vh:ai)(w:List Int):bK vh (eW w)=some (eW w):=K0 vh (vi w)
def Fi (c:ao)(s:aq):PV:=match aK c s with
 |some (n,i',w)=>.bn [.int .i64 n,eW w,gd i' (IntKind.i64.wrap (s.i+w.length)),.bool true]
 |none=>.bn [.int .i64 0,.aG,gd 0 0,.bool false]
def JP (c:ao)(s:aq)(n i:Int)(b:Bool)(w:List Int)(l' w':Int):Prop:=
 (b=true→l'=s.l→w'=s.w→∃i':Nat,i=i'∧aK c s=some (n,i',w))∧((b=false∨l'≠s.l∨w'≠s.w)→aK c s=none)
theorem PM {c:ao}{s:aq}(h:¬(0≤s.a∧s.a≤(c.t.length:Int)∧0≤s.i)):aK c s=none:=if_neg h
def nS (c:ao)(s:aq)(k:Nat):Option Int:=if s.a.toNat<c.t.length then nU (c.mx.take k) (c.t.getD s.a.toNat 0) s.w else none
def oW:Option Int→Int→List Int
 |none,_=>[]
 |some _,w=>[w]
theorem J1 {c:ao}{s:aq}(hk:bf c=0)(h:0≤s.a∧s.a≤(c.t.length:Int)∧0≤s.i)(h1:s.k=1):JP c s ((nS c s c.mx.length).getD 0) (if (nS c s c.mx.length).isSome then s.a+1 else s.a) (nS c s c.mx.length).isSome (oW (nS c s c.mx.length) s.w) 0 s.w:=by
 have e:nS c s c.mx.length=if s.a.toNat<c.t.length then eB c.mx (c.t.getD s.a.toNat 0) s.w else none:=by unfold nS;rw[List.take_length,XA hk]
 have hd:aK c s=if s.a.toNat<c.t.length∧s.l=0 then (eB c.mx (c.t.getD s.a.toNat 0) s.w).map fun n=>(n,s.a.toNat+1,[s.w]) else none:=by
  unfold aK;rw[if_pos h];simp only[h1,if_true]
 rw[e]
 by_cases ha:s.a.toNat<c.t.length
 ·rw[if_pos ha]
  cases hm:eB c.mx (c.t.getD s.a.toNat 0) s.w with
  |none=>exact⟨fun h=>(by cases h),fun _=>by rw[hd,hm];simp⟩
  |some n=>
   refine⟨fun _ hl _=>⟨s.a.toNat+1,by simp;omega,by rw[hd,if_pos ⟨ha,hl.symm⟩,hm];rfl⟩,?_⟩
   rintro (h|h|h)
   ·cases h
   ·rw[hd,if_neg (fun hh=>h hh.2.symm)]
   exact absurd rfl h
 rw[if_neg ha]
 exact⟨fun h=>(by cases h),fun _=>by rw[hd,if_neg fun hh=>ha hh.1]⟩
theorem J2 {c:ao}{s:aq}(h:0≤s.a∧s.a≤(c.t.length:Int)∧0≤s.i)(h1:s.k=2):JP c s c.om (s.a+1) (decide (s.a<(c.t.length:Int))) [] 0 0:=by
 have hd:aK c s=if s.a.toNat<c.t.length∧s.l=0∧s.w=0 then some (c.om,s.a.toNat+1,[]) else none:=by
  unfold aK;rw[if_pos h];simp[h1]
 refine⟨fun hb hl hw=>⟨s.a.toNat+1,by omega,by rw[hd,if_pos ⟨by simp at hb;omega,hl.symm,hw.symm⟩]⟩,fun hh=>by rw[hd,if_neg];rintro⟨a1,a2,a3⟩;rcases hh with hh|hh|hh<;>simp_all<;>omega⟩
theorem J3 {c:ao}{s:aq}{b:Bool}{i:Int}(h:0≤s.a∧s.a≤(c.t.length:Int)∧0≤s.i)(h1:s.k=3)(hi:b=true→i=s.a+s.l)(hb:b=true↔1≤s.a∧1≤s.l∧s.l≤(c.t.length:Int) - s.a∧c.t.getD (s.a.toNat+s.l.toNat - 1) 0=c.t.getD (s.a.toNat - 1) 0):JP c s c.le i b [] s.l 0:=by
 have hd:aK c s=if 1≤s.a.toNat∧1≤s.l∧s.l≤(c.t.length:Int) - s.a∧s.w=0∧c.t.getD (s.a.toNat+s.l.toNat - 1) 0=c.t.getD (s.a.toNat - 1) 0 then some (c.le,s.a.toNat+s.l.toNat,[]) else none:=by
  unfold aK;rw[if_pos h];simp[h1]
 refine⟨fun xx _ hw=>?_,fun hh=>?_⟩
 ·obtain⟨a1,a2,a3,a4⟩:=hb.1 xx
  exact⟨s.a.toNat+s.l.toNat,by rw[hi xx];omega,by rw[hd,if_pos ⟨by omega,a2,a3,hw.symm,a4⟩]⟩
 rw[hd,if_neg]
 rintro⟨a1,a2,a3,a4,a5⟩
 have:=hb.2 ⟨by omega,a2,a3,a5⟩
 rcases hh with hh|hh|hh
 ·rw[this] at hh;cases hh
 ·exact hh rfl
 exact hh a4.symm
theorem J4 {c:ao}{s:aq}{b:Bool}{w:List Int}(h:0≤s.a∧s.a≤(c.t.length:Int)∧0≤s.i)(h1:s.k=4)(hb:b=true↔1≤s.l∧s.l≤s.a)(hw:b=true→w=(c.t.drop (s.a.toNat - s.l.toNat)).take s.l.toNat):JP c s c.tw s.a b w s.l 0:=by
 have hd:aK c s=if 1≤s.l∧s.l≤s.a∧s.w=0 then some (c.tw,s.a.toNat,(c.t.drop (s.a.toNat - s.l.toNat)).take s.l.toNat) else none:=by
  unfold aK;rw[if_pos h];simp[h1]
 refine⟨fun xx _ yE=>?_,fun hh=>?_⟩
 ·obtain⟨a1,a2⟩:=hb.1 xx
  exact⟨s.a.toNat,by omega,by rw[hd,if_pos ⟨a1,a2,yE.symm⟩,hw xx]⟩
 rw[hd,if_neg]
 rintro⟨a1,a2,a3⟩
 have:=hb.2 ⟨a1,a2⟩
 rcases hh with hh|hh|hh
 ·rw[this] at hh;cases hh
 ·exact hh rfl
 exact hh a3.symm
theorem J5 {c:ao}{s:aq}{b:Bool}{w:List Int}(h:0≤s.a∧s.a≤(c.t.length:Int)∧0≤s.i)(h1:s.k=5)(hb:b=true↔0≤s.l∧s.l≤(c.g.length:Int) - 1∧(c.g.getD s.l.toNat ⟨0,[]⟩).at_=s.a)(hw:b=true→w=(c.g.getD s.l.toNat ⟨0,[]⟩).ws):JP c s c.gl s.a b w s.l 0:=by
 have hd:aK c s=if 0≤s.l∧s.l≤(c.g.length:Int) - 1∧s.w=0∧(c.g.getD s.l.toNat ⟨0,[]⟩).at_=s.a then some (c.gl,s.a.toNat,(c.g.getD s.l.toNat ⟨0,[]⟩).ws) else none:=by
  unfold aK;rw[if_pos h];simp[h1]
 refine⟨fun xx _ yE=>?_,fun hh=>?_⟩
 ·obtain⟨a1,a2,a3⟩:=hb.1 xx
  exact⟨s.a.toNat,by omega,by rw[hd,if_pos ⟨a1,a2,yE.symm,a3⟩,hw xx]⟩
 rw[hd,if_neg]
 rintro⟨a1,a2,a3,a4⟩
 have:=hb.2 ⟨a1,a2,a4⟩
 rcases hh with hh|hh|hh
 ·rw[this] at hh;cases hh
 ·exact hh rfl
 exact hh a3.symm
theorem J6 {c:ao}{s:aq}(h:0≤s.a∧s.a≤(c.t.length:Int)∧0≤s.i)(h1:s.k=6):JP c s c.ad s.a (fa s.w) [s.w] 0 s.w:=by
 have hd:aK c s=if fa s.w=true∧s.l=0 then some (c.ad,s.a.toNat,[s.w]) else none:=by
  unfold aK;rw[if_pos h];simp[h1]
 refine⟨fun xx hl _=>⟨s.a.toNat,by omega,by rw[hd,if_pos ⟨xx,hl.symm⟩]⟩,fun hh=>?_⟩
 rw[hd,if_neg]
 rintro⟨a1,a2⟩
 rcases hh with hh|hh|hh
 ·rw[a1] at hh;cases hh
 ·exact hh a2.symm
 exact hh rfl
theorem J0 {c:ao}{s:aq}{i:Int}(h1:s.k≠1)(h2:s.k≠2)(h3:s.k≠3)(h4:s.k≠4)(h5:s.k≠5)(h6:s.k≠6):JP c s 0 i false [] 0 0:=by
 refine⟨fun h=>(by cases h),fun _=>?_⟩
 unfold aK
 split
 ·simp[h1,h2,h3,h4,h5,h6]
 rfl
attribute [local simp] cQ bQ km tZ
attribute [local simp ↓ high] xu vi
theorem XB {c:ao}{s:aq}{k:Nat}(h:k<c.mx.length):nS c s (k+1)=if s.a.toNat<c.t.length∧c.mx[k].f=c.t.getD s.a.toNat 0∧c.mx[k].t=s.w then some c.mx[k].c else nS c s k:=by
 unfold nS
 by_cases ha:s.a.toNat<c.t.length
 ·rw[if_pos ha,if_pos ha,XC h]
  simp only[ha,true_and]
 rw[if_neg ha,if_neg ha,if_neg fun hh=>ha hh.1]
theorem XD {c:ao}{s:aq}{k:Nat}(hk:bf c=0)(h:k<c.mx.length)(h1:c.mx[k].f=c.t.getD s.a.toNat 0)(h2:c.mx[k].t=s.w):nS c s k=none:=by
 have hp:=PN hk
 unfold nS
 split
 ·unfold nU
  rw[K1 none (hp.sublist (List.take_sublist k _)),PO]
  ·rfl
  intro x hx hh
  obtain⟨j,hj,rfl⟩:=List.mem_iff_getElem.1 hx
  rw[List.length_take] at hj
  rw[List.getElem_take] at hh
  exact(List.pairwise_iff_getElem.1 hp) j k (by omega) h (by omega) ⟨hh.1.trans h1.symm,hh.2.trans h2.symm⟩
 rfl
theorem xy {c:ao}{s:aq}(h:aK c s=none):Fi c s=.bn [.int .i64 0,.aG,gd 0 0,.bool false]:=by unfold Fi;rw[h]
theorem ua {c:ao}{s:aq}{n:Int}{i':Nat}{w:List Int}(h:aK c s=some (n,i',w)):Fi c s=.bn [.int .i64 n,eW w,gd i' (IntKind.i64.wrap (s.i+w.length)),.bool true]:=by unfold Fi;rw[h]
section
variable [bG]
theorem BQ (c:ao)(s:aq)(hk:bf c=0):aN prog 95 [aD c,encS s] fun r=>r=Fi c s:=by
 have bj:=iC hk
 have oB:=bj.tl
 have K2:=bj.K3
 have pS:=bj.sH
 have jA:=sE s.a 0 (c.t.length:Int)
 have BR:=@PM c s
 obtain⟨iv,Ie⟩:∃b,(decide (0≤s.a)&&decide (s.a≤(c.t.length:Int)))=b:=⟨_,rfl⟩
 rw[Ie] at jA
 obtain⟨an,Fj⟩:∃an:Nat,s.a.toNat=an:=⟨_,rfl⟩
 obtain⟨ln,Fk⟩:∃ln:Nat,s.l.toNat=ln:=⟨_,rfl⟩
 obtain⟨kn,nO⟩:∃kn:Nat,an+ln - 1=kn:=⟨_,rfl⟩
 obtain⟨am,PQ⟩:∃am:Nat,an - 1=am:=⟨_,rfl⟩
 obtain⟨dn,tM⟩:∃dn:Nat,an - ln=dn:=⟨_,rfl⟩
 obtain⟨v1,iP⟩:∃v,c.t.getD kn 0=v:=⟨_,rfl⟩
 obtain⟨v2,eT⟩:∃v,c.t.getD am 0=v:=⟨_,rfl⟩
 obtain⟨W,hW⟩:∃W,(c.t.drop dn).take ln=W:=⟨_,rfl⟩
 obtain⟨tv,nV⟩:∃v,c.t.getD an 0=v:=⟨_,rfl⟩
 obtain⟨gv,pT⟩:∃v,c.g.getD ln ⟨0,[]⟩=v:=⟨_,rfl⟩
 obtain⟨XE,vj⟩:∃b,decide (1≤(an:Int))=b:=⟨_,rfl⟩
 obtain⟨XF,sI⟩:∃b,(decide (1≤s.l)&&decide (s.l≤(c.t.length:Int) - (an:Int)))=b:=⟨_,rfl⟩
 obtain⟨XH,sJ⟩:∃b,(decide (1≤s.l)&&decide (s.l≤(an:Int)))=b:=⟨_,rfl⟩
 obtain⟨XI,sK⟩:∃b,(decide (0≤s.l)&&decide (s.l≤(c.g.length:Int) - 1))=b:=⟨_,rfl⟩
 obtain⟨PR,BS⟩:∃b,fa s.w=b:=⟨_,rfl⟩
 unfold aD cw encS
 refine .bP func95 rfl rfl ?_
 refine .sr ?_
 refine .seq (.seq (.au vk rfl af (.rn fe _ ?_)))
 refine .pc rfl rfl rfl rfl rfl call85 (jA) ?_
 refine .rn [6,7] _ ?_
 refine .split (t:=22) rfl (fun pj=>?_) (fun pj=>?_)
 ·try subst pj
  try simp at pj
  refine .rn [8,9,10,11] [] ?_
  refine .done (.ep rfl (.sr ?_))
  refine .ret (aA ?_)
  rw[xy (BR (by subst pj;simp at Ie;omega))];rfl
 try subst pj
 try simp at pj
 refine .rn [8,9,10,11] [] ?_
 refine .done ?_
 refine .cs ?_ ?_<;>intro kD
 ·try simp at kD
  refine .sr ?_
  refine .ret (aA ?_)
  rw[xy (BR (by omega))];rfl
 try simp at kD
 have dm:0≤s.a∧s.a≤(c.t.length:Int)∧0≤s.i:=by subst pj;simp at Ie;omega
 clear Ie
 clear BR
 have ub:s.a=(an:Int):=by omega
 refine .skip (.sr ?_)
 refine .seq ?_
 refine .drawn (ms:=[0,1,0,7,15]) (W:=[]) (items:=[.op 0,.op 1,.op 2,.op 3,.op 4]) rfl af af af ?_
 iterate 5 refine .rx ?_
 refine .done (.sr ?_)
 refine .join (fun z:Int×Int×Bool×List Int×Int×Int=>([(3,.ptr 1 0),(6,.ptr 2 0),(8,.ptr 3 0),(9,.int .i64 z.1),(10,.int .i64 z.2.1),(11,.bool z.2.2.1),(12,eW z.2.2.2.1)],⟨4,[(3,.box [.int .i64 s.k,.int .i64 s.a,.int .i64 s.i,.int .i64 z.2.2.2.2.1,.int .i64 z.2.2.2.2.2]),(2,.box [.int .i64 0,.int .i64 0]),(1,.box [.int .i64 s.k,.int .i64 s.a,.int .i64 s.i,.int .i64 s.l,.int .i64 s.w])]⟩)) (fun z=>JP c s z.1 z.2.1 z.2.2.1 z.2.2.2.1 z.2.2.2.2.1 z.2.2.2.2.2) ?_ ?_
 ·skip
  refine .sr ?_
  refine .block (.sr ?_)
  refine .cs ?_ ?_<;>intro yP
  ·try simp at yP
   have BT:=gD an
   have h1:s.k=1:=by simpa using yP
   have cE:=J1 hk dm h1
   have mj:(nS c s 0)=none:=by unfold nS;split<;>rfl
   refine .sr ?_
   refine .sr ?_
   refine .block ?_
   refine .ec (fun k:Nat=>([(2,.ptr 0 0),(3,.ptr 1 0),(6,.ptr 2 0),(8,.ptr 3 0),(9,.int .i64 ((nS c s k).getD 0)),(10,.int .i64 (if (nS c s k).isSome then s.a+1 else s.a)),(11,.bool (nS c s k).isSome),(12,eW (oW (nS c s k) s.w)),(46,.vec (c.mx.map bu)),(47,.int .i64 c.mx.length),(48,.int .i64 k)],⟨4,[(3,.box [.int .i64 s.k,.int .i64 s.a,.int .i64 s.i,.int .i64 0,.int .i64 s.w]),(2,.box [.int .i64 0,.int .i64 0]),(1,.box [.int .i64 s.k,.int .i64 s.a,.int .i64 s.i,.int .i64 s.l,.int .i64 s.w]),(0,.box (cQ c))]⟩)) (fun k=>k≤c.mx.length) (fun k=>c.mx.length - k) 0 (by simp) (by rw[mj];exact bT) ?_
   rintro k gP
   simp only at gP ⊢
   refine .sr ?_
   refine .seq ?_
   refine .cs ?_ ?_<;>intro nW
   ·try simp at nW
    have eO:=gD k
    have gy:=XB (s:=s) nW
    have pL:=XD (s:=s) hk nW
    have hE:=PG c.mx[k]
    obtain⟨x,hx⟩:∃x,c.mx[k]=x:=⟨_,rfl⟩
    rw[hx,Fj] at gy pL
    rw[hx] at hE
    obtain⟨o,ho⟩:∃o,nS c s k=o:=⟨_,rfl⟩
    rw[ho] at gy pL ⊢
    rw[nV] at gy pL
    rw[ub]
    obtain⟨e0,er⟩:∃b,decide (an<c.t.length)=b:=⟨_,rfl⟩
    obtain⟨e1,fG⟩:∃b,(tv==x.f)=b:=⟨_,rfl⟩
    obtain⟨e2,yQ⟩:∃b,(x.t==s.w)=b:=⟨_,rfl⟩
    refine .skip (.seq (.block (.sr ?_)))
    refine .seq ?_
    refine .drawn (ms:=[0,1,0,4,12,31,63,127,255,127,639,2047,4095,127,8319,32767,65535,131071,262143,524287,262143,1310719,4194303,8388607]) (W:=[]) (items:=PS) rfl af af af ?_
    iterate 7 refine .rx ?_
    refine .split (t:=58) rfl (fun Fl=>?_) (fun Fl=>?_)
    ·try subst Fl
     try simp at Fl
     have iw:an<c.t.length:=by simpa using er
     have hg:c.t[an]=tv:=by rw[← nV,List.getD_eq_getElem?_getD,List.getElem?_eq_getElem iw];rfl
     iterate 11 refine .rx ?_
     refine .split (t:=69) rfl (fun xz=>?_) (fun xz=>?_)
     ·try subst xz
      try simp at xz
      iterate 6 refine .rx ?_
      refine .done ?_
      refine .cs ?_ ?_<;>intro If
      ·try simp at If
       have Ig:x.t=s.w:=by simpa[If] using yQ
       have Ih:x.f=tv:=(show tv=x.f by simpa using fG).symm
       obtain rfl:=pL Ih Ig
       rw[if_pos ⟨iw,Ih,Ig⟩] at gy
       refine .drawn (ms:=[0,1,0,4,0,16,48,3,143,511,1023]) (W:=[6]) (items:=[.op 0,.op 1,.op 2,.op 3,.op 4,.op 5,.op 7,.op 8,.op 6,.ck 1,.op 9,.op 10]) rfl af af af ?_
       iterate 8 refine .rx ?_
       refine .wv ?_
       refine .ck rfl eQ ?_
       iterate 2 refine .rx ?_
       refine .done (.rn ?_)
       refine⟨k+1,nW,bC,?_⟩
       rw[gy]
       simp only[oW,PL,Option.getD_some,Option.isSome_some,if_true]
       exact(.mk [5] [] ib iQ rfl rfl rfl)
      try simp at If
      have Ig:¬x.t=s.w:=by simpa[If] using yQ
      rw[if_neg fun hh=>Ig hh.2.2] at gy
      refine .skip (.rn ?_)
      refine⟨k+1,nW,bC,by rw[gy];exact bT⟩
     try subst xz
     try simp at xz
     have Ih:¬tv=x.f:=by simpa using fG
     rw[if_neg fun hh=>Ih hh.2.1.symm] at gy
     iterate 5 refine .ux ?_
     refine .rx ?_
     refine .done (.gn rfl (.skip (.rn ?_)))
     refine⟨k+1,nW,bC,by rw[gy];exact bT⟩
    try subst Fl
    try simp at Fl
    have iw:¬an<c.t.length:=by simpa using er
    rw[if_neg fun hh=>iw hh.1] at gy
    iterate 9 refine .ux ?_
    iterate 2 refine .rx ?_
    iterate 5 refine .ux ?_
    refine .rx ?_
    refine .done (.gn rfl (.skip (.rn ?_)))
    refine⟨k+1,nW,bC,by rw[gy];exact bT⟩
   try simp at nW
   obtain rfl:k=c.mx.length:=by omega
   obtain⟨o,ho⟩:∃o,nS c s c.mx.length=o:=⟨_,rfl⟩
   rw[ho] at cE ⊢
   refine .exit ?_
   refine⟨(o.getD 0,(if o.isSome then s.a+1 else s.a),o.isSome,oW o s.w,0,s.w),cE,?_⟩
   simp only
   exact bT
  try simp at yP
  refine .sr ?_
  refine .cs ?_ ?_<;>intro xA
  ·try simp at xA
   have BT:=gD an
   have h2:s.k=2:=by simpa using xA
   rw[ub]
   have cE:=J2 dm h2
   rw[ub] at cE
   refine .drawn (ms:=[0,1,3,0,8,0,32,0,128,384,992,7,2079,8191]) (W:=[]) (items:=xB) rfl af af af ?_
   iterate 14 refine .rx ?_
   refine .done ?_
   refine⟨(c.om,(an:Int)+1,decide ((an:Int)<(c.t.length:Int)),[],0,0),cE,?_⟩
   simp only[yO]
   exact bT
  try simp at xA
  refine .sr ?_
  refine .cs ?_ ?_<;>intro nu
  ·try simp at nu
   have h3:s.k=3:=by simpa using nu
   have hJ:∀(b:Bool) (i:Int),(b=true→i=s.a+s.l)→(b=true↔1≤s.a∧1≤s.l∧s.l≤(c.t.length:Int) - s.a∧c.t.getD (s.a.toNat+s.l.toNat - 1) 0=c.t.getD (s.a.toNat - 1) 0)→JP c s c.le i b [] s.l 0:=fun b i g g'=>J3 dm h3 g g'
   rw[ub] at hJ
   rw[ub]
   have jA:=sE s.l 1 ((c.t.length:Int) - (an:Int))
   rw[sI] at jA
   have BU:IntKind.i64.wrap ((c.t.length:Int) - (an:Int))=(c.t.length:Int) - (an:Int):=wrap64 (by omega) (by omega)
   refine .sr ?_
   refine .seq ?_
   refine .drawn (ms:=[0,1,3,7,15,31,15,79,207,15,527,1999,4095,8191,16383,32767,65535,32767,163839,32767,557055,1998847,4095999,8388607,16777215,32767,33587199,32767,134250495,402685951,1040220159,2113961983,4294967295,8589934591,17179869183]) (W:=[12]) (items:=[.op 0,.op 1,.op 2,.op 3,.op 4,.op 5,.op 6,.op 7,.op 8,.op 9,.op 10,.op 11,.op 12,.op 13,.op 14,.op 15,.op 16,.op 17,.op 18,.op 19,.op 20,.op 21,.op 22,.op 23,.op 24,.op 25,.op 26,.op 27,.op 28,.op 29,.op 30,.op 31,.op 32,.op 33,.op 34]) rfl af af af ?_
   iterate 4 refine .rx ?_
   refine .split (t:=105) rfl (fun vl=>?_) (fun vl=>?_)
   ·try subst vl
    try simp at vl
    iterate 8 refine .rx ?_
    refine .wp rfl rfl rfl rfl rfl call85 (jA) ?_
    iterate 2 refine .rx ?_
    refine .split (t:=116) rfl (fun vm=>?_) (fun vm=>?_)
    ·try subst vm
     try simp at vm
     clear BU jA
     have cS:1≤(an:Int)∧1≤s.l∧s.l≤(c.t.length:Int) - (an:Int):=by
      simp only[bV,decide_eq_true_eq] at vj sI
      exact⟨vj,sI⟩
     have Fm:s.l=(ln:Int):=by omega
     have lp:kn<c.t.length:=by omega
     have ja:am<c.t.length:=by omega
     have sL:c.t[kn]=v1:=by rw[← iP,List.getD_eq_getElem?_getD,List.getElem?_eq_getElem lp];rfl
     have uc:c.t[am]=v2:=by rw[← eT,List.getD_eq_getElem?_getD,List.getElem?_eq_getElem ja];rfl
     have cE:=hJ (v1==v2) ((an:Int)+(ln:Int)) (fun _=>by rw[Fm]) (by
      rw[Fm,Int.toNat_natCast,Int.toNat_natCast,nO,PQ,iP,eT,beq_iff_eq]
      exact⟨fun h=>⟨cS.1,by omega,by omega,h⟩,fun h=>h.2.2.2⟩)
     clear hJ
     have rB:IntKind.i64.wrap ((an:Int)+(ln:Int))=(an:Int)+(ln:Int):=wrap64 (by omega) (by omega)
     have BV:IntKind.i64.wrap ((an:Int)+(ln:Int) - 1)=(kn:Int):=by rw[wrap64 (by omega) (by omega)];omega
     have xC:IntKind.i64.wrap ((an:Int) - 1)=(am:Int):=by rw[wrap64 (by omega) (by omega)];omega
     iterate 20 refine .rx ?_
     refine .done ?_
     refine .drawn (ms:=[0,1,3,0,0,16,56,7,255]) (W:=[]) (items:=Dz) rfl af af af ?_
     iterate 9 refine .rx ?_
     refine .done ?_
     refine⟨(c.le,(an:Int)+(ln:Int),(v1==v2),[],s.l,0),cE,?_⟩
     simp only[yO]
     exact bT
    try subst vm
    try simp at vm
    clear BU
    have cE:=hJ false (IntKind.i64.wrap ((an:Int)+s.l)) (fun h=>(by cases h)) ⟨fun h=>(by cases h),fun h=>(by
     exfalso
     have:(decide (1≤s.l)&&decide (s.l≤(c.t.length:Int) - (an:Int)))=true:=by simp only[bV,decide_eq_true_eq];exact⟨h.2.1,h.2.2.1⟩
     rw[this] at sI;cases sI)⟩
    clear jA hJ
    iterate 18 refine .ux ?_
    iterate 2 refine .rx ?_
    refine .done ?_
    refine .drawn (ms:=[0,1,3,0,0,16,56,7,255]) (W:=[]) (items:=Dz) rfl af af af ?_
    iterate 9 refine .rx ?_
    refine .done ?_
    refine⟨(c.le,IntKind.i64.wrap ((an:Int)+s.l),false,[],s.l,0),cE,?_⟩
    simp only[yO]
    exact bT
   try subst vl
   try simp at vl
   clear BU
   have cE:=hJ false (IntKind.i64.wrap ((an:Int)+s.l)) (fun h=>(by cases h)) ⟨fun h=>(by cases h),fun h=>(by
    exfalso
    have:decide (1≤(an:Int))=true:=by simp only[decide_eq_true_eq];exact h.1
    rw[this] at vj;cases vj)⟩
   clear jA hJ
   iterate 9 refine .ux ?_
   iterate 2 refine .rx ?_
   iterate 18 refine .ux ?_
   iterate 2 refine .rx ?_
   refine .done ?_
   refine .drawn (ms:=[0,1,3,0,0,16,56,7,255]) (W:=[]) (items:=Dz) rfl af af af ?_
   iterate 9 refine .rx ?_
   refine .done ?_
   refine⟨(c.le,IntKind.i64.wrap ((an:Int)+s.l),false,[],s.l,0),cE,?_⟩
   simp only[yO]
   exact bT
  try simp at nu
  refine .sr ?_
  refine .cs ?_ ?_<;>intro yR
  ·try simp at yR
   have h4:s.k=4:=by simpa using yR
   have hJ:∀(b:Bool) (w:List Int),(b=true↔1≤s.l∧s.l≤s.a)→(b=true→w=(c.t.drop (s.a.toNat - s.l.toNat)).take s.l.toNat)→JP c s c.tw s.a b w s.l 0:=fun b w g g'=>J4 dm h4 g g'
   rw[ub] at hJ
   rw[ub]
   have jA:=sE s.l 1 (an:Int)
   rw[sJ] at jA
   refine .sr ?_
   refine .seq (.seq (.au iB rfl af (.rn dt _ ?_)))
   refine .pc rfl rfl rfl rfl rfl call85 (jA) ?_
   refine .rn [5] [] ?_
   refine .done (.sr ?_)
   refine .cs ?_ ?_<;>intro yS
   ·try simp at yS
    subst yS
    have cS:1≤s.l∧s.l≤(an:Int):=by
     simp only[bV,decide_eq_true_eq] at sJ
     exact sJ
    have Fm:s.l=(ln:Int):=by omega
    have lp:dn≤c.t.length:=by omega
    have ja:an≤c.t.length:=by omega
    have rC:dn≤an:=by omega
    have Ii:an - dn=ln:=by omega
    have DA:W.length=ln:=by rw[← hW,List.length_take,List.length_drop];omega
    have qu:W≠[]:=by intro h;rw[h] at DA;simp at DA;omega
    have hS:List.take ln (List.drop dn (c.t.map (PV.int .i64)))=W.map (PV.int .i64):=by rw[← hW,List.map_take,List.map_drop]
    have cE:=hJ true W ⟨fun _=>cS,fun _=>rfl⟩ (fun _=>by rw[Fm,Int.toNat_natCast,Int.toNat_natCast,tM,hW])
    clear jA hJ hW
    have rB:IntKind.i64.wrap ((an:Int) - (ln:Int))=(dn:Int):=by rw[wrap64 (by omega) (by omega)];omega
    refine .rn ?_
    refine .rn ?_
    refine⟨(c.tw,(an:Int),true,W,s.l,0),cE,?_⟩
    simp only[Fh qu]
    exact bT
   try simp at yS
   subst yS
   have cE:=hJ false [] ⟨fun h=>(by cases h),fun h=>(by
    exfalso
    have:(decide (1≤s.l)&&decide (s.l≤(an:Int)))=true:=by simp only[bV,decide_eq_true_eq];exact h
    rw[this] at sJ;cases sJ)⟩ (fun h=>(by cases h))
   clear jA hJ
   refine .skip (.rn ?_)
   refine⟨(c.tw,(an:Int),false,[],s.l,0),cE,?_⟩
   simp only[yO]
   exact bT
  try simp at yR
  refine .sr ?_
  refine .cs ?_ ?_<;>intro yT
  ·try simp at yT
   have h5:s.k=5:=by simpa using yT
   have hJ:∀(b:Bool) (w:List Int),(b=true↔0≤s.l∧s.l≤(c.g.length:Int) - 1∧(c.g.getD s.l.toNat ⟨0,[]⟩).at_=s.a)→(b=true→w=(c.g.getD s.l.toNat ⟨0,[]⟩).ws)→JP c s c.gl s.a b w s.l 0:=fun b w g g'=>J5 dm h5 g g'
   rw[ub,Fk,pT] at hJ
   rw[ub]
   have jA:=sE s.l 0 ((c.g.length:Int) - 1)
   rw[sK] at jA
   have PT:IntKind.i64.wrap ((c.g.length:Int) - 1)=(c.g.length:Int) - 1:=wrap64 (by omega) (by omega)
   refine .sr ?_
   refine .seq (.seq ?_)
   refine .drawn (ms:=[0,1,0,4,12,28,63,127,255,511,255,1279,4095,8191,16383,255,33023,131071,262143,524287]) (W:=[6]) (items:=Fo) rfl af af af ?_
   iterate 6 refine .rx ?_
   refine .wp rfl rfl rfl rfl rfl call85 (jA) ?_
   refine .rx ?_
   refine .split (t:=179) rfl (fun vn=>?_) (fun vn=>?_)
   ·try subst vn
    try simp at vn
    clear PT jA
    have cS:0≤s.l∧s.l≤(c.g.length:Int) - 1:=by
     simp only[bV,decide_eq_true_eq] at sK
     exact sK
    have Fm:s.l=(ln:Int):=by omega
    have lp:ln<c.g.length:=by omega
    have XJ:c.g[ln]=gv:=by rw[← pT,List.getD_eq_getElem?_getD,List.getElem?_eq_getElem lp];rfl
    have hE:=PH gv
    have vo:1≤gv.ws.length:=(bj.Ij gv (XJ▸List.getElem_mem lp)).2.1
    have qu:gv.ws≠[]:=by intro h;rw[h] at vo;simp at vo
    iterate 12 refine .rx ?_
    refine .done (.sr ?_)
    refine .cs ?_ ?_<;>intro yU
    ·try simp at yU
     have cE:=hJ true gv.ws ⟨fun _=>⟨cS.1,cS.2,by simpa using yU⟩,fun _=>rfl⟩ (fun _=>rfl)
     clear hJ
     refine .rn ?_
     refine .rn ?_
     refine⟨(c.gl,(an:Int),true,gv.ws,s.l,0),cE,?_⟩
     simp only[Fh qu]
     exact bT
    try simp at yU
    have cE:=hJ false [] ⟨fun h=>(by cases h),fun h=>(by exfalso;have h2:=h.2.2;simp[h2] at yU)⟩ (fun h=>(by cases h))
    clear hJ
    refine .skip (.rn ?_)
    refine⟨(c.gl,(an:Int),false,[],s.l,0),cE,?_⟩
    simp only[yO]
    exact bT
   try subst vn
   try simp at vn
   clear PT jA
   have cE:=hJ false [] ⟨fun h=>(by cases h),fun h=>(by
    exfalso
    have:(decide (0≤s.l)&&decide (s.l≤(c.g.length:Int) - 1))=true:=by simp only[bV,decide_eq_true_eq];exact⟨h.1,h.2.1⟩
    rw[this] at sK;cases sK)⟩ (fun h=>(by cases h))
   clear hJ
   iterate 10 refine .ux ?_
   iterate 2 refine .rx ?_
   refine .done (.sr ?_)
   refine .gn rfl (.skip (.rn ?_))
   refine⟨(c.gl,(an:Int),false,[],s.l,0),cE,?_⟩
   simp only[yO]
   exact bT
  try simp at yT
  refine .sr ?_
  refine .cs ?_ ?_<;>intro yV
  ·try simp at yV
   have h6:s.k=6:=by simpa using yV
   have cE:=J6 dm h6
   rw[ub,BS] at cE
   rw[ub]
   have Fp:=yK s.w
   rw[BS] at Fp
   refine .sr ?_
   refine .rD (ms:=[0,1,3,0,8,24,0,64,192,455,1023,2047]) (W:=[8]) (As:=[5]) (items:=[.op 0,.op 1,.op 2,.op 3,.op 4,.op 5,.op 6,.op 7,.op 8,.ck 4,.ck 2,.op 9,.op 10,.op 11]) rfl af af af af (by decide) ?_
   iterate 5 refine .rf ?_
   refine .al rfl rfl (by decide) (by decide) (by decide) (by decide) fA ?_
   iterate 2 refine .rf ?_
   refine .wr rfl rfl (by decide) (.pure rfl rfl rfl call116 (by decide) (Fp) (by first|rfl|simp[*]) ?_)
   rintro _ rfl
   refine .ck rfl eQ ?_
   refine .ck rfl eQ ?_
   iterate 3 refine .rf ?_
   refine .done ?_
   refine⟨(c.ad,(an:Int),PR,[s.w],0,s.w),cE,?_⟩
   simp only[PL]
   exact(.mk [4] [] ib iQ rfl rfl rfl)
  try simp at yV
  have cE:=J0 (c:=c) (i:=(an:Int)) (show s.k≠1 by simpa using yP) (show s.k≠2 by simpa using xA) (show s.k≠3 by simpa using nu) (show s.k≠4 by simpa using yR) (show s.k≠5 by simpa using yT) (show s.k≠6 by simpa using yV)
  rw[ub]
  refine .skip ?_
  refine⟨(0,(an:Int),false,[],0,0),cE,?_⟩
  simp only[yO]
  exact bT
 skip
 rintro⟨n,i,b,w,l',w'⟩ hJ
 simp only at hJ ⊢
 clear jA nO PQ tM iP eT hW nV pT vj sI sJ sK BS XE XF XH XI PR gv tv W v1 v2 dn am kn Fj Fk
 refine .seq (.seq (.au gE rfl af (.rn [0,1,2] _ ?_)))
 refine .split (t:=218) rfl (fun qv=>?_) (fun qv=>?_)
 ·try subst qv
  try simp at qv
  refine .rn [3,4,5,6] [] ?_
  refine .done (.ep rfl (.sr ?_))
  refine .ret (aA ?_)
  rw[xy (hJ.2 (.inl qv))];rfl
 try subst qv
 try simp at qv
 subst qv
 refine .rn [3,4,5,6] [] ?_
 refine .done ?_
 refine .cs ?_ ?_<;>intro qw
 ·try simp at qw
  refine .sr ?_
  refine .ret (aA ?_)
  rw[xy (hJ.2 (.inr (by first|exact qw|(simpa using qw))))];rfl
 try simp at qw
 have da:l'=s.l∧w'=s.w:=by first|exact qw|(simpa using qw)|omega
 obtain⟨q8,np⟩:=da
 obtain⟨i',hi,hd⟩:=hJ.1 rfl q8 np
 have yW:=ua hd
 subst hi
 clear hJ qw
 rcases Classical.em (w=[]) with hw|hw
 ·skip
  refine .skip (.seq ?_)
  subst hw
  have K4:eW []=.aG:=yO
  refine .drawn (ms:=[0,0,0,0,8,0,32,120,252,1,515,2047,4095]) (W:=[11]) (items:=PU) rfl af af af ?_
  iterate 11 refine .rx ?_
  refine .wv ?_
  refine .rx ?_
  refine .done (.ret (aA ?_))
  rw[yW];simp[gd,K4]
 skip
 refine .skip (.seq ?_)
 have K4:=Fh hw
 refine .drawn (ms:=[0,0,0,0,8,0,32,120,252,1,515,2047,4095]) (W:=[11]) (items:=PU) rfl af af af ?_
 iterate 11 refine .rx ?_
 refine .wv ?_
 refine .rx ?_
 refine .done (.ret (aA ?_))
 rw[yW];simp[gd,K4]
theorem Fq (a b:List Int)(ha:a.length<4611686018427387904)(hb:b.length<4611686018427387904):aN prog 144 [ints a,ints b] fun r=>r=.bool (decide (a=b)):=by
 refine .bP func144 rfl rfl ?_
 refine .sr ?_
 refine .seq (.sr ?_)
 refine .cs ?_ ?_<;>intro fc
 ·try simp at fc
  refine .sr ?_
  refine .ret (aA ?_)
  have h:¬a=b:=by intro h;subst h;omega
  simp[h]
 try simp at fc
 have hlen:b.length=a.length:=by omega
 clear fc
 refine .skip (.seq (.sr ?_))
 refine .block ?_
 refine .ec (fun i:Nat=>([(0,ints a),(1,ints b),(12,.int .i64 a.length),(13,.int .i64 i)],ai.empty)) (fun i=>i≤a.length∧a.take i=b.take i) (fun i=>a.length - i) 0 (by simp) (.pure (by simp[*]) (by simp)) ?_
 rintro i ⟨hi,hr⟩
 simp only at hi hr ⊢
 refine .sr ?_
 refine .seq ?_
 refine .cs ?_ ?_<;>intro gR
 ·try simp at gR
  have eO:=gD i
  have qx:i<a.length:=by omega
  have BW:i<b.length:=by omega
  refine .skip (.seq (.block (.sr ?_)))
  refine .seq ?_
  refine .drawn (ms:=[0,0,3,7,0,0,48,112,255]) (W:=[]) (items:=Dz) rfl af af af ?_
  iterate 9 refine .rx ?_
  refine .done ?_
  refine .cs ?_ ?_<;>intro nv
  ·try simp at nv
   refine .sr ?_
   refine .ret (aA ?_)
   have h:¬a=b:=by intro h;subst h;simp at nv
   simp[h]
  try simp at nv
  refine .skip (.rn ?_)
  refine⟨i+1,⟨bC,?_⟩,bC,.pure (by simp[*]) (by simp)⟩
  rw[List.take_succ_eq_append_getElem qx,List.take_succ_eq_append_getElem BW,hr,nv]
 try simp at gR
 have:i=a.length:=by omega
 have gu:a=b:=by
  rw[this,List.take_length] at hr
  rw[hr];exact List.take_of_length_le (by omega)
 refine .exit (.sr ?_)
 refine .ret (aA ?_)
 simp[gu]
theorem PW (c:ao)(l:List Int)(j:Nat)(hc:c.c.length≤48)(hl:l.length<4611686018427387904):aN prog 96 [aD c,ints l,.int .i64 j] fun r=>r=.bool (hasB c j l):=by
 obtain⟨e0,er⟩:∃b,decide ((j:Int)≤(c.c.length:Int) - (l.length:Int))=b:=⟨_,rfl⟩
 have np:IntKind.i64.wrap ((c.c.length:Int) - (l.length:Int))=(c.c.length:Int) - (l.length:Int):=wrap64 (by omega) (by omega)
 obtain⟨S,hS⟩:∃S,(c.c.drop j).take l.length=S:=⟨_,rfl⟩
 obtain⟨jl,dY⟩:∃k,j+l.length=k:=⟨_,rfl⟩
 have K5:List.take l.length (List.drop j (c.c.map (PV.int .i64)))=S.map (PV.int .i64):=by rw[← hS,List.map_take,List.map_drop]
 have KY:S.length≤l.length:=by rw[← hS,List.length_take];omega
 have BX:hasB c j l=(decide (j+l.length≤c.c.length)&&decide (S=l)):=by unfold hasB;rw[hS]
 unfold aD cw
 refine .bP func96 rfl rfl ?_
 refine .sr ?_
 refine .seq (.au [0,1,2,3,4,5,6,7,8,9,10,11,12,13,14,15,16,17,18,19,20] rfl af (.rn pQ _ ?_))
 refine .split (t:=15) rfl (fun cb=>?_) (fun cb=>?_)
 ·try subst cb
  try simp at cb
  have XK:jl≤c.c.length:=by simp at er;omega
  have eO:IntKind.i64.wrap ((j:Int)+(l.length:Int))=(jl:Int):=by rw[wrap64 (by omega) (by omega)];omega
  have zT:j≤jl:=by omega
  have XM:jl - j=l.length:=by omega
  have ny:j≤c.c.length:=by omega
  rw[dY] at BX
  refine .rn [9,10,11,12,13,14,15,16,17] _ ?_
  refine .pc rfl rfl rfl rfl rfl call144 (Fq S l (by omega) hl) ?_
  refine .rn [19,20] [] ?_
  refine .done (.ret (aA ?_))
  rw[BX,decide_eq_true XK];rfl
 try subst cb
 try simp at cb
 refine .rn [9,10,11,12,13,14,15,16,17,18,19,20] [] ?_
 refine .done (.ret (aA ?_))
 rw[BX,decide_eq_false (by simp at er;omega)];rfl
theorem pn (c:ao)(l:List Int)(j:Nat)(hc:c.c.length≤48)(hl:l.length<4611686018427387904):aN prog 96 [aD c,eW l,.int .i64 j] fun r=>r=.bool (hasB c j l):=by
 unfold eW
 split
 ·rename_i h;subst h
  exact aN.XN (l:=[aD c]) (r:=[.int .i64 j]) (PW c [] j hc (by simp))
 exact PW c l j hc hl
theorem Fs (c:ao)(i j:Int):aN prog 79 [aD c,gd i j] fun r=>r=.func 138 [] [.vp [.int .i64 i,.int .i64 j],.vp (cw c)]:=by
 unfold aD cw gd
 refine .bP func79 rfl rfl ?_
 refine .sr ?_
 refine .sr ?_
 refine .ret (aA ?_)
 exact zk
theorem BY (c:ao)(i j:Int):aN prog 139 [aD c,gd i j] fun r=>r=.func 166 [] [.vp [.int .i64 i,.int .i64 j],.vp (cw c)]:=by
 unfold aD cw gd
 refine .bP func139 rfl rfl ?_
 refine .sr ?_
 refine .sr ?_
 refine .ret (aA ?_)
 exact zk
end
end Go.Am.Sl
end
