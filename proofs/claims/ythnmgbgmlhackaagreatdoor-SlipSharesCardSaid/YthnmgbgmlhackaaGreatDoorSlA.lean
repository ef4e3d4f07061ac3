/-
 What is used in the proof of a statement (part SlA); no condition.
-/
import Derived.Test.YthnmgbgmlhackaaGreatDoorSlZ
import Derived.Test.YthnmgbgmlhackaaGreatDoorVm2
import Derived.Test.YthnmgbgmlhackaaGreatDoorSlT
set_option linter.all false
set_option maxHeartbeats 40000000
set_option maxRecDepth 100000
section
namespace Go.Am.Sl
open Go Go.Am Go.Proofs Tryz
attribute [local simp] fx ie rS dS ig nD ah.back de gJ l8 bm Nat.testBit_eq_decide_div_mod_eq cF iX ny vO qE ja qF jw cW oX oV qB jb qC pI mW rR pH qD qv qq qw qt qu qz qA od fI kl fw qG oZ pK qH qI oc rP rQ iY nz gp fY gq lV hU pA oD oE jY qi bo pG fX bU bS l9 ah.get ah.alloc ah.put ah.drop ah.empty bh dm iF jP gI cB chunk List.range List.range.loop ma rT mX bz b9 PV.aB PV.aG PV.dy PV.fW jc jd pL PV.one PV.ids PV.cO gx beq_eq sJ tW
def jH {α:Type}(p:α→Bool):Nat→List α→Int
 |_,[] => -1
 |i,a::r=>if p a then i else jH p (i+1) r
theorem PJ {α:Type}(p:α→Bool)(l:List α)(i:Nat)(h:i<l.length):jH p i (l.drop i)=if p l[i] then (i:Int) else jH p (i+1) (l.drop (i+1)):=by
 rw[List.drop_eq_getElem_cons h];rfl
theorem PK {α:Type}(p:α→Bool):∀(l:List α) (i:Nat),(jH p i l = -1∧l.any p=false)∨((i:Int)≤jH p i l∧jH p i l<i+l.length∧l.any p=true)
 |[],i=>.inl ⟨rfl,rfl⟩
 |a::r,i=>by
  simp only[jH,List.any_cons,List.length_cons]
  cases h:p a with
  |true=>exact .inr ⟨by simp,by simp;omega,rfl⟩
  |false=>
   rcases PK p r (i+1) with⟨h1,h2⟩|⟨h1,h2,h3⟩
   ·exact .inl ⟨by simpa using h1,by simpa using h2⟩
   exact .inr ⟨by simp;omega,by simp;omega,by simpa using h3⟩
theorem PL {α:Type}(p:α→Bool)(l:List α)(i:Nat):decide (jH p i l≥0)=l.any p:=by
 rcases PK p l i with⟨h1,h2⟩|⟨h1,h2,h3⟩
 ·rw[h1,h2];decide
 rw[h3];simp;omega
def bs (m:jI):PV:=.agg [.int .i64 m.f,.int .i64 m.t,.int .i64 m.c]
def cb (g:mc):PV:=.agg [.int .i64 g.at_,ints g.ws]
def dh (c:aq):List PV:=[.int .i64 c.om,.int .i64 c.le,.int .i64 c.tw,.int .i64 c.gl,.int .i64 c.ad,.vec (c.mx.map bs),ints c.t,.vec (c.g.map cb),ints c.c]
@[reducible] def cQ (c:aq):List PV:=[.int .i64 c.om,.int .i64 c.le,.int .i64 c.tw,.int .i64 c.gl,.int .i64 c.ad,.vec (c.mx.map bs),ints c.t,.vec (c.g.map cb),ints c.c]
@[reducible] def bQ (c:aq)(x y z:PV):List PV:=[.int .i64 c.om,.int .i64 c.le,.int .i64 c.tw,.int .i64 c.gl,.int .i64 c.ad,.vec (c.mx.map bs),ints c.t,.vec (c.g.map cb),ints c.c,x,y,z]
def aK (c:aq):PV:=.agg (dh c)
def encS (s:ai):PV:=.agg [.int .i64 s.k,.int .i64 s.a,.int .i64 s.i,.int .i64 s.l,.int .i64 s.w]
theorem PM (m:jI):bs m=.agg [.int .i64 m.f,.int .i64 m.t,.int .i64 m.c]:=rfl
theorem PN (g:mc):cb g=.agg [.int .i64 g.at_,ints g.ws]:=rfl
@[simp] theorem z7l (m:jI):(bs m).cells=[.int .i64 m.f,.int .i64 m.t,.int .i64 m.c]:=rfl
@[simp] theorem z7m (g:mc):(cb g).cells=[.int .i64 g.at_,ints g.ws]:=rfl
@[simp] theorem z7n (s:ai):(encS s).cells=[.int .i64 s.k,.int .i64 s.a,.int .i64 s.i,.int .i64 s.l,.int .i64 s.w]:=rfl
@[simp] theorem xax (m:jI):(bs m).aB=true:=by simp[bs,PV.aB,PV.aG]
@[simp] theorem xav (g:mc):(cb g).aB=true:=by simp[cb,PV.aB,PV.aG]
@[simp] theorem xay (s:ai):(encS s).aB=true:=by simp[encS,PV.aB,PV.aG]
@[simp] theorem xau (c:aq):(aK c).aB=true:=by simp[aK,dh,PV.aB,PV.aG]
@[simp] theorem z6z (l:List jI):kj 3 (l.map bs)=true:=xj (f:=bs) (n:=3) (fun _=>rfl) l
@[simp] theorem z7c (l:List mc):kj 2 (l.map cb)=true:=xj (f:=cb) (n:=2) (fun _=>rfl) l
@[simp] theorem KJ (l:List ai):kj 5 (l.map encS)=true:=xj (f:=encS) (n:=5) (fun _=>rfl) l
@[simp] theorem z5k (l:List jI):kG (l.map bs)=true:=xm (f:=bs) (fun _=>by simp[PV.one]) l
@[simp] theorem z5s (l:List mc):kG (l.map cb)=true:=xm (f:=cb) (fun _=>by simp[PV.one]) l
@[simp] theorem z6s (l:List ai):kG (l.map encS)=true:=xm (f:=encS) (fun _=>by simp[PV.one]) l
theorem PO (l:List jI)(i:Nat)(h:i<l.length):me (l.take i) (l.drop i)=(mw (l.take i) l[i]&&me (l.take (i+1)) (l.drop (i+1))):=by
 rw[List.drop_eq_getElem_cons h,me,List.take_succ_eq_append_getElem h]
theorem Xq {α:Type}(p:α→Bool)(l:List α)(i:Nat)(h:i<l.length):(l.drop i).all p=(p l[i]&&(l.drop (i+1)).all p):=by
 rw[List.drop_eq_getElem_cons h];rfl
theorem Xr {α:Type}(p:α→Bool)(l:List α):(!(l.any fun a=>!p a))=l.all p:=by
 rw[← List.not_all_eq_any_not];simp
structure BC (c:aq):Prop where
  hm:c.mx.length<4611686018427387904
  ht:c.t.length<4611686018427387904
  hc:c.c.length<4611686018427387904
  hg:c.g.length<4611686018427387904
  hw:∀x∈c.g,x.ws.length<4611686018427387904
section
variable [bE]
theorem vg (n a b:Int):aM prog 85 [.int .i64 n,.int .i64 a,.int .i64 b] fun r=>r=.bool (decide (a≤n)&&decide (n≤b)):=by
 refine .bV func85 rfl rfl ?_
 refine .sr ?_
 refine .seq (.aD qJ rfl af (.rn dU _ ?_))
 refine .split (t:=10) rfl (fun gU=>?_) (fun gU=>?_)
 ·try rw[gU]
  try simp at gU
  refine .rn [4,5,6,7,8] [] ?_
  refine .done (.ret (aH ?_))
  simp<;>omega
 try rw[gU]
 try simp at gU
 refine .rn [4,5,6,7,8] [] ?_
 refine .done (.ret (aH ?_))
 simp<;>omega
theorem yC (n:Int):aM prog 116 [.int .i64 n] fun r=>r=.bool (eV n):=by
 refine .bV func116 rfl rfl ?_
 refine .sr ?_
 refine .seq (.aD [0,1,2] rfl af (.rn [0] _ ?_))
 refine .pc rfl rfl rfl rfl rfl call85 (vg n 1 9999) ?_
 refine .rn [2] [] ?_
 refine .done (.ret (aH ?_))
 exact zk
theorem sK (n:Int):aM prog 113 [.int .i64 n] fun r=>r=.bool (jQ n):=by
 refine .bV func113 rfl rfl ?_
 refine .sr ?_
 refine .seq (.aD [0,1,2] rfl af (.rn [0] _ ?_))
 refine .pc rfl rfl rfl rfl rfl call85 (vg n 1 100) ?_
 refine .rn [2] [] ?_
 refine .done (.ret (aH ?_))
 exact zk
theorem KK {α:Type}(l:List α)(enc:α→PV)(p:α→Bool)(f:FuncId)(xs ys:List PV)(hl:l.length<4611686018427387904)(he:∀a,(enc a).cells=[enc a])(hx:PV.aG xs=true)(hy:PV.aG ys=true)(hF:∀a,(enc a).aB=true)(dM:∀cs w,(callFunc f cs).run prog w=.ok (.enter f cs) w)(hp:∀a∈l,aM prog f (xs++[enc a]++ys) fun r=>r=.bool (p a)):aM prog 168 [.vec (l.map enc),.func f xs ys] fun r=>r=.int .i64 (jH p 0 l):=by
 refine .bV func168 rfl rfl ?_
 refine .sr ?_
 refine .seq (.sr ?_)
 refine .block ?_
 refine .dF (fun s:Nat=>([(0,.vec (l.map enc)),(1,.func f xs ys),(7,.int .i64 l.length),(8,.int .i64 s)],ah.empty)) (fun s=>s≤l.length∧jH p s (l.drop s)=jH p 0 l) (fun s=>l.length - s) 0 ⟨by simp,by simp⟩ (.pure (by simp[*]) (by simp)) ?_
 rintro i ⟨hi,hr⟩
 simp only at hi hr ⊢
 refine .sr ?_
 refine .seq ?_
 refine .cs ?_ ?_<;>intro c9
 ·try simp at c9
  have eP:=fy i
  rw[PJ p l i c9] at hr
  have he:=he l[i]
  have hp:=hp l[i] (List.getElem_mem c9)
  refine .skip (.seq (.block (.sr ?_)))
  refine .seq (.aD jR rfl af (.rn gy _ ?_))
  refine .step rfl rfl (.pure rfl rfl rfl dM (by decide) (hp) (by first|rfl|simp[*]) ?_)
  rintro _ rfl
  refine .done ?_
  refine .cs ?_ ?_<;>intro sL
  ·try simp at sL
   refine .sr ?_
   refine .ret (aH ?_)
   rw[← hr,if_pos sL]
  try simp at sL
  refine .skip (.rn ?_)
  refine⟨i+1,⟨bt,?_⟩,bt,.pure (by simp[*]) (by simp)⟩
  rw[← hr,if_neg (by simp[sL])]
 try simp at c9
 have:i=l.length:=by omega
 refine .exit (.sr ?_)
 refine .ret (aH ?_)
 rw[← hr,this,List.drop_length];rfl
theorem KL {α:Type}(l:List α)(enc:α→PV)(p:α→Bool)(f:FuncId)(xs ys:List PV)(hl:l.length<4611686018427387904)(he:∀a,(enc a).cells=[enc a])(hx:PV.aG xs=true)(hy:PV.aG ys=true)(hF:∀a,(enc a).aB=true)(dM:∀cs w,(callFunc f cs).run prog w=.ok (.enter f cs) w)(hp:∀a∈l,aM prog f (xs++[enc a]++ys) fun r=>r=.bool (p a)):aM prog 149 [.vec (l.map enc),.func f xs ys] fun r=>r=.bool (l.any p):=by
 refine .bV func149 rfl rfl ?_
 refine .sr ?_
 refine .seq (.aD gy rfl af (.rn [0,1] _ ?_))
 refine .pc rfl rfl rfl rfl rfl call168 (KK l enc p f xs ys hl he hx hy hF dM hp) ?_
 refine .rn [3,4] [] ?_
 refine .done (.ret (aH ?_))
 rw[← PL _ l 0]
theorem KM (n:Int):aM prog 150 [.int .i64 n] fun r=>r=.bool (!eV n):=by
 refine .bV func150 rfl rfl ?_
 refine .sr ?_
 refine .seq (.aD dU rfl af (.rn [0] _ ?_))
 refine .pc rfl rfl rfl rfl rfl call116 (yC n) ?_
 refine .rn [2,3] [] ?_
 refine .done (.ret (aH ?_))
 exact zk
theorem BK (l:List Int)(hl:l.length<4611686018427387904):aM prog 105 [ints l] fun r=>r=.bool (l.all eV):=by
 refine .bV func105 rfl rfl ?_
 refine .sr ?_
 refine .seq (.aD dU rfl af (.rn [0] _ ?_))
 refine .pc rfl rfl rfl rfl rfl call149 (KL l (PV.int .i64) (fun n=>!eV n) 150 [] [] hl (fun _=>rfl) rfl rfl (fun _=>rfl) call150 (fun n _=>KM n)) ?_
 refine .rn [2,3] [] ?_
 refine .done (.ret (aH ?_))
 rw[← Xr]
theorem KN {α:Type}(l:List α)(enc:α→PV)(p:α→Bool)(f:FuncId)(xs ys:List PV)(hl:l.length<4611686018427387904)(hz:∀a,(enc a).cells.length=3)(he:∀a,PV.agg (List.take 3 (enc a).cells)=enc a)(hx:PV.aG xs=true)(hy:PV.aG ys=true)(hF:∀a,(enc a).aB=true)(dM:∀cs w,(callFunc f cs).run prog w=.ok (.enter f cs) w)(hp:∀a∈l,aM prog f (xs++[enc a]++ys) fun r=>r=.bool (p a)):aM prog 153 [.vec (l.map enc),.func f xs ys] fun r=>r=.int .i64 (jH p 0 l):=by
 refine .bV func153 rfl rfl ?_
 refine .sr ?_
 refine .seq (.sr ?_)
 refine .block ?_
 refine .dF (fun s:Nat=>([(0,.vec (l.map enc)),(1,.func f xs ys),(7,.int .i64 l.length),(8,.int .i64 s)],ah.empty)) (fun s=>s≤l.length∧jH p s (l.drop s)=jH p 0 l) (fun s=>l.length - s) 0 ⟨by simp,by simp⟩ (.pure (by simp[*]) (by simp)) ?_
 rintro i ⟨hi,hr⟩
 simp only at hi hr ⊢
 refine .sr ?_
 refine .seq ?_
 refine .cs ?_ ?_<;>intro c9
 ·try simp at c9
  have eP:=fy i
  rw[PJ p l i c9] at hr
  have he:=he l[i]
  have hz:=hz l[i]
  have hp:=hp l[i] (List.getElem_mem c9)
  refine .skip (.seq (.block (.sr ?_)))
  refine .seq (.aD jR rfl af (.rn gy _ ?_))
  refine .step rfl rfl (.pure rfl rfl rfl dM (by decide) (hp) (by first|rfl|simp[*]) ?_)
  rintro _ rfl
  refine .done ?_
  refine .cs ?_ ?_<;>intro sL
  ·try simp at sL
   refine .sr ?_
   refine .ret (aH ?_)
   rw[← hr,if_pos sL]
  try simp at sL
  refine .skip (.rn ?_)
  refine⟨i+1,⟨bt,?_⟩,bt,.pure (by simp[*]) (by simp)⟩
  rw[← hr,if_neg (by simp[sL])]
 try simp at c9
 have:i=l.length:=by omega
 refine .exit (.sr ?_)
 refine .ret (aH ?_)
 rw[← hr,this,List.drop_length];rfl
theorem KO {α:Type}(l:List α)(enc:α→PV)(p:α→Bool)(f:FuncId)(xs ys:List PV)(hl:l.length<4611686018427387904)(hz:∀a,(enc a).cells.length=3)(he:∀a,PV.agg (List.take 3 (enc a).cells)=enc a)(hx:PV.aG xs=true)(hy:PV.aG ys=true)(hF:∀a,(enc a).aB=true)(dM:∀cs w,(callFunc f cs).run prog w=.ok (.enter f cs) w)(hp:∀a∈l,aM prog f (xs++[enc a]++ys) fun r=>r=.bool (p a)):aM prog 114 [.vec (l.map enc),.func f xs ys] fun r=>r=.bool (l.any p):=by
 refine .bV func114 rfl rfl ?_
 refine .sr ?_
 refine .seq (.aD gy rfl af (.rn [0,1] _ ?_))
 refine .pc rfl rfl rfl rfl rfl call153 (KN l enc p f xs ys hl hz he hx hy hF dM hp) ?_
 refine .rn [3,4] [] ?_
 refine .done (.ret (aH ?_))
 rw[← PL _ l 0]
theorem KP (y x:jI):aM prog 115 [bs y,.vp [.int .i64 x.f,.int .i64 x.t,.int .i64 x.c]] fun r=>r=.bool (decide (y.f=x.f)&&decide (y.t=x.t)):=by
 unfold bs
 refine .bV func115 rfl rfl ?_
 refine .sr ?_
 refine .seq (.aD j5 rfl af (.rn jR _ ?_))
 refine .split (t:=9) rfl (fun c9=>?_) (fun c9=>?_)
 ·try rw[c9]
  try simp at c9
  refine .rn [6,7,8,9,10,11,12] [] ?_
  refine .done (.ret (aH ?_))
  simp_all<;>rfl
 try rw[c9]
 try simp at c9
 refine .rn [6,7,8,9,10,11,12] [] ?_
 refine .done (.ret (aH ?_))
 simp_all<;>rfl
end
def yD (c:aq):Bool:=jQ c.om&&jQ c.le&&jQ c.tw&&jQ c.gl&&jQ c.ad
theorem Xs {c:aq}(h:yD c=false):bP c=1:=by unfold yD at h;unfold bP pM;rw[h];rfl
theorem Xt {c:aq}(h:yD c=true)(hl:20<c.mx.length):bP c=2:=by unfold yD at h;unfold bP pM;rw[h,if_pos rfl,if_pos hl];rfl
theorem Xu {c:aq}(h:yD c=true)(hl:¬20<c.mx.length)(hm:me [] c.mx=false):bP c=1:=by unfold yD at h;unfold bP pM;rw[h,if_pos rfl,if_neg hl,hm];rfl
theorem Xv {c:aq}(h:yD c=true)(hl:¬20<c.mx.length)(hm:me [] c.mx=true):bP c=if 48<c.t.length∨48<c.c.length∨6<c.g.length then 2 else if (c.t.all eV&&c.c.all eV&&c.g.all (j6 c.t.length))=true then 0 else 1:=by
 unfold yD at h;unfold bP pM;rw[h,if_pos rfl,if_neg hl,hm];simp
variable [bE] in
theorem yE (c:aq)(h:BC c):aM prog 55 [aK c] fun r=>r=.int .i64 (bP c):=by
 obtain⟨hm,ht,ep,hg,hw⟩:=h
 have e1:=@Xs c
 have e2:=@Xt c
 have e3:=@Xu c
 have e4:=@Xv c
 unfold yD at e1 e2 e3 e4
 have q1:=sK c.om
 have q2:=sK c.le
 have q3:=sK c.tw
 have q4:=sK c.gl
 have q5:=sK c.ad
 generalize jQ c.om=b1 at q1 e1 e2 e3 e4
 generalize jQ c.le=b2 at q2 e1 e2 e3 e4
 generalize jQ c.tw=b3 at q3 e1 e2 e3 e4
 generalize jQ c.gl=b4 at q4 e1 e2 e3 e4
 generalize jQ c.ad=b5 at q5 e1 e2 e3 e4
 unfold aK dh
 refine .bV func55 rfl rfl ?_
 refine .sr ?_
 refine .sr ?_
 refine .seq (.seq (.aD E9 rfl af (.rn [0,1] _ ?_)))
 refine .pc rfl rfl rfl rfl rfl call113 (q1) ?_
 refine .rn [3,4] _ ?_
 refine .split (t:=15) rfl (fun cq=>?_) (fun cq=>?_)
 ·first|cases cq|(have h:=km cq;cases h)|(have h:=ko cq;cases h)|try rw[cq]
  try simp at cq
  refine .rn [5,6,7,8,9,10,11,12,13,14,15,16,17,18,19,20,21,22,23,24,25,26,27] [] ?_
  refine .done (.eK rfl (.sr ?_))
  refine .ret (aH ?_)
  rw[e1 (by simp)]
 first|cases cq|(have h:=km cq;cases h)|(have h:=ko cq;cases h)|try rw[cq]
 try simp at cq
 refine .rn [5,6] _ ?_
 refine .pc rfl rfl rfl rfl rfl call113 (q2) ?_
 refine .rn [8,9,10] _ ?_
 refine .split (t:=21) rfl (fun dG=>?_) (fun dG=>?_)
 ·first|cases dG|(have h:=km dG;cases h)|(have h:=ko dG;cases h)|try rw[dG]
  try simp at dG
  refine .rn [11,12,13,14,15,16,17,18,19,20,21,22,23,24,25,26,27] [] ?_
  refine .done (.eK rfl (.sr ?_))
  refine .ret (aH ?_)
  rw[e1 (by simp)]
 first|cases dG|(have h:=km dG;cases h)|(have h:=ko dG;cases h)|try rw[dG]
 try simp at dG
 refine .rn [11,12] _ ?_
 refine .pc rfl rfl rfl rfl rfl call113 (q3) ?_
 refine .rn [14,15,16] _ ?_
 refine .split (t:=27) rfl (fun eZ=>?_) (fun eZ=>?_)
 ·first|cases eZ|(have h:=km eZ;cases h)|(have h:=ko eZ;cases h)|try rw[eZ]
  try simp at eZ
  refine .rn [17,18,19,20,21,22,23,24,25,26,27] [] ?_
  refine .done (.eK rfl (.sr ?_))
  refine .ret (aH ?_)
  rw[e1 (by simp)]
 first|cases eZ|(have h:=km eZ;cases h)|(have h:=ko eZ;cases h)|try rw[eZ]
 try simp at eZ
 refine .rn [17,18] _ ?_
 refine .pc rfl rfl rfl rfl rfl call113 (q4) ?_
 refine .rn [20,21,22] _ ?_
 refine .split (t:=33) rfl (fun vi=>?_) (fun vi=>?_)
 ·first|cases vi|(have h:=km vi;cases h)|(have h:=ko vi;cases h)|try rw[vi]
  try simp at vi
  refine .rn [23,24,25,26,27] [] ?_
  refine .done (.eK rfl (.sr ?_))
  refine .ret (aH ?_)
  rw[e1 (by simp)]
 first|cases vi|(have h:=km vi;cases h)|(have h:=ko vi;cases h)|try rw[vi]
 try simp at vi
 refine .rn [23,24] _ ?_
 refine .pc rfl rfl rfl rfl rfl call113 (q5) ?_
 refine .rn [26,27] [] ?_
 refine .done ?_
 refine .cs ?_ ?_<;>intro mY
 ·try simp at mY
  refine .sr ?_
  refine .ret (aH ?_)
  rw[e1 (by simp[mY])]
 try simp at mY
 clear e1
 subst mY
 refine .skip (.seq (.sr ?_))
 refine .cs ?_ ?_<;>intro PQ
 ·try simp at PQ
  refine .sr ?_
  refine .ret (aH ?_)
  rw[e2 rfl (by omega)]
 try simp at PQ
 have e3:=e3 rfl (by omega)
 have e4:=e4 rfl (by omega)
 clear e2
 refine .skip (.seq (.sr ?_))
 refine .block ?_
 refine .dF (fun k:Nat=>([(1,.ptr 0 0),(3,.ptr 1 0),(44,.vec (c.mx.map bs)),(45,.int .i64 c.mx.length),(46,.int .i64 k)],⟨2,[(1,.box [.int .i64 c.om,.int .i64 c.le,.int .i64 c.tw,.int .i64 c.gl,.int .i64 c.ad,.vec (c.mx.map bs)]),(0,.box (cQ c))]⟩)) (fun k=>k≤c.mx.length∧me (c.mx.take k) (c.mx.drop k)=me [] c.mx) (fun k=>c.mx.length - k) 0 ⟨by simp,by simp⟩ bx ?_
 rintro k ⟨hk,hr⟩
 simp only at hk hr ⊢
 refine .sr ?_
 refine .seq ?_
 refine .cs ?_ ?_<;>intro tX
 ·try simp at tX
  have eP:=fy k
  rw[PO _ _ tX] at hr
  have hE:=PM c.mx[k]
  obtain⟨x,hx⟩:∃x,c.mx[k]=x:=⟨_,rfl⟩
  rw[hx] at hr hE
  have hS:List.take k (c.mx.map bs)=(c.mx.take k).map bs:=List.map_take.symm
  have KQ:(c.mx.take k).length=k:=by rw[List.length_take];omega
  have iU:mw (c.mx.take k) x=true→me (c.mx.take (k+1)) (c.mx.drop (k+1))=me [] c.mx:=fun h=>by rw[← hr,h];rfl
  have oJ:mw (c.mx.take k) x=false→me [] c.mx=false:=fun h=>by rw[← hr,h];rfl
  clear hr
  obtain⟨S,PR⟩:∃S,c.mx.take k=S:=⟨_,rfl⟩
  rw[PR] at hS KQ oJ iU
  clear PR
  have Fa:=KO S bs (fun y=>decide (y.f=x.f)&&decide (y.t=x.t)) 115 [] [.vp [.int .i64 x.f,.int .i64 x.t,.int .i64 x.c]] (by omega) (fun _=>rfl) (fun _=>rfl) rfl rfl (fun _=>by simp) call115 (fun y _=>KP y x)
  have iI:mw S x=(eV x.f&&eV x.t&&!decide (x.f=x.t)&&jQ x.c&&!(S.any fun y=>decide (y.f=x.f)&&decide (y.t=x.t))):=rfl
  have w1:=yC x.f
  have w2:=yC x.t
  have w3:=sK x.c
  generalize (S.any fun y=>decide (y.f=x.f)&&decide (y.t=x.t))=av at Fa iI
  generalize eV x.f=v1 at w1 iI
  generalize eV x.t=v2 at w2 iI
  generalize jQ x.c=v3 at w3 iI
  have fU:mw S x=false→bP c=1:=fun h=>e3 (oJ h)
  refine .skip (.seq (.block (.sr ?_)))
  refine .seq (.aD iJ rfl af (.rn gy _ ?_))
  refine .step rfl rfl (.borrow rfl rfl rfl call114 (by decide) (by first|(simp<;>rfl)|(simp[*]<;>rfl)|(simp[*];done)) (Fa) (by rintro _ rfl<;>first|(simp;done)|rfl) ?_)
  rintro _ rfl
  refine .rn [6] [] ?_
  refine .done (.seq (.aD [0,1,2,3,4,5,6,7,8,9,10,11,12,13,14,15,16,17,18,19,20,21,22,23,24,25] rfl af ?_))
  refine .rn [0,1] _ ?_
  refine .pc rfl rfl rfl rfl rfl call116 (w1) ?_
  refine .rn [3,4] _ ?_
  refine .split (t:=61) rfl (fun rU=>?_) (fun rU=>?_)
  ·first|cases rU|(have h:=km rU;cases h)|(have h:=ko rU;cases h)|try rw[rU]
   try simp at rU
   refine .rn [5,6,7,8,9,10,11,12,13,14,15,16,17,18,19,20,21,22,23,24,25] [] ?_
   refine .done (.eK rfl (.sr ?_))
   refine .ret (aH ?_)
   rw[fU (by rw[iI];simp)]
  first|cases rU|(have h:=km rU;cases h)|(have h:=ko rU;cases h)|try rw[rU]
  try simp at rU
  refine .rn [5,6] _ ?_
  refine .pc rfl rfl rfl rfl rfl call116 (w2) ?_
  refine .rn [8,9,10] _ ?_
  refine .split (t:=67) rfl (fun vj=>?_) (fun vj=>?_)
  ·first|cases vj|(have h:=km vj;cases h)|(have h:=ko vj;cases h)|try rw[vj]
   try simp at vj
   refine .rn [11,12,13,14,15,16,17,18,19,20,21,22,23,24,25] [] ?_
   refine .done (.eK rfl (.sr ?_))
   refine .ret (aH ?_)
   rw[fU (by rw[iI];simp)]
  first|cases vj|(have h:=km vj;cases h)|(have h:=ko vj;cases h)|try rw[vj]
  try simp at vj
  refine .rn [11,12,13,14,15,16,17] _ ?_
  refine .split (t:=74) rfl (fun kR=>?_) (fun kR=>?_)
  ·first|cases kR|(have h:=km kR;cases h)|(have h:=ko kR;cases h)|try rw[kR]
   try simp at kR
   refine .rn [18,19,20,21,22,23,24,25] [] ?_
   refine .done (.eK rfl (.sr ?_))
   refine .ret (aH ?_)
   rw[fU (by rw[iI];simp[kR])]
  first|cases kR|(have h:=km kR;cases h)|(have h:=ko kR;cases h)|try rw[kR]
  try simp at kR
  refine .rn [18,19] _ ?_
  refine .pc rfl rfl rfl rfl rfl call113 (w3) ?_
  refine .rn [21,22,23] _ ?_
  refine .split (t:=80) rfl (fun vk=>?_) (fun vk=>?_)
  ·first|cases vk|(have h:=km vk;cases h)|(have h:=ko vk;cases h)|try rw[vk]
   try simp at vk
   refine .rn [24,25] [] ?_
   refine .done (.eK rfl (.sr ?_))
   refine .ret (aH ?_)
   rw[fU (by rw[iI];simp)]
  first|cases vk|(have h:=km vk;cases h)|(have h:=ko vk;cases h)|try rw[vk]
  try simp at vk
  refine .rn [24,25] [] ?_
  refine .done ?_
  refine .cs ?_ ?_<;>intro tY
  ·try simp at tY
   refine .sr ?_
   refine .ret (aH ?_)
   rw[fU (by rw[iI];simp[tY])]
  try simp at tY
  refine .skip (.rn ?_)
  refine⟨k+1,⟨bt,?_⟩,bt,bx⟩
  exact iU (by rw[iI];simp[kR,tY])
 try simp at tX
 have fD:k=c.mx.length:=by omega
 subst fD
 rw[List.take_length,List.drop_length] at hr
 have e4:=e4 hr.symm
 clear e3 hr
 refine .exit (.seq (.seq (.aD Fb rfl af (.rn gy _ ?_))))
 refine .split (t:=88) rfl (fun vl=>?_) (fun vl=>?_)
 ·first|cases vl|(have h:=km vl;cases h)|(have h:=ko vl;cases h)|try rw[vl]
  try simp at vl
  refine .rn [5,6,7,8,9,10,11,12,13,14,15] [] ?_
  refine .done (.eK rfl (.sr ?_))
  refine .ret (aH ?_)
  rw[e4,if_pos (by omega)]
 first|cases vl|(have h:=km vl;cases h)|(have h:=ko vl;cases h)|try rw[vl]
 try simp at vl
 refine .rn [5,6,7,8,9,10] _ ?_
 refine .split (t:=94) rfl (fun o0=>?_) (fun o0=>?_)
 ·first|cases o0|(have h:=km o0;cases h)|(have h:=ko o0;cases h)|try rw[o0]
  try simp at o0
  refine .rn [11,12,13,14,15] [] ?_
  refine .done (.eK rfl (.sr ?_))
  refine .ret (aH ?_)
  rw[e4,if_pos (by omega)]
 first|cases o0|(have h:=km o0;cases h)|(have h:=ko o0;cases h)|try rw[o0]
 try simp at o0
 refine .rn [11,12,13,14,15] [] ?_
 refine .done ?_
 refine .cs ?_ ?_<;>intro BL
 ·try simp at BL
  refine .sr ?_
  refine .ret (aH ?_)
  rw[e4,if_pos (by omega)]
 try simp at BL
 rw[if_neg (by omega)] at e4
 have w1:=BK c.t ht
 have w2:=BK c.c ep
 generalize c.t.all eV=v1 at w1 e4
 generalize c.c.all eV=v2 at w2 e4
 refine .skip (.seq (.seq (.aD ij rfl af (.rn [0,1] _ ?_))))
 refine .pc rfl rfl rfl rfl rfl call105 (w1) ?_
 refine .rn [3,4] _ ?_
 refine .split (t:=104) rfl (fun lz=>?_) (fun lz=>?_)
 ·first|cases lz|(have h:=km lz;cases h)|(have h:=ko lz;cases h)|try rw[lz]
  try simp at lz
  refine .rn [5,6,7,8,9] [] ?_
  refine .done (.eK rfl (.sr ?_))
  refine .ret (aH ?_)
  rw[e4];simp
 first|cases lz|(have h:=km lz;cases h)|(have h:=ko lz;cases h)|try rw[lz]
 try simp at lz
 refine .rn [5,6] _ ?_
 refine .pc rfl rfl rfl rfl rfl call105 (w2) ?_
 refine .rn [8,9] [] ?_
 refine .done ?_
 refine .cs ?_ ?_<;>intro qK
 ·try simp at qK
  refine .sr ?_
  refine .ret (aH ?_)
  rw[e4];simp[qK]
 try simp at qK
 subst qK
 refine .skip (.seq (.sr ?_))
 refine .block ?_
 refine .dF (fun k:Nat=>([(1,.ptr 0 0),(111,.vec (c.g.map cb)),(112,.int .i64 c.g.length),(113,.int .i64 k)],⟨1,[(0,.box (cQ c))]⟩)) (fun k=>k≤c.g.length∧(c.g.drop k).all (j6 c.t.length)=c.g.all (j6 c.t.length)) (fun k=>c.g.length - k) 0 ⟨by simp,by simp⟩ bx ?_
 rintro k ⟨hk,hr⟩
 simp only at hk hr ⊢
 refine .sr ?_
 refine .seq ?_
 refine .cs ?_ ?_<;>intro my
 ·try simp at my
  have eP:=fy k
  rw[Xq _ _ _ my] at hr
  have hE:=PN c.g[k]
  have yF:=hw c.g[k] (List.getElem_mem my)
  obtain⟨x,hx⟩:∃x,c.g[k]=x:=⟨_,rfl⟩
  rw[hx] at hr hE yF
  have Ag:j6 c.t.length x=((decide (0≤x.at_)&&decide (x.at_≤(c.t.length:Int)))&&(decide (1≤x.ws.length)&&decide (x.ws.length≤6))&&x.ws.all eV):=rfl
  have z1:=vg x.at_ 0 (c.t.length:Int)
  have z2:=vg (x.ws.length:Int) 1 6
  have z3:=BK x.ws yF
  have Xw:(decide (1≤x.ws.length)&&decide (x.ws.length≤6))=(decide (1≤(x.ws.length:Int))&&decide ((x.ws.length:Int)≤6)):=by rw[Bool.eq_iff_iff];simp;omega
  rw[Xw] at Ag
  generalize (decide (0≤x.at_)&&decide (x.at_≤(c.t.length:Int)))=a1 at z1 Ag
  generalize (decide (1≤(x.ws.length:Int))&&decide ((x.ws.length:Int)≤6))=a2 at z2 Ag
  generalize x.ws.all eV=a3 at z3 Ag
  have fU:j6 c.t.length x=false→bP c=1:=fun h=>by rw[e4,← hr,h];simp
  refine .skip (.seq (.block (.sr ?_)))
  refine .seq (.aD [0,1,2,3,4,5,6,7,8,9,10,11,12,13,14,15,16,17,18,19] rfl af (.rn gy _ ?_))
  refine .pc rfl rfl rfl rfl rfl call85 (z1) ?_
  refine .rn [6,7] _ ?_
  refine .split (t:=124) rfl (fun lA=>?_) (fun lA=>?_)
  ·first|cases lA|(have h:=km lA;cases h)|(have h:=ko lA;cases h)|try rw[lA]
   try simp at lA
   refine .rn [8,9,10,11,12,13,14,15,16,17,18,19] [] ?_
   refine .done (.eK rfl (.sr ?_))
   refine .ret (aH ?_)
   rw[fU (by rw[Ag];simp)]
  first|cases lA|(have h:=km lA;cases h)|(have h:=ko lA;cases h)|try rw[lA]
  try simp at lA
  refine .rn [8,9,10] _ ?_
  refine .pc rfl rfl rfl rfl rfl call85 (z2) ?_
  refine .rn [12,13,14] _ ?_
  refine .split (t:=131) rfl (fun lB=>?_) (fun lB=>?_)
  ·first|cases lB|(have h:=km lB;cases h)|(have h:=ko lB;cases h)|try rw[lB]
   try simp at lB
   refine .rn [15,16,17,18,19] [] ?_
   refine .done (.eK rfl (.sr ?_))
   refine .ret (aH ?_)
   rw[fU (by rw[Ag];simp)]
  first|cases lB|(have h:=km lB;cases h)|(have h:=ko lB;cases h)|try rw[lB]
  try simp at lB
  refine .rn [15,16] _ ?_
  refine .pc rfl rfl rfl rfl rfl call105 (z3) ?_
  refine .rn [18,19] [] ?_
  refine .done ?_
  refine .cs ?_ ?_<;>intro yG
  ·try simp at yG
   refine .sr ?_
   refine .ret (aH ?_)
   rw[fU (by rw[Ag];simp[yG])]
  try simp at yG
  refine .skip (.rn ?_)
  refine⟨k+1,⟨bt,?_⟩,bt,bx⟩
  rw[← hr,Ag];simp[yG]
 try simp at my
 have fD:k=c.g.length:=by omega
 subst fD
 rw[List.drop_length] at hr
 rw[← hr] at e4
 refine .exit (.sr ?_)
 refine .ret (aH ?_)
 rw[e4];simp
def ik (i j:Int):PV:=.agg [.int .i64 i,.int .i64 j]
def eW (w:List Int):PV:=if w=[] then .aF else ints w
theorem yH:eW []=.aF:=rfl
theorem PS (a:Int)(r:List Int):eW (a::r)=ints (a::r):=rfl
theorem Fc {w:List Int}(h:w≠[]):eW w=ints w:=if_neg h
@[simp] theorem vm (w:List Int):(eW w).cells=[eW w]:=by unfold eW;split<;>rfl
@[simp] theorem tZ (w:List Int):(eW w).aB=true:=by unfold eW;split<;>simp[PV.aB]
@[simp] theorem KR (vh:ah)(w:List Int):bz vh (eW w)=some (eW w):=KS vh (tZ w)
def Fe (c:aq)(s:ai):PV:=match aR c s with
 |some (n,i',w)=>.bp [.int .i64 n,eW w,ik i' (IntKind.i64.wrap (s.i+w.length)),.bool true]
 |none=>.bp [.int .i64 0,.aF,ik 0 0,.bool false]
def JP (c:aq)(s:ai)(n i:Int)(b:Bool)(w:List Int)(l' w':Int):Prop:=
 (b=true→l'=s.l→w'=s.w→∃i':Nat,i=i'∧aR c s=some (n,i',w))∧((b=false∨l'≠s.l∨w'≠s.w)→aR c s=none)
theorem PT {c:aq}{s:ai}(h:¬(0≤s.a∧s.a≤(c.t.length:Int)∧0≤s.i)):aR c s=none:=if_neg h
def nE (c:aq)(s:ai)(k:Nat):Option Int:=if s.a.toNat<c.t.length then nF (c.mx.take k) (c.t.getD s.a.toNat 0) s.w else none
def oW:Option Int→Int→List Int
 |none,_=>[]
 |some _,w=>[w]
theorem J1 {c:aq}{s:ai}(hk:bP c=0)(h:0≤s.a∧s.a≤(c.t.length:Int)∧0≤s.i)(h1:s.k=1):JP c s ((nE c s c.mx.length).getD 0) (if (nE c s c.mx.length).isSome then s.a+1 else s.a) (nE c s c.mx.length).isSome (oW (nE c s c.mx.length) s.w) 0 s.w:=by
 have e:nE c s c.mx.length=if s.a.toNat<c.t.length then ec c.mx (c.t.getD s.a.toNat 0) s.w else none:=by unfold nE;rw[List.take_length,Xx hk]
 have hd:aR c s=if s.a.toNat<c.t.length∧s.l=0 then (ec c.mx (c.t.getD s.a.toNat 0) s.w).map fun n=>(n,s.a.toNat+1,[s.w]) else none:=by
  unfold aR;rw[if_pos h];simp only[h1,if_true]
 rw[e]
 by_cases ha:s.a.toNat<c.t.length
 ·rw[if_pos ha]
  cases hm:ec c.mx (c.t.getD s.a.toNat 0) s.w with
  |none=>exact⟨fun h=>(by cases h),fun _=>by rw[hd,hm];simp⟩
  |some n=>
   refine⟨fun _ hl _=>⟨s.a.toNat+1,by simp;omega,by rw[hd,if_pos ⟨ha,hl.symm⟩,hm];rfl⟩,?_⟩
   rintro (h|h|h)
   ·cases h
   ·rw[hd,if_neg (fun hh=>h hh.2.symm)]
   exact absurd rfl h
 rw[if_neg ha]
 exact⟨fun h=>(by cases h),fun _=>by rw[hd,if_neg fun hh=>ha hh.1]⟩
theorem J2 {c:aq}{s:ai}(h:0≤s.a∧s.a≤(c.t.length:Int)∧0≤s.i)(h1:s.k=2):JP c s c.om (s.a+1) (decide (s.a<(c.t.length:Int))) [] 0 0:=by
 have hd:aR c s=if s.a.toNat<c.t.length∧s.l=0∧s.w=0 then some (c.om,s.a.toNat+1,[]) else none:=by
  unfold aR;rw[if_pos h];simp[h1]
 refine⟨fun hb hl hw=>⟨s.a.toNat+1,by omega,by rw[hd,if_pos ⟨by simp at hb;omega,hl.symm,hw.symm⟩]⟩,fun hh=>by rw[hd,if_neg];rintro⟨a1,a2,a3⟩;rcases hh with hh|hh|hh<;>simp_all<;>omega⟩
theorem J3 {c:aq}{s:ai}{b:Bool}{i:Int}(h:0≤s.a∧s.a≤(c.t.length:Int)∧0≤s.i)(h1:s.k=3)(hi:b=true→i=s.a+s.l)(hb:b=true↔1≤s.a∧1≤s.l∧s.l≤(c.t.length:Int) - s.a∧c.t.getD (s.a.toNat+s.l.toNat - 1) 0=c.t.getD (s.a.toNat - 1) 0):JP c s c.le i b [] s.l 0:=by
 have hd:aR c s=if 1≤s.a.toNat∧1≤s.l∧s.l≤(c.t.length:Int) - s.a∧s.w=0∧c.t.getD (s.a.toNat+s.l.toNat - 1) 0=c.t.getD (s.a.toNat - 1) 0 then some (c.le,s.a.toNat+s.l.toNat,[]) else none:=by
  unfold aR;rw[if_pos h];simp[h1]
 refine⟨fun xo _ hw=>?_,fun hh=>?_⟩
 ·obtain⟨a1,a2,a3,a4⟩:=hb.1 xo
  exact⟨s.a.toNat+s.l.toNat,by rw[hi xo];omega,by rw[hd,if_pos ⟨by omega,a2,a3,hw.symm,a4⟩]⟩
 rw[hd,if_neg]
 rintro⟨a1,a2,a3,a4,a5⟩
 have:=hb.2 ⟨by omega,a2,a3,a5⟩
 rcases hh with hh|hh|hh
 ·rw[this] at hh;cases hh
 ·exact hh rfl
 exact hh a4.symm
theorem J4 {c:aq}{s:ai}{b:Bool}{w:List Int}(h:0≤s.a∧s.a≤(c.t.length:Int)∧0≤s.i)(h1:s.k=4)(hb:b=true↔1≤s.l∧s.l≤s.a)(hw:b=true→w=(c.t.drop (s.a.toNat - s.l.toNat)).take s.l.toNat):JP c s c.tw s.a b w s.l 0:=by
 have hd:aR c s=if 1≤s.l∧s.l≤s.a∧s.w=0 then some (c.tw,s.a.toNat,(c.t.drop (s.a.toNat - s.l.toNat)).take s.l.toNat) else none:=by
  unfold aR;rw[if_pos h];simp[h1]
 refine⟨fun xo _ yv=>?_,fun hh=>?_⟩
 ·obtain⟨a1,a2⟩:=hb.1 xo
  exact⟨s.a.toNat,by omega,by rw[hd,if_pos ⟨a1,a2,yv.symm⟩,hw xo]⟩
 rw[hd,if_neg]
 rintro⟨a1,a2,a3⟩
 have:=hb.2 ⟨a1,a2⟩
 rcases hh with hh|hh|hh
 ·rw[this] at hh;cases hh
 ·exact hh rfl
 exact hh a3.symm
theorem J5 {c:aq}{s:ai}{b:Bool}{w:List Int}(h:0≤s.a∧s.a≤(c.t.length:Int)∧0≤s.i)(h1:s.k=5)(hb:b=true↔0≤s.l∧s.l≤(c.g.length:Int) - 1∧(c.g.getD s.l.toNat ⟨0,[]⟩).at_=s.a)(hw:b=true→w=(c.g.getD s.l.toNat ⟨0,[]⟩).ws):JP c s c.gl s.a b w s.l 0:=by
 have hd:aR c s=if 0≤s.l∧s.l≤(c.g.length:Int) - 1∧s.w=0∧(c.g.getD s.l.toNat ⟨0,[]⟩).at_=s.a then some (c.gl,s.a.toNat,(c.g.getD s.l.toNat ⟨0,[]⟩).ws) else none:=by
  unfold aR;rw[if_pos h];simp[h1]
 refine⟨fun xo _ yv=>?_,fun hh=>?_⟩
 ·obtain⟨a1,a2,a3⟩:=hb.1 xo
  exact⟨s.a.toNat,by omega,by rw[hd,if_pos ⟨a1,a2,yv.symm,a3⟩,hw xo]⟩
 rw[hd,if_neg]
 rintro⟨a1,a2,a3,a4⟩
 have:=hb.2 ⟨a1,a2,a4⟩
 rcases hh with hh|hh|hh
 ·rw[this] at hh;cases hh
 ·exact hh rfl
 exact hh a3.symm
theorem J6 {c:aq}{s:ai}(h:0≤s.a∧s.a≤(c.t.length:Int)∧0≤s.i)(h1:s.k=6):JP c s c.ad s.a (eV s.w) [s.w] 0 s.w:=by
 have hd:aR c s=if eV s.w=true∧s.l=0 then some (c.ad,s.a.toNat,[s.w]) else none:=by
  unfold aR;rw[if_pos h];simp[h1]
 refine⟨fun xo hl _=>⟨s.a.toNat,by omega,by rw[hd,if_pos ⟨xo,hl.symm⟩]⟩,fun hh=>?_⟩
 rw[hd,if_neg]
 rintro⟨a1,a2⟩
 rcases hh with hh|hh|hh
 ·rw[a1] at hh;cases hh
 ·exact hh a2.symm
 exact hh rfl
theorem J0 {c:aq}{s:ai}{i:Int}(h1:s.k≠1)(h2:s.k≠2)(h3:s.k≠3)(h4:s.k≠4)(h5:s.k≠5)(h6:s.k≠6):JP c s 0 i false [] 0 0:=by
 refine⟨fun h=>(by cases h),fun _=>?_⟩
 unfold aR
 split
 ·simp[h1,h2,h3,h4,h5,h6]
 rfl
attribute [local simp] cQ bQ jf ua
attribute [local simp ↓ high] vm tZ
theorem Xy {c:aq}{s:ai}{k:Nat}(h:k<c.mx.length):nE c s (k+1)=if s.a.toNat<c.t.length∧c.mx[k].f=c.t.getD s.a.toNat 0∧c.mx[k].t=s.w then some c.mx[k].c else nE c s k:=by
 unfold nE
 by_cases ha:s.a.toNat<c.t.length
 ·rw[if_pos ha,if_pos ha,Xz h]
  simp only[ha,true_and]
 rw[if_neg ha,if_neg ha,if_neg fun hh=>ha hh.1]
theorem XA {c:aq}{s:ai}{k:Nat}(hk:bP c=0)(h:k<c.mx.length)(h1:c.mx[k].f=c.t.getD s.a.toNat 0)(h2:c.mx[k].t=s.w):nE c s k=none:=by
 have hp:=PU hk
 unfold nE
 split
 ·unfold nF
  rw[KT none (hp.sublist (List.take_sublist k _)),PW]
  ·rfl
  intro x hx hh
  obtain⟨j,hj,rfl⟩:=List.mem_iff_getElem.1 hx
  rw[List.length_take] at hj
  rw[List.getElem_take] at hh
  exact(List.pairwise_iff_getElem.1 hp) j k (by omega) h (by omega) ⟨hh.1.trans h1.symm,hh.2.trans h2.symm⟩
 rfl
theorem Ah {c:aq}{s:ai}(h:aR c s=none):Fe c s=.bp [.int .i64 0,.aF,ik 0 0,.bool false]:=by unfold Fe;rw[h]
theorem yI {c:aq}{s:ai}{n:Int}{i':Nat}{w:List Int}(h:aR c s=some (n,i',w)):Fe c s=.bp [.int .i64 n,eW w,ik i' (IntKind.i64.wrap (s.i+w.length)),.bool true]:=by unfold Fe;rw[h]
section
variable [bE]
theorem Ff (c:aq)(s:ai)(hk:bP c=0):aM prog 95 [aK c,encS s] fun r=>r=Fe c s:=by
 have bq:=j7 hk
 have o4:=bq.tl
 have KU:=bq.KV
 have qL:=bq.vn
 have jx:=vg s.a 0 (c.t.length:Int)
 have BM:=@PT c s
 obtain⟨iv,H7⟩:∃b,(decide (0≤s.a)&&decide (s.a≤(c.t.length:Int)))=b:=⟨_,rfl⟩
 rw[H7] at jx
 obtain⟨an,Fg⟩:∃an:Nat,s.a.toNat=an:=⟨_,rfl⟩
 obtain⟨ln,Fh⟩:∃ln:Nat,s.l.toNat=ln:=⟨_,rfl⟩
 obtain⟨kn,l5⟩:∃kn:Nat,an+ln - 1=kn:=⟨_,rfl⟩
 obtain⟨am,PX⟩:∃am:Nat,an - 1=am:=⟨_,rfl⟩
 obtain⟨dn,Bq⟩:∃dn:Nat,an - ln=dn:=⟨_,rfl⟩
 obtain⟨v1,iK⟩:∃v,c.t.getD kn 0=v:=⟨_,rfl⟩
 obtain⟨v2,eI⟩:∃v,c.t.getD am 0=v:=⟨_,rfl⟩
 obtain⟨W,hW⟩:∃W,(c.t.drop dn).take ln=W:=⟨_,rfl⟩
 obtain⟨tv,nG⟩:∃v,c.t.getD an 0=v:=⟨_,rfl⟩
 obtain⟨gv,pN⟩:∃v,c.g.getD ln ⟨0,[]⟩=v:=⟨_,rfl⟩
 obtain⟨XB,vo⟩:∃b,decide (1≤(an:Int))=b:=⟨_,rfl⟩
 obtain⟨XC,sM⟩:∃b,(decide (1≤s.l)&&decide (s.l≤(c.t.length:Int) - (an:Int)))=b:=⟨_,rfl⟩
 obtain⟨XD,sN⟩:∃b,(decide (1≤s.l)&&decide (s.l≤(an:Int)))=b:=⟨_,rfl⟩
 obtain⟨XE,sP⟩:∃b,(decide (0≤s.l)&&decide (s.l≤(c.g.length:Int) - 1))=b:=⟨_,rfl⟩
 obtain⟨PY,BN⟩:∃b,eV s.w=b:=⟨_,rfl⟩
 unfold aK dh encS
 refine .bV func95 rfl rfl ?_
 refine .sr ?_
 refine .seq (.seq (.aD yJ rfl af (.rn gy _ ?_)))
 refine .pc rfl rfl rfl rfl rfl call85 (jx) ?_
 refine .rn [6,7] _ ?_
 refine .split (t:=22) rfl (fun ub=>?_) (fun ub=>?_)
 ·try subst ub
  try simp at ub
  refine .rn [8,9,10,11] [] ?_
  refine .done (.eK rfl (.sr ?_))
  refine .ret (aH ?_)
  rw[Ah (BM (by subst ub;simp at H7;omega))];rfl
 try subst ub
 try simp at ub
 refine .rn [8,9,10,11] [] ?_
 refine .done ?_
 refine .cs ?_ ?_<;>intro Ai
 ·try simp at Ai
  refine .sr ?_
  refine .ret (aH ?_)
  rw[Ah (BM (by omega))];rfl
 try simp at Ai
 have di:0≤s.a∧s.a≤(c.t.length:Int)∧0≤s.i:=by subst ub;simp at H7;omega
 clear H7
 clear BM
 have uc:s.a=(an:Int):=by omega
 refine .skip (.sr ?_)
 refine .seq ?_
 refine .drawn (ms:=[0,1,0,7,15]) (W:=[]) (items:=[.op 0,.op 1,.op 2,.op 3,.op 4]) rfl af af af ?_
 iterate 5 refine .rx ?_
 refine .done (.sr ?_)
 refine .join (fun z:Int×Int×Bool×List Int×Int×Int=>([(3,.ptr 1 0),(6,.ptr 2 0),(8,.ptr 3 0),(9,.int .i64 z.1),(10,.int .i64 z.2.1),(11,.bool z.2.2.1),(12,eW z.2.2.2.1)],⟨4,[(3,.box [.int .i64 s.k,.int .i64 s.a,.int .i64 s.i,.int .i64 z.2.2.2.2.1,.int .i64 z.2.2.2.2.2]),(2,.box [.int .i64 0,.int .i64 0]),(1,.box [.int .i64 s.k,.int .i64 s.a,.int .i64 s.i,.int .i64 s.l,.int .i64 s.w])]⟩)) (fun z=>JP c s z.1 z.2.1 z.2.2.1 z.2.2.2.1 z.2.2.2.2.1 z.2.2.2.2.2) ?_ ?_
 ·skip
  refine .sr ?_
  refine .block (.sr ?_)
  refine .cs ?_ ?_<;>intro yK
  ·try simp at yK
   have KW:=fy an
   have h1:s.k=1:=by simpa using yK
   have cU:=J1 hk di h1
   have lY:(nE c s 0)=none:=by unfold nE;split<;>rfl
   refine .sr ?_
   refine .sr ?_
   refine .block ?_
   refine .dF (fun k:Nat=>([(2,.ptr 0 0),(3,.ptr 1 0),(6,.ptr 2 0),(8,.ptr 3 0),(9,.int .i64 ((nE c s k).getD 0)),(10,.int .i64 (if (nE c s k).isSome then s.a+1 else s.a)),(11,.bool (nE c s k).isSome),(12,eW (oW (nE c s k) s.w)),(46,.vec (c.mx.map bs)),(47,.int .i64 c.mx.length),(48,.int .i64 k)],⟨4,[(3,.box [.int .i64 s.k,.int .i64 s.a,.int .i64 s.i,.int .i64 0,.int .i64 s.w]),(2,.box [.int .i64 0,.int .i64 0]),(1,.box [.int .i64 s.k,.int .i64 s.a,.int .i64 s.i,.int .i64 s.l,.int .i64 s.w]),(0,.box (cQ c))]⟩)) (fun k=>k≤c.mx.length) (fun k=>c.mx.length - k) 0 (by simp) (by rw[lY];exact bx) ?_
   rintro k fD
   simp only at fD ⊢
   refine .sr ?_
   refine .seq ?_
   refine .cs ?_ ?_<;>intro nH
   ·try simp at nH
    have eP:=fy k
    have gn:=Xy (s:=s) nH
    have pE:=XA (s:=s) hk nH
    have hE:=PM c.mx[k]
    obtain⟨x,hx⟩:∃x,c.mx[k]=x:=⟨_,rfl⟩
    rw[hx,Fg] at gn pE
    rw[hx] at hE
    obtain⟨o,ho⟩:∃o,nE c s k=o:=⟨_,rfl⟩
    rw[ho] at gn pE ⊢
    rw[nG] at gn pE
    rw[uc]
    obtain⟨e0,eC⟩:∃b,decide (an<c.t.length)=b:=⟨_,rfl⟩
    obtain⟨e1,iL⟩:∃b,(tv==x.f)=b:=⟨_,rfl⟩
    obtain⟨e2,Dr⟩:∃b,(x.t==s.w)=b:=⟨_,rfl⟩
    refine .skip (.seq (.block (.sr ?_)))
    refine .seq ?_
    refine .drawn (ms:=[0,1,0,4,12,31,63,127,255,127,639,2047,4095,127,8319,32767,65535,131071,262143,524287,262143,1310719,4194303,8388607]) (W:=[]) (items:=PZ) rfl af af af ?_
    iterate 7 refine .rx ?_
    refine .split (t:=58) rfl (fun Fi=>?_) (fun Fi=>?_)
    ·try subst Fi
     try simp at Fi
     have mP:an<c.t.length:=by simpa using eC
     have hg:c.t[an]=tv:=by rw[← nG,List.getD_eq_getElem?_getD,List.getElem?_eq_getElem mP];rfl
     iterate 11 refine .rx ?_
     refine .split (t:=69) rfl (fun xp=>?_) (fun xp=>?_)
     ·try subst xp
      try simp at xp
      iterate 6 refine .rx ?_
      refine .done ?_
      refine .cs ?_ ?_<;>intro H8
      ·try simp at H8
       have H9:x.t=s.w:=by simpa[H8] using Dr
       have Ia:x.f=tv:=(show tv=x.f by simpa using iL).symm
       obtain rfl:=pE Ia H9
       rw[if_pos ⟨mP,Ia,H9⟩] at gn
       refine .drawn (ms:=[0,1,0,4,0,16,48,3,143,511,1023]) (W:=[6]) (items:=[.op 0,.op 1,.op 2,.op 3,.op 4,.op 5,.op 7,.op 8,.op 6,.ck 1,.op 9,.op 10]) rfl af af af ?_
       iterate 8 refine .rx ?_
       refine .wv ?_
       refine .ck rfl eM ?_
       iterate 2 refine .rx ?_
       refine .done (.rn ?_)
       refine⟨k+1,nH,bt,?_⟩
       rw[gn]
       simp only[oW,PS,Option.getD_some,Option.isSome_some,if_true]
       exact(.mk [5] [] gK il rfl rfl rfl)
      try simp at H8
      have H9:¬x.t=s.w:=by simpa[H8] using Dr
      rw[if_neg fun hh=>H9 hh.2.2] at gn
      refine .skip (.rn ?_)
      refine⟨k+1,nH,bt,by rw[gn];exact bx⟩
     try subst xp
     try simp at xp
     have Ia:¬tv=x.f:=by simpa using iL
     rw[if_neg fun hh=>Ia hh.2.1.symm] at gn
     iterate 5 refine .ux ?_
     refine .rx ?_
     refine .done (.iM rfl (.skip (.rn ?_)))
     refine⟨k+1,nH,bt,by rw[gn];exact bx⟩
    try subst Fi
    try simp at Fi
    have mP:¬an<c.t.length:=by simpa using eC
    rw[if_neg fun hh=>mP hh.1] at gn
    iterate 9 refine .ux ?_
    iterate 2 refine .rx ?_
    iterate 5 refine .ux ?_
    refine .rx ?_
    refine .done (.iM rfl (.skip (.rn ?_)))
    refine⟨k+1,nH,bt,by rw[gn];exact bx⟩
   try simp at nH
   obtain rfl:k=c.mx.length:=by omega
   obtain⟨o,ho⟩:∃o,nE c s c.mx.length=o:=⟨_,rfl⟩
   rw[ho] at cU ⊢
   refine .exit ?_
   refine⟨(o.getD 0,(if o.isSome then s.a+1 else s.a),o.isSome,oW o s.w,0,s.w),cU,?_⟩
   simp only
   exact bx
  try simp at yK
  refine .sr ?_
  refine .cs ?_ ?_<;>intro xq
  ·try simp at xq
   have KW:=fy an
   have h2:s.k=2:=by simpa using xq
   rw[uc]
   have cU:=J2 di h2
   rw[uc] at cU
   refine .drawn (ms:=[0,1,3,0,8,0,32,0,128,384,992,7,2079,8191]) (W:=[]) (items:=xr) rfl af af af ?_
   iterate 14 refine .rx ?_
   refine .done ?_
   refine⟨(c.om,(an:Int)+1,decide ((an:Int)<(c.t.length:Int)),[],0,0),cU,?_⟩
   simp only[yH]
   exact bx
  try simp at xq
  refine .sr ?_
  refine .cs ?_ ?_<;>intro kp
  ·try simp at kp
   have h3:s.k=3:=by simpa using kp
   have hJ:∀(b:Bool) (i:Int),(b=true→i=s.a+s.l)→(b=true↔1≤s.a∧1≤s.l∧s.l≤(c.t.length:Int) - s.a∧c.t.getD (s.a.toNat+s.l.toNat - 1) 0=c.t.getD (s.a.toNat - 1) 0)→JP c s c.le i b [] s.l 0:=fun b i g g'=>J3 di h3 g g'
   rw[uc] at hJ
   rw[uc]
   have jx:=vg s.l 1 ((c.t.length:Int) - (an:Int))
   rw[sM] at jx
   have BO:IntKind.i64.wrap ((c.t.length:Int) - (an:Int))=(c.t.length:Int) - (an:Int):=wrap64 (by omega) (by omega)
   refine .sr ?_
   refine .seq ?_
   refine .drawn (ms:=[0,1,3,7,15,31,15,79,207,15,527,1999,4095,8191,16383,32767,65535,32767,163839,32767,557055,1998847,4095999,8388607,16777215,32767,33587199,32767,134250495,402685951,1040220159,2113961983,4294967295,8589934591,17179869183]) (W:=[12]) (items:=[.op 0,.op 1,.op 2,.op 3,.op 4,.op 5,.op 6,.op 7,.op 8,.op 9,.op 10,.op 11,.op 12,.op 13,.op 14,.op 15,.op 16,.op 17,.op 18,.op 19,.op 20,.op 21,.op 22,.op 23,.op 24,.op 25,.op 26,.op 27,.op 28,.op 29,.op 30,.op 31,.op 32,.op 33,.op 34]) rfl af af af ?_
   iterate 4 refine .rx ?_
   refine .split (t:=105) rfl (fun lC=>?_) (fun lC=>?_)
   ·try subst lC
    try simp at lC
    iterate 8 refine .rx ?_
    refine .wp rfl rfl rfl rfl rfl call85 (jx) ?_
    iterate 2 refine .rx ?_
    refine .split (t:=116) rfl (fun vq=>?_) (fun vq=>?_)
    ·try subst vq
     try simp at vq
     clear BO jx
     have cK:1≤(an:Int)∧1≤s.l∧s.l≤(c.t.length:Int) - (an:Int):=by
      simp only[bR,decide_eq_true_eq] at vo sM
      exact⟨vo,sM⟩
     have Ds:s.l=(ln:Int):=by omega
     have j4:kn<c.t.length:=by omega
     have iT:am<c.t.length:=by omega
     have vt:c.t[kn]=v1:=by rw[← iK,List.getD_eq_getElem?_getD,List.getElem?_eq_getElem j4];rfl
     have ud:c.t[am]=v2:=by rw[← eI,List.getD_eq_getElem?_getD,List.getElem?_eq_getElem iT];rfl
     have cU:=hJ (v1==v2) ((an:Int)+(ln:Int)) (fun _=>by rw[Ds]) (by
      rw[Ds,Int.toNat_natCast,Int.toNat_natCast,l5,PX,iK,eI,beq_iff_eq]
      exact⟨fun h=>⟨cK.1,by omega,by omega,h⟩,fun h=>h.2.2.2⟩)
     clear hJ
     have rV:IntKind.i64.wrap ((an:Int)+(ln:Int))=(an:Int)+(ln:Int):=wrap64 (by omega) (by omega)
     have BP:IntKind.i64.wrap ((an:Int)+(ln:Int) - 1)=(kn:Int):=by rw[wrap64 (by omega) (by omega)];omega
     have xt:IntKind.i64.wrap ((an:Int) - 1)=(am:Int):=by rw[wrap64 (by omega) (by omega)];omega
     iterate 20 refine .rx ?_
     refine .done ?_
     refine .drawn (ms:=[0,1,3,0,0,16,56,7,255]) (W:=[]) (items:=Dt) rfl af af af ?_
     iterate 9 refine .rx ?_
     refine .done ?_
     refine⟨(c.le,(an:Int)+(ln:Int),(v1==v2),[],s.l,0),cU,?_⟩
     simp only[yH]
     exact bx
    try subst vq
    try simp at vq
    clear BO
    have cU:=hJ false (IntKind.i64.wrap ((an:Int)+s.l)) (fun h=>(by cases h)) ⟨fun h=>(by cases h),fun h=>(by
     exfalso
     have:(decide (1≤s.l)&&decide (s.l≤(c.t.length:Int) - (an:Int)))=true:=by simp only[bR,decide_eq_true_eq];exact⟨h.2.1,h.2.2.1⟩
     rw[this] at sM;cases sM)⟩
    clear jx hJ
    iterate 18 refine .ux ?_
    iterate 2 refine .rx ?_
    refine .done ?_
    refine .drawn (ms:=[0,1,3,0,0,16,56,7,255]) (W:=[]) (items:=Dt) rfl af af af ?_
    iterate 9 refine .rx ?_
    refine .done ?_
    refine⟨(c.le,IntKind.i64.wrap ((an:Int)+s.l),false,[],s.l,0),cU,?_⟩
    simp only[yH]
    exact bx
   try subst lC
   try simp at lC
   clear BO
   have cU:=hJ false (IntKind.i64.wrap ((an:Int)+s.l)) (fun h=>(by cases h)) ⟨fun h=>(by cases h),fun h=>(by
    exfalso
    have:decide (1≤(an:Int))=true:=by simp only[decide_eq_true_eq];exact h.1
    rw[this] at vo;cases vo)⟩
   clear jx hJ
   iterate 9 refine .ux ?_
   iterate 2 refine .rx ?_
   iterate 18 refine .ux ?_
   iterate 2 refine .rx ?_
   refine .done ?_
   refine .drawn (ms:=[0,1,3,0,0,16,56,7,255]) (W:=[]) (items:=Dt) rfl af af af ?_
   iterate 9 refine .rx ?_
   refine .done ?_
   refine⟨(c.le,IntKind.i64.wrap ((an:Int)+s.l),false,[],s.l,0),cU,?_⟩
   simp only[yH]
   exact bx
  try simp at kp
  refine .sr ?_
  refine .cs ?_ ?_<;>intro yL
  ·try simp at yL
   have h4:s.k=4:=by simpa using yL
   have hJ:∀(b:Bool) (w:List Int),(b=true↔1≤s.l∧s.l≤s.a)→(b=true→w=(c.t.drop (s.a.toNat - s.l.toNat)).take s.l.toNat)→JP c s c.tw s.a b w s.l 0:=fun b w g g'=>J4 di h4 g g'
   rw[uc] at hJ
   rw[uc]
   have jx:=vg s.l 1 (an:Int)
   rw[sN] at jx
   refine .sr ?_
   refine .seq (.seq (.aD jR rfl af (.rn dU _ ?_)))
   refine .pc rfl rfl rfl rfl rfl call85 (jx) ?_
   refine .rn [5] [] ?_
   refine .done (.sr ?_)
   refine .cs ?_ ?_<;>intro yM
   ·try simp at yM
    subst yM
    have cK:1≤s.l∧s.l≤(an:Int):=by
     simp only[bR,decide_eq_true_eq] at sN
     exact sN
    have Ds:s.l=(ln:Int):=by omega
    have j4:dn≤c.t.length:=by omega
    have iT:an≤c.t.length:=by omega
    have rW:dn≤an:=by omega
    have Ib:an - dn=ln:=by omega
    have BQ:W.length=ln:=by rw[← hW,List.length_take,List.length_drop];omega
    have qM:W≠[]:=by intro h;rw[h] at BQ;simp at BQ;omega
    have hS:List.take ln (List.drop dn (c.t.map (PV.int .i64)))=W.map (PV.int .i64):=by rw[← hW,List.map_take,List.map_drop]
    have cU:=hJ true W ⟨fun _=>cK,fun _=>rfl⟩ (fun _=>by rw[Ds,Int.toNat_natCast,Int.toNat_natCast,Bq,hW])
    clear jx hJ hW
    have rV:IntKind.i64.wrap ((an:Int) - (ln:Int))=(dn:Int):=by rw[wrap64 (by omega) (by omega)];omega
    refine .rn ?_
    refine .rn ?_
    refine⟨(c.tw,(an:Int),true,W,s.l,0),cU,?_⟩
    simp only[Fc qM]
    exact bx
   try simp at yM
   subst yM
   have cU:=hJ false [] ⟨fun h=>(by cases h),fun h=>(by
    exfalso
    have:(decide (1≤s.l)&&decide (s.l≤(an:Int)))=true:=by simp only[bR,decide_eq_true_eq];exact h
    rw[this] at sN;cases sN)⟩ (fun h=>(by cases h))
   clear jx hJ
   refine .skip (.rn ?_)
   refine⟨(c.tw,(an:Int),false,[],s.l,0),cU,?_⟩
   simp only[yH]
   exact bx
  try simp at yL
  refine .sr ?_
  refine .cs ?_ ?_<;>intro yN
  ·try simp at yN
   have h5:s.k=5:=by simpa using yN
   have hJ:∀(b:Bool) (w:List Int),(b=true↔0≤s.l∧s.l≤(c.g.length:Int) - 1∧(c.g.getD s.l.toNat ⟨0,[]⟩).at_=s.a)→(b=true→w=(c.g.getD s.l.toNat ⟨0,[]⟩).ws)→JP c s c.gl s.a b w s.l 0:=fun b w g g'=>J5 di h5 g g'
   rw[uc,Fh,pN] at hJ
   rw[uc]
   have jx:=vg s.l 0 ((c.g.length:Int) - 1)
   rw[sP] at jx
   have P0:IntKind.i64.wrap ((c.g.length:Int) - 1)=(c.g.length:Int) - 1:=wrap64 (by omega) (by omega)
   refine .sr ?_
   refine .seq (.seq ?_)
   refine .drawn (ms:=[0,1,0,4,12,28,63,127,255,511,255,1279,4095,8191,16383,255,33023,131071,262143,524287]) (W:=[6]) (items:=Fj) rfl af af af ?_
   iterate 6 refine .rx ?_
   refine .wp rfl rfl rfl rfl rfl call85 (jx) ?_
   refine .rx ?_
   refine .split (t:=179) rfl (fun vu=>?_) (fun vu=>?_)
   ·try subst vu
    try simp at vu
    clear P0 jx
    have cK:0≤s.l∧s.l≤(c.g.length:Int) - 1:=by
     simp only[bR,decide_eq_true_eq] at sP
     exact sP
    have Ds:s.l=(ln:Int):=by omega
    have j4:ln<c.g.length:=by omega
    have XF:c.g[ln]=gv:=by rw[← pN,List.getD_eq_getElem?_getD,List.getElem?_eq_getElem j4];rfl
    have hE:=PN gv
    have vv:1≤gv.ws.length:=(bq.Ic gv (XF▸List.getElem_mem j4)).2.1
    have qM:gv.ws≠[]:=by intro h;rw[h] at vv;simp at vv
    iterate 12 refine .rx ?_
    refine .done (.sr ?_)
    refine .cs ?_ ?_<;>intro yO
    ·try simp at yO
     have cU:=hJ true gv.ws ⟨fun _=>⟨cK.1,cK.2,by simpa using yO⟩,fun _=>rfl⟩ (fun _=>rfl)
     clear hJ
     refine .rn ?_
     refine .rn ?_
     refine⟨(c.gl,(an:Int),true,gv.ws,s.l,0),cU,?_⟩
     simp only[Fc qM]
     exact bx
    try simp at yO
    have cU:=hJ false [] ⟨fun h=>(by cases h),fun h=>(by exfalso;have h2:=h.2.2;simp[h2] at yO)⟩ (fun h=>(by cases h))
    clear hJ
    refine .skip (.rn ?_)
    refine⟨(c.gl,(an:Int),false,[],s.l,0),cU,?_⟩
    simp only[yH]
    exact bx
   try subst vu
   try simp at vu
   clear P0 jx
   have cU:=hJ false [] ⟨fun h=>(by cases h),fun h=>(by
    exfalso
    have:(decide (0≤s.l)&&decide (s.l≤(c.g.length:Int) - 1))=true:=by simp only[bR,decide_eq_true_eq];exact⟨h.1,h.2.1⟩
    rw[this] at sP;cases sP)⟩ (fun h=>(by cases h))
   clear hJ
   iterate 10 refine .ux ?_
   iterate 2 refine .rx ?_
   refine .done (.sr ?_)
   refine .iM rfl (.skip (.rn ?_))
   refine⟨(c.gl,(an:Int),false,[],s.l,0),cU,?_⟩
   simp only[yH]
   exact bx
  try simp at yN
  refine .sr ?_
  refine .cs ?_ ?_<;>intro yP
  ·try simp at yP
   have h6:s.k=6:=by simpa using yP
   have cU:=J6 di h6
   rw[uc,BN] at cU
   rw[uc]
   have Fk:=yC s.w
   rw[BN] at Fk
   refine .sr ?_
   refine .rX (ms:=[0,1,3,0,8,24,0,64,192,455,1023,2047]) (W:=[8]) (As:=[5]) (items:=[.op 0,.op 1,.op 2,.op 3,.op 4,.op 5,.op 6,.op 7,.op 8,.ck 4,.ck 2,.op 9,.op 10,.op 11]) rfl af af af af (by decide) ?_
   iterate 5 refine .rf ?_
   refine .al rfl rfl (by decide) (by decide) (by decide) (by decide) fh ?_
   iterate 2 refine .rf ?_
   refine .wr rfl rfl (by decide) (.pure rfl rfl rfl call116 (by decide) (Fk) (by first|rfl|simp[*]) ?_)
   rintro _ rfl
   refine .ck rfl eM ?_
   refine .ck rfl eM ?_
   iterate 3 refine .rf ?_
   refine .done ?_
   refine⟨(c.ad,(an:Int),PY,[s.w],0,s.w),cU,?_⟩
   simp only[PS]
   exact(.mk [4] [] gK il rfl rfl rfl)
  try simp at yP
  have cU:=J0 (c:=c) (i:=(an:Int)) (show s.k≠1 by simpa using yK) (show s.k≠2 by simpa using xq) (show s.k≠3 by simpa using kp) (show s.k≠4 by simpa using yL) (show s.k≠5 by simpa using yN) (show s.k≠6 by simpa using yP)
  rw[uc]
  refine .skip ?_
  refine⟨(0,(an:Int),false,[],0,0),cU,?_⟩
  simp only[yH]
  exact bx
 skip
 rintro⟨n,i,b,w,l',w'⟩ hJ
 simp only at hJ ⊢
 clear jx l5 PX Bq iK eI hW nG pN vo sM sN sP BN XB XC XD XE PY gv tv W v1 v2 dn am kn Fg Fh
 refine .seq (.seq (.aD iJ rfl af (.rn [0,1,2] _ ?_)))
 refine .split (t:=218) rfl (fun qN=>?_) (fun qN=>?_)
 ·try subst qN
  try simp at qN
  refine .rn [3,4,5,6] [] ?_
  refine .done (.eK rfl (.sr ?_))
  refine .ret (aH ?_)
  rw[Ah (hJ.2 (.inl qN))];rfl
 try subst qN
 try simp at qN
 subst qN
 refine .rn [3,4,5,6] [] ?_
 refine .done ?_
 refine .cs ?_ ?_<;>intro qO
 ·try simp at qO
  refine .sr ?_
  refine .ret (aH ?_)
  rw[Ah (hJ.2 (.inr (by first|exact qO|(simpa using qO))))];rfl
 try simp at qO
 have fa:l'=s.l∧w'=s.w:=by first|exact qO|(simpa using qO)|omega
 obtain⟨pB,mT⟩:=fa
 obtain⟨i',hi,hd⟩:=hJ.1 rfl pB mT
 have yQ:=yI hd
 subst hi
 clear hJ qO
 rcases Classical.em (w=[]) with hw|hw
 ·skip
  refine .skip (.seq ?_)
  subst hw
  have KX:eW []=.aF:=yH
  refine .drawn (ms:=[0,0,0,0,8,0,32,120,252,1,515,2047,4095]) (W:=[11]) (items:=P1) rfl af af af ?_
  iterate 11 refine .rx ?_
  refine .wv ?_
  refine .rx ?_
  refine .done (.ret (aH ?_))
  rw[yQ];simp[ik,KX]
 skip
 refine .skip (.seq ?_)
 have KX:=Fc hw
 refine .drawn (ms:=[0,0,0,0,8,0,32,120,252,1,515,2047,4095]) (W:=[11]) (items:=P1) rfl af af af ?_
 iterate 11 refine .rx ?_
 refine .wv ?_
 refine .rx ?_
 refine .done (.ret (aH ?_))
 rw[yQ];simp[ik,KX]
theorem Fl (a b:List Int)(ha:a.length<4611686018427387904)(hb:b.length<4611686018427387904):aM prog 144 [ints a,ints b] fun r=>r=.bool (decide (a=b)):=by
 refine .bV func144 rfl rfl ?_
 refine .sr ?_
 refine .seq (.sr ?_)
 refine .cs ?_ ?_<;>intro gU
 ·try simp at gU
  refine .sr ?_
  refine .ret (aH ?_)
  have h:¬a=b:=by intro h;subst h;omega
  simp[h]
 try simp at gU
 have hlen:b.length=a.length:=by omega
 clear gU
 refine .skip (.seq (.sr ?_))
 refine .block ?_
 refine .dF (fun i:Nat=>([(0,ints a),(1,ints b),(12,.int .i64 a.length),(13,.int .i64 i)],ah.empty)) (fun i=>i≤a.length∧a.take i=b.take i) (fun i=>a.length - i) 0 (by simp) (.pure (by simp[*]) (by simp)) ?_
 rintro i ⟨hi,hr⟩
 simp only at hi hr ⊢
 refine .sr ?_
 refine .seq ?_
 refine .cs ?_ ?_<;>intro oe
 ·try simp at oe
  have eP:=fy i
  have qP:i<a.length:=by omega
  have BR:i<b.length:=by omega
  refine .skip (.seq (.block (.sr ?_)))
  refine .seq ?_
  refine .drawn (ms:=[0,0,3,7,0,0,48,112,255]) (W:=[]) (items:=Dt) rfl af af af ?_
  iterate 9 refine .rx ?_
  refine .done ?_
  refine .cs ?_ ?_<;>intro lD
  ·try simp at lD
   refine .sr ?_
   refine .ret (aH ?_)
   have h:¬a=b:=by intro h;subst h;simp at lD
   simp[h]
  try simp at lD
  refine .skip (.rn ?_)
  refine⟨i+1,⟨bt,?_⟩,bt,.pure (by simp[*]) (by simp)⟩
  rw[List.take_succ_eq_append_getElem qP,List.take_succ_eq_append_getElem BR,hr,lD]
 try simp at oe
 have:i=a.length:=by omega
 have jF:a=b:=by
  rw[this,List.take_length] at hr
  rw[hr];exact List.take_of_length_le (by omega)
 refine .exit (.sr ?_)
 refine .ret (aH ?_)
 simp[jF]
theorem P2 (c:aq)(l:List Int)(j:Nat)(hc:c.c.length≤48)(hl:l.length<4611686018427387904):aM prog 96 [aK c,ints l,.int .i64 j] fun r=>r=.bool (hasB c j l):=by
 obtain⟨e0,eC⟩:∃b,decide ((j:Int)≤(c.c.length:Int) - (l.length:Int))=b:=⟨_,rfl⟩
 have mT:IntKind.i64.wrap ((c.c.length:Int) - (l.length:Int))=(c.c.length:Int) - (l.length:Int):=wrap64 (by omega) (by omega)
 obtain⟨S,hS⟩:∃S,(c.c.drop j).take l.length=S:=⟨_,rfl⟩
 obtain⟨jl,dE⟩:∃k,j+l.length=k:=⟨_,rfl⟩
 have KY:List.take l.length (List.drop j (c.c.map (PV.int .i64)))=S.map (PV.int .i64):=by rw[← hS,List.map_take,List.map_drop]
 have KQ:S.length≤l.length:=by rw[← hS,List.length_take];omega
 have BS:hasB c j l=(decide (j+l.length≤c.c.length)&&decide (S=l)):=by unfold hasB;rw[hS]
 unfold aK dh
 refine .bV func96 rfl rfl ?_
 refine .sr ?_
 refine .seq (.aD [0,1,2,3,4,5,6,7,8,9,10,11,12,13,14,15,16,17,18,19,20] rfl af (.rn qJ _ ?_))
 refine .split (t:=15) rfl (fun cq=>?_) (fun cq=>?_)
 ·try subst cq
  try simp at cq
  have XH:jl≤c.c.length:=by simp at eC;omega
  have eP:IntKind.i64.wrap ((j:Int)+(l.length:Int))=(jl:Int):=by rw[wrap64 (by omega) (by omega)];omega
  have EC:j≤jl:=by omega
  have XI:jl - j=l.length:=by omega
  have nI:j≤c.c.length:=by omega
  rw[dE] at BS
  refine .rn [9,10,11,12,13,14,15,16,17] _ ?_
  refine .pc rfl rfl rfl rfl rfl call144 (Fl S l (by omega) hl) ?_
  refine .rn [19,20] [] ?_
  refine .done (.ret (aH ?_))
  rw[BS,decide_eq_true XH];rfl
 try subst cq
 try simp at cq
 refine .rn [9,10,11,12,13,14,15,16,17,18,19,20] [] ?_
 refine .done (.ret (aH ?_))
 rw[BS,decide_eq_false (by simp at eC;omega)];rfl
theorem sQ (c:aq)(l:List Int)(j:Nat)(hc:c.c.length≤48)(hl:l.length<4611686018427387904):aM prog 96 [aK c,eW l,.int .i64 j] fun r=>r=.bool (hasB c j l):=by
 unfold eW
 split
 ·rename_i h;subst h
  exact aM.XJ (l:=[aK c]) (r:=[.int .i64 j]) (P2 c [] j hc (by simp))
 exact P2 c l j hc hl
theorem Ie (c:aq)(i j:Int):aM prog 79 [aK c,ik i j] fun r=>r=.func 138 [] [.vp [.int .i64 i,.int .i64 j],.vp (dh c)]:=by
 unfold aK dh ik
 refine .bV func79 rfl rfl ?_
 refine .sr ?_
 refine .sr ?_
 refine .ret (aH ?_)
 exact zk
theorem Fm (c:aq)(i j:Int):aM prog 139 [aK c,ik i j] fun r=>r=.func 166 [] [.vp [.int .i64 i,.int .i64 j],.vp (dh c)]:=by
 unfold aK dh ik
 refine .bV func139 rfl rfl ?_
 refine .sr ?_
 refine .sr ?_
 refine .ret (aH ?_)
 exact zk
end
end Go.Am.Sl
end
