/-
 What is used in the proof of a statement (part SlA); no condition.
-/
import Derived.Test.YthnmgbgmlhackaaGreatDoorSlZ
import Derived.Test.YthnmgbgmlhackaaGreatDoorVm2
import Derived.Test.YthnmgbgmlhackaaGreatDoorSlT
set_option linter.all false
set_option maxHeartbeats 40000000
set_option maxRecDepth 100000
section
namespace Go.Am.Sl
open Go Go.Am Go.Proofs Tryz
attribute [local simp] eQ ij pV dH gk mz ai.back cS fW lg bm Nat.testBit_eq_decide_div_mod_eq cC iE mw vO ph gF pj iP cU nG nF pe gG pf n4 lZ pT n3 pg o7 o4 o8 o5 o6 o9 pa mR eZ jW eP pn nH oc po pq mQ pR pS gE my fK fy fL kV gg nS nv ny jF oR bj nZ fx bP bK lD ai.get ai.alloc ai.put ai.drop ai.empty bt cZ iw jn gA cz chunk List.range List.range.loop lh pW l9 bI b6 PV.aG PV.aF PV.dc PV.fu gY gH od PV.one PV.ids PV.cF gI beq_eq qD rE
def iQ {α:Type}(p:α→Bool):Nat→List α→Int
 |_,[] => -1
 |i,a::r=>if p a then i else iQ p (i+1) r
theorem N1 {α:Type}(p:α→Bool)(l:List α)(i:Nat)(h:i<l.length):iQ p i (l.drop i)=if p l[i] then (i:Int) else iQ p (i+1) (l.drop (i+1)):=by
 rw[List.drop_eq_getElem_cons h];rfl
theorem Ty {α:Type}(p:α→Bool):∀(l:List α) (i:Nat),(iQ p i l = -1∧l.any p=false)∨((i:Int)≤iQ p i l∧iQ p i l<i+l.length∧l.any p=true)
 |[],i=>.inl ⟨rfl,rfl⟩
 |a::r,i=>by
  simp only[iQ,List.any_cons,List.length_cons]
  cases h:p a with
  |true=>exact .inr ⟨by simp,by simp;omega,rfl⟩
  |false=>
   rcases Ty p r (i+1) with⟨h1,h2⟩|⟨h1,h2,h3⟩
   ·exact .inl ⟨by simpa using h1,by simpa using h2⟩
   exact .inr ⟨by simp;omega,by simp;omega,by simpa using h3⟩
theorem N3 {α:Type}(p:α→Bool)(l:List α)(i:Nat):decide (iQ p i l≥0)=l.any p:=by
 rcases Ty p l i with⟨h1,h2⟩|⟨h1,h2,h3⟩
 ·rw[h1,h2];decide
 rw[h3];simp;omega
def bk (m:gZ):PV:=.agg [.int .i64 m.f,.int .i64 m.t,.int .i64 m.c]
def bV (g:lj):PV:=.agg [.int .i64 g.at_,ints g.ws]
def cR (c:aj):List PV:=[.int .i64 c.om,.int .i64 c.le,.int .i64 c.tw,.int .i64 c.gl,.int .i64 c.ad,.vec (c.mx.map bk),ints c.t,.vec (c.g.map bV),ints c.c]
@[reducible] def cQ (c:aj):List PV:=[.int .i64 c.om,.int .i64 c.le,.int .i64 c.tw,.int .i64 c.gl,.int .i64 c.ad,.vec (c.mx.map bk),ints c.t,.vec (c.g.map bV),ints c.c]
@[reducible] def bQ (c:aj)(x y z:PV):List PV:=[.int .i64 c.om,.int .i64 c.le,.int .i64 c.tw,.int .i64 c.gl,.int .i64 c.ad,.vec (c.mx.map bk),ints c.t,.vec (c.g.map bV),ints c.c,x,y,z]
def aH (c:aj):PV:=.agg (cR c)
def encS (s:aq):PV:=.agg [.int .i64 s.k,.int .i64 s.a,.int .i64 s.i,.int .i64 s.l,.int .i64 s.w]
theorem Tz (m:gZ):bk m=.agg [.int .i64 m.f,.int .i64 m.t,.int .i64 m.c]:=rfl
theorem TA (g:lj):bV g=.agg [.int .i64 g.at_,ints g.ws]:=rfl
@[simp] theorem xb1 (m:gZ):(bk m).cells=[.int .i64 m.f,.int .i64 m.t,.int .i64 m.c]:=rfl
@[simp] theorem xb6 (g:lj):(bV g).cells=[.int .i64 g.at_,ints g.ws]:=rfl
@[simp] theorem xb3 (s:aq):(encS s).cells=[.int .i64 s.k,.int .i64 s.a,.int .i64 s.i,.int .i64 s.l,.int .i64 s.w]:=rfl
@[simp] theorem xfk (m:gZ):(bk m).aG=true:=by simp[bk,PV.aG,PV.aF]
@[simp] theorem xfq (g:lj):(bV g).aG=true:=by simp[bV,PV.aG,PV.aF]
@[simp] theorem xfp (s:aq):(encS s).aG=true:=by simp[encS,PV.aG,PV.aF]
@[simp] theorem xfr (c:aj):(aH c).aG=true:=by simp[aH,cR,PV.aG,PV.aF]
@[simp] theorem xbv (l:List gZ):lC 3 (l.map bk)=true:=zB (f:=bk) (n:=3) (fun _=>rfl) l
@[simp] theorem xca (l:List lj):lC 2 (l.map bV)=true:=zB (f:=bV) (n:=2) (fun _=>rfl) l
@[simp] theorem N4 (l:List aq):lC 5 (l.map encS)=true:=zB (f:=encS) (n:=5) (fun _=>rfl) l
@[simp] theorem z8c (l:List gZ):ma (l.map bk)=true:=zC (f:=bk) (fun _=>by simp[PV.one]) l
@[simp] theorem xa9 (l:List lj):ma (l.map bV)=true:=zC (f:=bV) (fun _=>by simp[PV.one]) l
@[simp] theorem xbm (l:List aq):ma (l.map encS)=true:=zC (f:=encS) (fun _=>by simp[PV.one]) l
theorem TB (l:List gZ)(i:Nat)(h:i<l.length):mc (l.take i) (l.drop i)=(mT (l.take i) l[i]&&mc (l.take (i+1)) (l.drop (i+1))):=by
 rw[List.drop_eq_getElem_cons h,mc,List.take_succ_eq_append_getElem h]
theorem z4p {α:Type}(p:α→Bool)(l:List α)(i:Nat)(h:i<l.length):(l.drop i).all p=(p l[i]&&(l.drop (i+1)).all p):=by
 rw[List.drop_eq_getElem_cons h];rfl
theorem z7h {α:Type}(p:α→Bool)(l:List α):(!(l.any fun a=>!p a))=l.all p:=by
 rw[← List.not_all_eq_any_not];simp
structure BC (c:aj):Prop where
  hm:c.mx.length<4611686018427387904
  ht:c.t.length<4611686018427387904
  hc:c.c.length<4611686018427387904
  hg:c.g.length<4611686018427387904
  hw:∀x∈c.g,x.ws.length<4611686018427387904
section
variable [bF]
theorem xz (n a b:Int):aN prog 85 [.int .i64 n,.int .i64 a,.int .i64 b] fun r=>r=.bool (decide (a≤n)&&decide (n≤b)):=by
 refine .bT func85 rfl rfl ?_
 refine .sr ?_
 refine .seq (.ay rF rfl ae (.rn eD _ ?_))
 refine .split (t:=10) rfl (fun hU=>?_) (fun hU=>?_)
 ·try rw[hU]
  try simp at hU
  refine .rn [4,5,6,7,8] [] ?_
  refine .done (.ret (au ?_))
  simp<;>omega
 try rw[hU]
 try simp at hU
 refine .rn [4,5,6,7,8] [] ?_
 refine .done (.ret (au ?_))
 simp<;>omega
theorem AX (n:Int):aN prog 116 [.int .i64 n] fun r=>r=.bool (dB n):=by
 refine .bT func116 rfl rfl ?_
 refine .sr ?_
 refine .seq (.ay [0,1,2] rfl ae (.rn [0] _ ?_))
 refine .pc rfl rfl rfl rfl rfl call85 (xz n 1 9999) ?_
 refine .rn [2] [] ?_
 refine .done (.ret (au ?_))
 exact zk
theorem uW (n:Int):aN prog 113 [.int .i64 n] fun r=>r=.bool (kL n):=by
 refine .bT func113 rfl rfl ?_
 refine .sr ?_
 refine .seq (.ay [0,1,2] rfl ae (.rn [0] _ ?_))
 refine .pc rfl rfl rfl rfl rfl call85 (xz n 1 100) ?_
 refine .rn [2] [] ?_
 refine .done (.ret (au ?_))
 exact zk
theorem N5 {α:Type}(l:List α)(enc:α→PV)(p:α→Bool)(f:FuncId)(xs ys:List PV)(hl:l.length<4611686018427387904)(he:∀a,(enc a).cells=[enc a])(hx:PV.aF xs=true)(hy:PV.aF ys=true)(hF:∀a,(enc a).aG=true)(dM:∀cs w,(callFunc f cs).run prog w=.ok (.enter f cs) w)(hp:∀a∈l,aN prog f (xs++[enc a]++ys) fun r=>r=.bool (p a)):aN prog 168 [.vec (l.map enc),.func f xs ys] fun r=>r=.int .i64 (iQ p 0 l):=by
 refine .bT func168 rfl rfl ?_
 refine .sr ?_
 refine .seq (.sr ?_)
 refine .block ?_
 refine .dw (fun s:Nat=>([(0,.vec (l.map enc)),(1,.func f xs ys),(7,.int .i64 l.length),(8,.int .i64 s)],ai.empty)) (fun s=>s≤l.length∧iQ p s (l.drop s)=iQ p 0 l) (fun s=>l.length - s) 0 ⟨by simp,by simp⟩ (.pure (by simp[*]) (by simp)) ?_
 rintro i ⟨hi,hr⟩
 simp only at hi hr ⊢
 refine .sr ?_
 refine .seq ?_
 refine .cs ?_ ?_<;>intro c9
 ·try simp at c9
  have et:=fA i
  rw[N1 p l i c9] at hr
  have he:=he l[i]
  have hp:=hp l[i] (List.getElem_mem c9)
  refine .skip (.seq (.block (.sr ?_)))
  refine .seq (.ay kg rfl ae (.rn gQ _ ?_))
  refine .step rfl rfl (.pure rfl rfl rfl dM (by decide) (hp) (by first|rfl|simp[*]) ?_)
  rintro _ rfl
  refine .done ?_
  refine .cs ?_ ?_<;>intro qE
  ·try simp at qE
   refine .sr ?_
   refine .ret (au ?_)
   rw[← hr,if_pos qE]
  try simp at qE
  refine .skip (.rn ?_)
  refine⟨i+1,⟨bp,?_⟩,bp,.pure (by simp[*]) (by simp)⟩
  rw[← hr,if_neg (by simp[qE])]
 try simp at c9
 have:i=l.length:=by omega
 refine .exit (.sr ?_)
 refine .ret (au ?_)
 rw[← hr,this,List.drop_length];rfl
theorem N6 {α:Type}(l:List α)(enc:α→PV)(p:α→Bool)(f:FuncId)(xs ys:List PV)(hl:l.length<4611686018427387904)(he:∀a,(enc a).cells=[enc a])(hx:PV.aF xs=true)(hy:PV.aF ys=true)(hF:∀a,(enc a).aG=true)(dM:∀cs w,(callFunc f cs).run prog w=.ok (.enter f cs) w)(hp:∀a∈l,aN prog f (xs++[enc a]++ys) fun r=>r=.bool (p a)):aN prog 149 [.vec (l.map enc),.func f xs ys] fun r=>r=.bool (l.any p):=by
 refine .bT func149 rfl rfl ?_
 refine .sr ?_
 refine .seq (.ay gQ rfl ae (.rn [0,1] _ ?_))
 refine .pc rfl rfl rfl rfl rfl call168 (N5 l enc p f xs ys hl he hx hy hF dM hp) ?_
 refine .rn [3,4] [] ?_
 refine .done (.ret (au ?_))
 rw[← N3 _ l 0]
theorem N7 (n:Int):aN prog 150 [.int .i64 n] fun r=>r=.bool (!dB n):=by
 refine .bT func150 rfl rfl ?_
 refine .sr ?_
 refine .seq (.ay eD rfl ae (.rn [0] _ ?_))
 refine .pc rfl rfl rfl rfl rfl call116 (AX n) ?_
 refine .rn [2,3] [] ?_
 refine .done (.ret (au ?_))
 exact zk
theorem AY (l:List Int)(hl:l.length<4611686018427387904):aN prog 105 [ints l] fun r=>r=.bool (l.all dB):=by
 refine .bT func105 rfl rfl ?_
 refine .sr ?_
 refine .seq (.ay eD rfl ae (.rn [0] _ ?_))
 refine .pc rfl rfl rfl rfl rfl call149 (N6 l (PV.int .i64) (fun n=>!dB n) 150 [] [] hl (fun _=>rfl) rfl rfl (fun _=>rfl) call150 (fun n _=>N7 n)) ?_
 refine .rn [2,3] [] ?_
 refine .done (.ret (au ?_))
 rw[← z7h]
theorem N8 {α:Type}(l:List α)(enc:α→PV)(p:α→Bool)(f:FuncId)(xs ys:List PV)(hl:l.length<4611686018427387904)(hz:∀a,(enc a).cells.length=3)(he:∀a,PV.agg (List.take 3 (enc a).cells)=enc a)(hx:PV.aF xs=true)(hy:PV.aF ys=true)(hF:∀a,(enc a).aG=true)(dM:∀cs w,(callFunc f cs).run prog w=.ok (.enter f cs) w)(hp:∀a∈l,aN prog f (xs++[enc a]++ys) fun r=>r=.bool (p a)):aN prog 153 [.vec (l.map enc),.func f xs ys] fun r=>r=.int .i64 (iQ p 0 l):=by
 refine .bT func153 rfl rfl ?_
 refine .sr ?_
 refine .seq (.sr ?_)
 refine .block ?_
 refine .dw (fun s:Nat=>([(0,.vec (l.map enc)),(1,.func f xs ys),(7,.int .i64 l.length),(8,.int .i64 s)],ai.empty)) (fun s=>s≤l.length∧iQ p s (l.drop s)=iQ p 0 l) (fun s=>l.length - s) 0 ⟨by simp,by simp⟩ (.pure (by simp[*]) (by simp)) ?_
 rintro i ⟨hi,hr⟩
 simp only at hi hr ⊢
 refine .sr ?_
 refine .seq ?_
 refine .cs ?_ ?_<;>intro c9
 ·try simp at c9
  have et:=fA i
  rw[N1 p l i c9] at hr
  have he:=he l[i]
  have hz:=hz l[i]
  have hp:=hp l[i] (List.getElem_mem c9)
  refine .skip (.seq (.block (.sr ?_)))
  refine .seq (.ay kg rfl ae (.rn gQ _ ?_))
  refine .step rfl rfl (.pure rfl rfl rfl dM (by decide) (hp) (by first|rfl|simp[*]) ?_)
  rintro _ rfl
  refine .done ?_
  refine .cs ?_ ?_<;>intro qE
  ·try simp at qE
   refine .sr ?_
   refine .ret (au ?_)
   rw[← hr,if_pos qE]
  try simp at qE
  refine .skip (.rn ?_)
  refine⟨i+1,⟨bp,?_⟩,bp,.pure (by simp[*]) (by simp)⟩
  rw[← hr,if_neg (by simp[qE])]
 try simp at c9
 have:i=l.length:=by omega
 refine .exit (.sr ?_)
 refine .ret (au ?_)
 rw[← hr,this,List.drop_length];rfl
theorem N9 {α:Type}(l:List α)(enc:α→PV)(p:α→Bool)(f:FuncId)(xs ys:List PV)(hl:l.length<4611686018427387904)(hz:∀a,(enc a).cells.length=3)(he:∀a,PV.agg (List.take 3 (enc a).cells)=enc a)(hx:PV.aF xs=true)(hy:PV.aF ys=true)(hF:∀a,(enc a).aG=true)(dM:∀cs w,(callFunc f cs).run prog w=.ok (.enter f cs) w)(hp:∀a∈l,aN prog f (xs++[enc a]++ys) fun r=>r=.bool (p a)):aN prog 114 [.vec (l.map enc),.func f xs ys] fun r=>r=.bool (l.any p):=by
 refine .bT func114 rfl rfl ?_
 refine .sr ?_
 refine .seq (.ay gQ rfl ae (.rn [0,1] _ ?_))
 refine .pc rfl rfl rfl rfl rfl call153 (N8 l enc p f xs ys hl hz he hx hy hF dM hp) ?_
 refine .rn [3,4] [] ?_
 refine .done (.ret (au ?_))
 rw[← N3 _ l 0]
theorem Oa (y x:gZ):aN prog 115 [bk y,.vp [.int .i64 x.f,.int .i64 x.t,.int .i64 x.c]] fun r=>r=.bool (decide (y.f=x.f)&&decide (y.t=x.t)):=by
 unfold bk
 refine .bT func115 rfl rfl ?_
 refine .sr ?_
 refine .seq (.ay jq rfl ae (.rn kg _ ?_))
 refine .split (t:=9) rfl (fun c9=>?_) (fun c9=>?_)
 ·try rw[c9]
  try simp at c9
  refine .rn [6,7,8,9,10,11,12] [] ?_
  refine .done (.ret (au ?_))
  simp_all<;>rfl
 try rw[c9]
 try simp at c9
 refine .rn [6,7,8,9,10,11,12] [] ?_
 refine .done (.ret (au ?_))
 simp_all<;>rfl
end
def AZ (c:aj):Bool:=kL c.om&&kL c.le&&kL c.tw&&kL c.gl&&kL c.ad
theorem xh4 {c:aj}(h:AZ c=false):bl c=1:=by unfold AZ at h;unfold bl oe;rw[h];rfl
theorem xg7 {c:aj}(h:AZ c=true)(hl:20<c.mx.length):bl c=2:=by unfold AZ at h;unfold bl oe;rw[h,if_pos rfl,if_pos hl];rfl
theorem xfw {c:aj}(h:AZ c=true)(hl:¬20<c.mx.length)(hm:mc [] c.mx=false):bl c=1:=by unfold AZ at h;unfold bl oe;rw[h,if_pos rfl,if_neg hl,hm];rfl
theorem xgj {c:aj}(h:AZ c=true)(hl:¬20<c.mx.length)(hm:mc [] c.mx=true):bl c=if 48<c.t.length∨48<c.c.length∨6<c.g.length then 2 else if (c.t.all dB&&c.c.all dB&&c.g.all (jr c.t.length))=true then 0 else 1:=by
 unfold AZ at h;unfold bl oe;rw[h,if_pos rfl,if_neg hl,hm];simp
variable [bF] in
theorem sB (c:aj)(h:BC c):aN prog 55 [aH c] fun r=>r=.int .i64 (bl c):=by
 obtain⟨hm,ht,eM,hg,hw⟩:=h
 have e1:=@xh4 c
 have e2:=@xg7 c
 have e3:=@xfw c
 have e4:=@xgj c
 unfold AZ at e1 e2 e3 e4
 have q1:=uW c.om
 have q2:=uW c.le
 have q3:=uW c.tw
 have q4:=uW c.gl
 have q5:=uW c.ad
 generalize kL c.om=b1 at q1 e1 e2 e3 e4
 generalize kL c.le=b2 at q2 e1 e2 e3 e4
 generalize kL c.tw=b3 at q3 e1 e2 e3 e4
 generalize kL c.gl=b4 at q4 e1 e2 e3 e4
 generalize kL c.ad=b5 at q5 e1 e2 e3 e4
 unfold aH cR
 refine .bT func55 rfl rfl ?_
 refine .sr ?_
 refine .sr ?_
 refine .seq (.seq (.ay HD rfl ae (.rn [0,1] _ ?_)))
 refine .pc rfl rfl rfl rfl rfl call113 (q1) ?_
 refine .rn [3,4] _ ?_
 refine .split (t:=15) rfl (fun cI=>?_) (fun cI=>?_)
 ·first|cases cI|(have h:=lE cI;cases h)|(have h:=lF cI;cases h)|try rw[cI]
  try simp at cI
  refine .rn [5,6,7,8,9,10,11,12,13,14,15,16,17,18,19,20,21,22,23,24,25,26,27] [] ?_
  refine .done (.eA rfl (.sr ?_))
  refine .ret (au ?_)
  rw[e1 (by simp)]
 first|cases cI|(have h:=lE cI;cases h)|(have h:=lF cI;cases h)|try rw[cI]
 try simp at cI
 refine .rn [5,6] _ ?_
 refine .pc rfl rfl rfl rfl rfl call113 (q2) ?_
 refine .rn [8,9,10] _ ?_
 refine .split (t:=21) rfl (fun dm=>?_) (fun dm=>?_)
 ·first|cases dm|(have h:=lE dm;cases h)|(have h:=lF dm;cases h)|try rw[dm]
  try simp at dm
  refine .rn [11,12,13,14,15,16,17,18,19,20,21,22,23,24,25,26,27] [] ?_
  refine .done (.eA rfl (.sr ?_))
  refine .ret (au ?_)
  rw[e1 (by simp)]
 first|cases dm|(have h:=lE dm;cases h)|(have h:=lF dm;cases h)|try rw[dm]
 try simp at dm
 refine .rn [11,12] _ ?_
 refine .pc rfl rfl rfl rfl rfl call113 (q3) ?_
 refine .rn [14,15,16] _ ?_
 refine .split (t:=27) rfl (fun eV=>?_) (fun eV=>?_)
 ·first|cases eV|(have h:=lE eV;cases h)|(have h:=lF eV;cases h)|try rw[eV]
  try simp at eV
  refine .rn [17,18,19,20,21,22,23,24,25,26,27] [] ?_
  refine .done (.eA rfl (.sr ?_))
  refine .ret (au ?_)
  rw[e1 (by simp)]
 first|cases eV|(have h:=lE eV;cases h)|(have h:=lF eV;cases h)|try rw[eV]
 try simp at eV
 refine .rn [17,18] _ ?_
 refine .pc rfl rfl rfl rfl rfl call113 (q4) ?_
 refine .rn [20,21,22] _ ?_
 refine .split (t:=33) rfl (fun rG=>?_) (fun rG=>?_)
 ·first|cases rG|(have h:=lE rG;cases h)|(have h:=lF rG;cases h)|try rw[rG]
  try simp at rG
  refine .rn [23,24,25,26,27] [] ?_
  refine .done (.eA rfl (.sr ?_))
  refine .ret (au ?_)
  rw[e1 (by simp)]
 first|cases rG|(have h:=lE rG;cases h)|(have h:=lF rG;cases h)|try rw[rG]
 try simp at rG
 refine .rn [23,24] _ ?_
 refine .pc rfl rfl rfl rfl rfl call113 (q5) ?_
 refine .rn [26,27] [] ?_
 refine .done ?_
 refine .cs ?_ ?_<;>intro kM
 ·try simp at kM
  refine .sr ?_
  refine .ret (au ?_)
  rw[e1 (by simp[kM])]
 try simp at kM
 clear e1
 subst kM
 refine .skip (.seq (.sr ?_))
 refine .cs ?_ ?_<;>intro Cx
 ·try simp at Cx
  refine .sr ?_
  refine .ret (au ?_)
  rw[e2 rfl (by omega)]
 try simp at Cx
 have e3:=e3 rfl (by omega)
 have e4:=e4 rfl (by omega)
 clear e2
 refine .skip (.seq (.sr ?_))
 refine .block ?_
 refine .dw (fun k:Nat=>([(1,.ptr 0 0),(3,.ptr 1 0),(44,.vec (c.mx.map bk)),(45,.int .i64 c.mx.length),(46,.int .i64 k)],⟨2,[(1,.box [.int .i64 c.om,.int .i64 c.le,.int .i64 c.tw,.int .i64 c.gl,.int .i64 c.ad,.vec (c.mx.map bk)]),(0,.box (cQ c))]⟩)) (fun k=>k≤c.mx.length∧mc (c.mx.take k) (c.mx.drop k)=mc [] c.mx) (fun k=>c.mx.length - k) 0 ⟨by simp,by simp⟩ bn ?_
 rintro k ⟨hk,hr⟩
 simp only at hk hr ⊢
 refine .sr ?_
 refine .seq ?_
 refine .cs ?_ ?_<;>intro A0
 ·try simp at A0
  have et:=fA k
  rw[TB _ _ A0] at hr
  have hE:=Tz c.mx[k]
  obtain⟨x,hx⟩:∃x,c.mx[k]=x:=⟨_,rfl⟩
  rw[hx] at hr hE
  have hS:List.take k (c.mx.map bk)=(c.mx.take k).map bk:=List.map_take.symm
  have Ob:(c.mx.take k).length=k:=by rw[List.length_take];omega
  have jQ:mT (c.mx.take k) x=true→mc (c.mx.take (k+1)) (c.mx.drop (k+1))=mc [] c.mx:=fun h=>by rw[← hr,h];rfl
  have pK:mT (c.mx.take k) x=false→mc [] c.mx=false:=fun h=>by rw[← hr,h];rfl
  clear hr
  obtain⟨S,TC⟩:∃S,c.mx.take k=S:=⟨_,rfl⟩
  rw[TC] at hS Ob pK jQ
  clear TC
  have HE:=N9 S bk (fun y=>decide (y.f=x.f)&&decide (y.t=x.t)) 115 [] [.vp [.int .i64 x.f,.int .i64 x.t,.int .i64 x.c]] (by omega) (fun _=>rfl) (fun _=>rfl) rfl rfl (fun _=>by simp) call115 (fun y _=>Oa y x)
  have jc:mT S x=(dB x.f&&dB x.t&&!decide (x.f=x.t)&&kL x.c&&!(S.any fun y=>decide (y.f=x.f)&&decide (y.t=x.t))):=rfl
  have w1:=AX x.f
  have w2:=AX x.t
  have w3:=uW x.c
  generalize (S.any fun y=>decide (y.f=x.f)&&decide (y.t=x.t))=av at HE jc
  generalize dB x.f=v1 at w1 jc
  generalize dB x.t=v2 at w2 jc
  generalize kL x.c=v3 at w3 jc
  have gC:mT S x=false→bl c=1:=fun h=>e3 (pK h)
  refine .skip (.seq (.block (.sr ?_)))
  refine .seq (.ay ik rfl ae (.rn gQ _ ?_))
  refine .step rfl rfl (.borrow rfl rfl rfl call114 (by decide) (by first|(simp<;>rfl)|(simp[*]<;>rfl)|(simp[*];done)) (HE) (by rintro _ rfl<;>first|(simp;done)|rfl) ?_)
  rintro _ rfl
  refine .rn [6] [] ?_
  refine .done (.seq (.ay [0,1,2,3,4,5,6,7,8,9,10,11,12,13,14,15,16,17,18,19,20,21,22,23,24,25] rfl ae ?_))
  refine .rn [0,1] _ ?_
  refine .pc rfl rfl rfl rfl rfl call116 (w1) ?_
  refine .rn [3,4] _ ?_
  refine .split (t:=61) rfl (fun xA=>?_) (fun xA=>?_)
  ·first|cases xA|(have h:=lE xA;cases h)|(have h:=lF xA;cases h)|try rw[xA]
   try simp at xA
   refine .rn [5,6,7,8,9,10,11,12,13,14,15,16,17,18,19,20,21,22,23,24,25] [] ?_
   refine .done (.eA rfl (.sr ?_))
   refine .ret (au ?_)
   rw[gC (by rw[jc];simp)]
  first|cases xA|(have h:=lE xA;cases h)|(have h:=lF xA;cases h)|try rw[xA]
  try simp at xA
  refine .rn [5,6] _ ?_
  refine .pc rfl rfl rfl rfl rfl call116 (w2) ?_
  refine .rn [8,9,10] _ ?_
  refine .split (t:=67) rfl (fun xB=>?_) (fun xB=>?_)
  ·first|cases xB|(have h:=lE xB;cases h)|(have h:=lF xB;cases h)|try rw[xB]
   try simp at xB
   refine .rn [11,12,13,14,15,16,17,18,19,20,21,22,23,24,25] [] ?_
   refine .done (.eA rfl (.sr ?_))
   refine .ret (au ?_)
   rw[gC (by rw[jc];simp)]
  first|cases xB|(have h:=lE xB;cases h)|(have h:=lF xB;cases h)|try rw[xB]
  try simp at xB
  refine .rn [11,12,13,14,15,16,17] _ ?_
  refine .split (t:=74) rfl (fun mA=>?_) (fun mA=>?_)
  ·first|cases mA|(have h:=lE mA;cases h)|(have h:=lF mA;cases h)|try rw[mA]
   try simp at mA
   refine .rn [18,19,20,21,22,23,24,25] [] ?_
   refine .done (.eA rfl (.sr ?_))
   refine .ret (au ?_)
   rw[gC (by rw[jc];simp[mA])]
  first|cases mA|(have h:=lE mA;cases h)|(have h:=lF mA;cases h)|try rw[mA]
  try simp at mA
  refine .rn [18,19] _ ?_
  refine .pc rfl rfl rfl rfl rfl call113 (w3) ?_
  refine .rn [21,22,23] _ ?_
  refine .split (t:=80) rfl (fun rH=>?_) (fun rH=>?_)
  ·first|cases rH|(have h:=lE rH;cases h)|(have h:=lF rH;cases h)|try rw[rH]
   try simp at rH
   refine .rn [24,25] [] ?_
   refine .done (.eA rfl (.sr ?_))
   refine .ret (au ?_)
   rw[gC (by rw[jc];simp)]
  first|cases rH|(have h:=lE rH;cases h)|(have h:=lF rH;cases h)|try rw[rH]
  try simp at rH
  refine .rn [24,25] [] ?_
  refine .done ?_
  refine .cs ?_ ?_<;>intro v7
  ·try simp at v7
   refine .sr ?_
   refine .ret (au ?_)
   rw[gC (by rw[jc];simp[v7])]
  try simp at v7
  refine .skip (.rn ?_)
  refine⟨k+1,⟨bp,?_⟩,bp,bn⟩
  exact jQ (by rw[jc];simp[mA,v7])
 try simp at A0
 have eG:k=c.mx.length:=by omega
 subst eG
 rw[List.take_length,List.drop_length] at hr
 have e4:=e4 hr.symm
 clear e3 hr
 refine .exit (.seq (.seq (.ay HF rfl ae (.rn gQ _ ?_))))
 refine .split (t:=88) rfl (fun sC=>?_) (fun sC=>?_)
 ·first|cases sC|(have h:=lE sC;cases h)|(have h:=lF sC;cases h)|try rw[sC]
  try simp at sC
  refine .rn [5,6,7,8,9,10,11,12,13,14,15] [] ?_
  refine .done (.eA rfl (.sr ?_))
  refine .ret (au ?_)
  rw[e4,if_pos (by omega)]
 first|cases sC|(have h:=lE sC;cases h)|(have h:=lF sC;cases h)|try rw[sC]
 try simp at sC
 refine .rn [5,6,7,8,9,10] _ ?_
 refine .split (t:=94) rfl (fun rI=>?_) (fun rI=>?_)
 ·first|cases rI|(have h:=lE rI;cases h)|(have h:=lF rI;cases h)|try rw[rI]
  try simp at rI
  refine .rn [11,12,13,14,15] [] ?_
  refine .done (.eA rfl (.sr ?_))
  refine .ret (au ?_)
  rw[e4,if_pos (by omega)]
 first|cases rI|(have h:=lE rI;cases h)|(have h:=lF rI;cases h)|try rw[rI]
 try simp at rI
 refine .rn [11,12,13,14,15] [] ?_
 refine .done ?_
 refine .cs ?_ ?_<;>intro DV
 ·try simp at DV
  refine .sr ?_
  refine .ret (au ?_)
  rw[e4,if_pos (by omega)]
 try simp at DV
 rw[if_neg (by omega)] at e4
 have w1:=AY c.t ht
 have w2:=AY c.c eM
 generalize c.t.all dB=v1 at w1 e4
 generalize c.c.all dB=v2 at w2 e4
 refine .skip (.seq (.seq (.ay fM rfl ae (.rn [0,1] _ ?_))))
 refine .pc rfl rfl rfl rfl rfl call105 (w1) ?_
 refine .rn [3,4] _ ?_
 refine .split (t:=104) rfl (fun iR=>?_) (fun iR=>?_)
 ·first|cases iR|(have h:=lE iR;cases h)|(have h:=lF iR;cases h)|try rw[iR]
  try simp at iR
  refine .rn [5,6,7,8,9] [] ?_
  refine .done (.eA rfl (.sr ?_))
  refine .ret (au ?_)
  rw[e4];simp
 first|cases iR|(have h:=lE iR;cases h)|(have h:=lF iR;cases h)|try rw[iR]
 try simp at iR
 refine .rn [5,6] _ ?_
 refine .pc rfl rfl rfl rfl rfl call105 (w2) ?_
 refine .rn [8,9] [] ?_
 refine .done ?_
 refine .cs ?_ ?_<;>intro A1
 ·try simp at A1
  refine .sr ?_
  refine .ret (au ?_)
  rw[e4];simp[A1]
 try simp at A1
 subst A1
 refine .skip (.seq (.sr ?_))
 refine .block ?_
 refine .dw (fun k:Nat=>([(1,.ptr 0 0),(111,.vec (c.g.map bV)),(112,.int .i64 c.g.length),(113,.int .i64 k)],⟨1,[(0,.box (cQ c))]⟩)) (fun k=>k≤c.g.length∧(c.g.drop k).all (jr c.t.length)=c.g.all (jr c.t.length)) (fun k=>c.g.length - k) 0 ⟨by simp,by simp⟩ bn ?_
 rintro k ⟨hk,hr⟩
 simp only at hk hr ⊢
 refine .sr ?_
 refine .seq ?_
 refine .cs ?_ ?_<;>intro fX
 ·try simp at fX
  have et:=fA k
  rw[z4p _ _ _ fX] at hr
  have hE:=TA c.g[k]
  have uX:=hw c.g[k] (List.getElem_mem fX)
  obtain⟨x,hx⟩:∃x,c.g[k]=x:=⟨_,rfl⟩
  rw[hx] at hr hE uX
  have Cy:jr c.t.length x=((decide (0≤x.at_)&&decide (x.at_≤(c.t.length:Int)))&&(decide (1≤x.ws.length)&&decide (x.ws.length≤6))&&x.ws.all dB):=rfl
  have z1:=xz x.at_ 0 (c.t.length:Int)
  have z2:=xz (x.ws.length:Int) 1 6
  have z3:=AY x.ws uX
  have e12:(decide (1≤x.ws.length)&&decide (x.ws.length≤6))=(decide (1≤(x.ws.length:Int))&&decide ((x.ws.length:Int)≤6)):=by rw[Bool.eq_iff_iff];simp;omega
  rw[e12] at Cy
  generalize (decide (0≤x.at_)&&decide (x.at_≤(c.t.length:Int)))=a1 at z1 Cy
  generalize (decide (1≤(x.ws.length:Int))&&decide ((x.ws.length:Int)≤6))=a2 at z2 Cy
  generalize x.ws.all dB=a3 at z3 Cy
  have gC:jr c.t.length x=false→bl c=1:=fun h=>by rw[e4,← hr,h];simp
  refine .skip (.seq (.block (.sr ?_)))
  refine .seq (.ay [0,1,2,3,4,5,6,7,8,9,10,11,12,13,14,15,16,17,18,19] rfl ae (.rn gQ _ ?_))
  refine .pc rfl rfl rfl rfl rfl call85 (z1) ?_
  refine .rn [6,7] _ ?_
  refine .split (t:=124) rfl (fun mU=>?_) (fun mU=>?_)
  ·first|cases mU|(have h:=lE mU;cases h)|(have h:=lF mU;cases h)|try rw[mU]
   try simp at mU
   refine .rn [8,9,10,11,12,13,14,15,16,17,18,19] [] ?_
   refine .done (.eA rfl (.sr ?_))
   refine .ret (au ?_)
   rw[gC (by rw[Cy];simp)]
  first|cases mU|(have h:=lE mU;cases h)|(have h:=lF mU;cases h)|try rw[mU]
  try simp at mU
  refine .rn [8,9,10] _ ?_
  refine .pc rfl rfl rfl rfl rfl call85 (z2) ?_
  refine .rn [12,13,14] _ ?_
  refine .split (t:=131) rfl (fun js=>?_) (fun js=>?_)
  ·first|cases js|(have h:=lE js;cases h)|(have h:=lF js;cases h)|try rw[js]
   try simp at js
   refine .rn [15,16,17,18,19] [] ?_
   refine .done (.eA rfl (.sr ?_))
   refine .ret (au ?_)
   rw[gC (by rw[Cy];simp)]
  first|cases js|(have h:=lE js;cases h)|(have h:=lF js;cases h)|try rw[js]
  try simp at js
  refine .rn [15,16] _ ?_
  refine .pc rfl rfl rfl rfl rfl call105 (z3) ?_
  refine .rn [18,19] [] ?_
  refine .done ?_
  refine .cs ?_ ?_<;>intro og
  ·try simp at og
   refine .sr ?_
   refine .ret (au ?_)
   rw[gC (by rw[Cy];simp[og])]
  try simp at og
  refine .skip (.rn ?_)
  refine⟨k+1,⟨bp,?_⟩,bp,bn⟩
  rw[← hr,Cy];simp[og]
 try simp at fX
 have eG:k=c.g.length:=by omega
 subst eG
 rw[List.drop_length] at hr
 rw[← hr] at e4
 refine .exit (.sr ?_)
 refine .ret (au ?_)
 rw[e4];simp
def iF (i j:Int):PV:=.agg [.int .i64 i,.int .i64 j]
def eW (w:List Int):PV:=if w=[] then .aI else ints w
theorem A2:eW []=.aI:=rfl
theorem TD (a:Int)(r:List Int):eW (a::r)=ints (a::r):=rfl
theorem HG {w:List Int}(h:w≠[]):eW w=ints w:=if_neg h
@[simp] theorem sD (w:List Int):(eW w).cells=[eW w]:=by unfold eW;split<;>rfl
@[simp] theorem rJ (w:List Int):(eW w).aG=true:=by unfold eW;split<;>simp[PV.aG]
@[simp] theorem Oc (vh:ai)(w:List Int):bI vh (eW w)=some (eW w):=Od vh (rJ w)
def HH (c:aj)(s:aq):PV:=match aJ c s with
 |some (n,i',w)=>.bx [.int .i64 n,eW w,iF i' (IntKind.i64.wrap (s.i+w.length)),.bool true]
 |none=>.bx [.int .i64 0,.aI,iF 0 0,.bool false]
def JP (c:aj)(s:aq)(n i:Int)(b:Bool)(w:List Int)(l' w':Int):Prop:=
 (b=true→l'=s.l→w'=s.w→∃i':Nat,i=i'∧aJ c s=some (n,i',w))∧((b=false∨l'≠s.l∨w'≠s.w)→aJ c s=none)
theorem TE {c:aj}{s:aq}(h:¬(0≤s.a∧s.a≤(c.t.length:Int)∧0≤s.i)):aJ c s=none:=if_neg h
def pX (c:aj)(s:aq)(k:Nat):Option Int:=if s.a.toNat<c.t.length then pY (c.mx.take k) (c.t.getD s.a.toNat 0) s.w else none
def oW:Option Int→Int→List Int
 |none,_=>[]
 |some _,w=>[w]
theorem J1 {c:aj}{s:aq}(hk:bl c=0)(h:0≤s.a∧s.a≤(c.t.length:Int)∧0≤s.i)(h1:s.k=1):JP c s ((pX c s c.mx.length).getD 0) (if (pX c s c.mx.length).isSome then s.a+1 else s.a) (pX c s c.mx.length).isSome (oW (pX c s c.mx.length) s.w) 0 s.w:=by
 have e:pX c s c.mx.length=if s.a.toNat<c.t.length then ed c.mx (c.t.getD s.a.toNat 0) s.w else none:=by unfold pX;rw[List.take_length,z7z hk]
 have hd:aJ c s=if s.a.toNat<c.t.length∧s.l=0 then (ed c.mx (c.t.getD s.a.toNat 0) s.w).map fun n=>(n,s.a.toNat+1,[s.w]) else none:=by
  unfold aJ;rw[if_pos h];simp only[h1,if_true]
 rw[e]
 by_cases ha:s.a.toNat<c.t.length
 ·rw[if_pos ha]
  cases hm:ed c.mx (c.t.getD s.a.toNat 0) s.w with
  |none=>exact⟨fun h=>(by cases h),fun _=>by rw[hd,hm];simp⟩
  |some n=>
   refine⟨fun _ hl _=>⟨s.a.toNat+1,by simp;omega,by rw[hd,if_pos ⟨ha,hl.symm⟩,hm];rfl⟩,?_⟩
   rintro (h|h|h)
   ·cases h
   ·rw[hd,if_neg (fun hh=>h hh.2.symm)]
   exact absurd rfl h
 rw[if_neg ha]
 exact⟨fun h=>(by cases h),fun _=>by rw[hd,if_neg fun hh=>ha hh.1]⟩
theorem J2 {c:aj}{s:aq}(h:0≤s.a∧s.a≤(c.t.length:Int)∧0≤s.i)(h1:s.k=2):JP c s c.om (s.a+1) (decide (s.a<(c.t.length:Int))) [] 0 0:=by
 have hd:aJ c s=if s.a.toNat<c.t.length∧s.l=0∧s.w=0 then some (c.om,s.a.toNat+1,[]) else none:=by
  unfold aJ;rw[if_pos h];simp[h1]
 refine⟨fun hb hl hw=>⟨s.a.toNat+1,by omega,by rw[hd,if_pos ⟨by simp at hb;omega,hl.symm,hw.symm⟩]⟩,fun hh=>by rw[hd,if_neg];rintro⟨a1,a2,a3⟩;rcases hh with hh|hh|hh<;>simp_all<;>omega⟩
theorem J3 {c:aj}{s:aq}{b:Bool}{i:Int}(h:0≤s.a∧s.a≤(c.t.length:Int)∧0≤s.i)(h1:s.k=3)(hi:b=true→i=s.a+s.l)(hb:b=true↔1≤s.a∧1≤s.l∧s.l≤(c.t.length:Int) - s.a∧c.t.getD (s.a.toNat+s.l.toNat - 1) 0=c.t.getD (s.a.toNat - 1) 0):JP c s c.le i b [] s.l 0:=by
 have hd:aJ c s=if 1≤s.a.toNat∧1≤s.l∧s.l≤(c.t.length:Int) - s.a∧s.w=0∧c.t.getD (s.a.toNat+s.l.toNat - 1) 0=c.t.getD (s.a.toNat - 1) 0 then some (c.le,s.a.toNat+s.l.toNat,[]) else none:=by
  unfold aJ;rw[if_pos h];simp[h1]
 refine⟨fun v8 _ hw=>?_,fun hh=>?_⟩
 ·obtain⟨a1,a2,a3,a4⟩:=hb.1 v8
  exact⟨s.a.toNat+s.l.toNat,by rw[hi v8];omega,by rw[hd,if_pos ⟨by omega,a2,a3,hw.symm,a4⟩]⟩
 rw[hd,if_neg]
 rintro⟨a1,a2,a3,a4,a5⟩
 have:=hb.2 ⟨by omega,a2,a3,a5⟩
 rcases hh with hh|hh|hh
 ·rw[this] at hh;cases hh
 ·exact hh rfl
 exact hh a4.symm
theorem J4 {c:aj}{s:aq}{b:Bool}{w:List Int}(h:0≤s.a∧s.a≤(c.t.length:Int)∧0≤s.i)(h1:s.k=4)(hb:b=true↔1≤s.l∧s.l≤s.a)(hw:b=true→w=(c.t.drop (s.a.toNat - s.l.toNat)).take s.l.toNat):JP c s c.tw s.a b w s.l 0:=by
 have hd:aJ c s=if 1≤s.l∧s.l≤s.a∧s.w=0 then some (c.tw,s.a.toNat,(c.t.drop (s.a.toNat - s.l.toNat)).take s.l.toNat) else none:=by
  unfold aJ;rw[if_pos h];simp[h1]
 refine⟨fun v8 _ vV=>?_,fun hh=>?_⟩
 ·obtain⟨a1,a2⟩:=hb.1 v8
  exact⟨s.a.toNat,by omega,by rw[hd,if_pos ⟨a1,a2,vV.symm⟩,hw v8]⟩
 rw[hd,if_neg]
 rintro⟨a1,a2,a3⟩
 have:=hb.2 ⟨a1,a2⟩
 rcases hh with hh|hh|hh
 ·rw[this] at hh;cases hh
 ·exact hh rfl
 exact hh a3.symm
theorem J5 {c:aj}{s:aq}{b:Bool}{w:List Int}(h:0≤s.a∧s.a≤(c.t.length:Int)∧0≤s.i)(h1:s.k=5)(hb:b=true↔0≤s.l∧s.l≤(c.g.length:Int) - 1∧(c.g.getD s.l.toNat ⟨0,[]⟩).at_=s.a)(hw:b=true→w=(c.g.getD s.l.toNat ⟨0,[]⟩).ws):JP c s c.gl s.a b w s.l 0:=by
 have hd:aJ c s=if 0≤s.l∧s.l≤(c.g.length:Int) - 1∧s.w=0∧(c.g.getD s.l.toNat ⟨0,[]⟩).at_=s.a then some (c.gl,s.a.toNat,(c.g.getD s.l.toNat ⟨0,[]⟩).ws) else none:=by
  unfold aJ;rw[if_pos h];simp[h1]
 refine⟨fun v8 _ vV=>?_,fun hh=>?_⟩
 ·obtain⟨a1,a2,a3⟩:=hb.1 v8
  exact⟨s.a.toNat,by omega,by rw[hd,if_pos ⟨a1,a2,vV.symm,a3⟩,hw v8]⟩
 rw[hd,if_neg]
 rintro⟨a1,a2,a3,a4⟩
 have:=hb.2 ⟨a1,a2,a4⟩
 rcases hh with hh|hh|hh
 ·rw[this] at hh;cases hh
 ·exact hh rfl
 exact hh a3.symm
theorem J6 {c:aj}{s:aq}(h:0≤s.a∧s.a≤(c.t.length:Int)∧0≤s.i)(h1:s.k=6):JP c s c.ad s.a (dB s.w) [s.w] 0 s.w:=by
 have hd:aJ c s=if dB s.w=true∧s.l=0 then some (c.ad,s.a.toNat,[s.w]) else none:=by
  unfold aJ;rw[if_pos h];simp[h1]
 refine⟨fun v8 hl _=>⟨s.a.toNat,by omega,by rw[hd,if_pos ⟨v8,hl.symm⟩]⟩,fun hh=>?_⟩
 rw[hd,if_neg]
 rintro⟨a1,a2⟩
 rcases hh with hh|hh|hh
 ·rw[a1] at hh;cases hh
 ·exact hh a2.symm
 exact hh rfl
theorem J0 {c:aj}{s:aq}{i:Int}(h1:s.k≠1)(h2:s.k≠2)(h3:s.k≠3)(h4:s.k≠4)(h5:s.k≠5)(h6:s.k≠6):JP c s 0 i false [] 0 0:=by
 refine⟨fun h=>(by cases h),fun _=>?_⟩
 unfold aJ
 split
 ·simp[h1,h2,h3,h4,h5,h6]
 rfl
attribute [local simp] cQ bQ fN pZ
attribute [local simp ↓ high] sD rJ
theorem z3f {c:aj}{s:aq}{k:Nat}(h:k<c.mx.length):pX c s (k+1)=if s.a.toNat<c.t.length∧c.mx[k].f=c.t.getD s.a.toNat 0∧c.mx[k].t=s.w then some c.mx[k].c else pX c s k:=by
 unfold pX
 by_cases ha:s.a.toNat<c.t.length
 ·rw[if_pos ha,if_pos ha,z0n h]
  simp only[ha,true_and]
 rw[if_neg ha,if_neg ha,if_neg fun hh=>ha hh.1]
theorem zxx {c:aj}{s:aq}{k:Nat}(hk:bl c=0)(h:k<c.mx.length)(h1:c.mx[k].f=c.t.getD s.a.toNat 0)(h2:c.mx[k].t=s.w):pX c s k=none:=by
 have hp:=TF hk
 unfold pX
 split
 ·unfold pY
  rw[Oe none (hp.sublist (List.take_sublist k _)),TG]
  ·rfl
  intro x hx hh
  obtain⟨j,hj,rfl⟩:=List.mem_iff_getElem.1 hx
  rw[List.length_take] at hj
  rw[List.getElem_take] at hh
  exact(List.pairwise_iff_getElem.1 hp) j k (by omega) h (by omega) ⟨hh.1.trans h1.symm,hh.2.trans h2.symm⟩
 rfl
theorem A3 {c:aj}{s:aq}(h:aJ c s=none):HH c s=.bx [.int .i64 0,.aI,iF 0 0,.bool false]:=by unfold HH;rw[h]
theorem zD {c:aj}{s:aq}{n:Int}{i':Nat}{w:List Int}(h:aJ c s=some (n,i',w)):HH c s=.bx [.int .i64 n,eW w,iF i' (IntKind.i64.wrap (s.i+w.length)),.bool true]:=by unfold HH;rw[h]
section
variable [bF]
theorem FP (c:aj)(s:aq)(hk:bl c=0):aN prog 95 [aH c,encS s] fun r=>r=HH c s:=by
 have bo:=gR hk
 have oh:=bo.tl
 have Of:=bo.HI
 have sE:=bo.wc
 have kh:=xz s.a 0 (c.t.length:Int)
 have DW:=@TE c s
 obtain⟨iv,K4⟩:∃b,(decide (0≤s.a)&&decide (s.a≤(c.t.length:Int)))=b:=⟨_,rfl⟩
 rw[K4] at kh
 obtain⟨an,HJ⟩:∃an:Nat,s.a.toNat=an:=⟨_,rfl⟩
 obtain⟨ln,HK⟩:∃ln:Nat,s.l.toNat=ln:=⟨_,rfl⟩
 obtain⟨kn,pQ⟩:∃kn:Nat,an+ln - 1=kn:=⟨_,rfl⟩
 obtain⟨am,TH⟩:∃am:Nat,an - 1=am:=⟨_,rfl⟩
 obtain⟨dn,DG⟩:∃dn:Nat,an - ln=dn:=⟨_,rfl⟩
 obtain⟨v1,iS⟩:∃v,c.t.getD kn 0=v:=⟨_,rfl⟩
 obtain⟨v2,eN⟩:∃v,c.t.getD am 0=v:=⟨_,rfl⟩
 obtain⟨W,hW⟩:∃W,(c.t.drop dn).take ln=W:=⟨_,rfl⟩
 obtain⟨tv,mB⟩:∃v,c.t.getD an 0=v:=⟨_,rfl⟩
 obtain⟨gv,sF⟩:∃v,c.g.getD ln ⟨0,[]⟩=v:=⟨_,rfl⟩
 obtain⟨e30,xC⟩:∃b,decide (1≤(an:Int))=b:=⟨_,rfl⟩
 obtain⟨e31,uY⟩:∃b,(decide (1≤s.l)&&decide (s.l≤(c.t.length:Int) - (an:Int)))=b:=⟨_,rfl⟩
 obtain⟨e41,uZ⟩:∃b,(decide (1≤s.l)&&decide (s.l≤(an:Int)))=b:=⟨_,rfl⟩
 obtain⟨e51,u3⟩:∃b,(decide (0≤s.l)&&decide (s.l≤(c.g.length:Int) - 1))=b:=⟨_,rfl⟩
 obtain⟨TI,DX⟩:∃b,dB s.w=b:=⟨_,rfl⟩
 unfold aH cR encS
 refine .bT func95 rfl rfl ?_
 refine .sr ?_
 refine .seq (.seq (.ay xD rfl ae (.rn gQ _ ?_)))
 refine .pc rfl rfl rfl rfl rfl call85 (kh) ?_
 refine .rn [6,7] _ ?_
 refine .split (t:=22) rfl (fun wg=>?_) (fun wg=>?_)
 ·try subst wg
  try simp at wg
  refine .rn [8,9,10,11] [] ?_
  refine .done (.eA rfl (.sr ?_))
  refine .ret (au ?_)
  rw[A3 (DW (by subst wg;simp at K4;omega))];rfl
 try subst wg
 try simp at wg
 refine .rn [8,9,10,11] [] ?_
 refine .done ?_
 refine .cs ?_ ?_<;>intro jI
 ·try simp at jI
  refine .sr ?_
  refine .ret (au ?_)
  rw[A3 (DW (by omega))];rfl
 try simp at jI
 have dx:0≤s.a∧s.a≤(c.t.length:Int)∧0≤s.i:=by subst wg;simp at K4;omega
 clear K4
 clear DW
 have oq:s.a=(an:Int):=by omega
 refine .skip (.sr ?_)
 refine .seq ?_
 refine .drawn (ms:=[0,1,0,7,15]) (W:=[]) (items:=[.op 0,.op 1,.op 2,.op 3,.op 4]) rfl ae ae ae ?_
 iterate 5 refine .rx ?_
 refine .done (.sr ?_)
 refine .join (fun z:Int×Int×Bool×List Int×Int×Int=>([(3,.ptr 1 0),(6,.ptr 2 0),(8,.ptr 3 0),(9,.int .i64 z.1),(10,.int .i64 z.2.1),(11,.bool z.2.2.1),(12,eW z.2.2.2.1)],⟨4,[(3,.box [.int .i64 s.k,.int .i64 s.a,.int .i64 s.i,.int .i64 z.2.2.2.2.1,.int .i64 z.2.2.2.2.2]),(2,.box [.int .i64 0,.int .i64 0]),(1,.box [.int .i64 s.k,.int .i64 s.a,.int .i64 s.i,.int .i64 s.l,.int .i64 s.w])]⟩)) (fun z=>JP c s z.1 z.2.1 z.2.2.1 z.2.2.2.1 z.2.2.2.2.1 z.2.2.2.2.2) ?_ ?_
 ·skip
  refine .sr ?_
  refine .block (.sr ?_)
  refine .cs ?_ ?_<;>intro A4
  ·try simp at A4
   have FQ:=fA an
   have h1:s.k=1:=by simpa using A4
   have di:=J1 hk dx h1
   have nC:(pX c s 0)=none:=by unfold pX;split<;>rfl
   refine .sr ?_
   refine .sr ?_
   refine .block ?_
   refine .dw (fun k:Nat=>([(2,.ptr 0 0),(3,.ptr 1 0),(6,.ptr 2 0),(8,.ptr 3 0),(9,.int .i64 ((pX c s k).getD 0)),(10,.int .i64 (if (pX c s k).isSome then s.a+1 else s.a)),(11,.bool (pX c s k).isSome),(12,eW (oW (pX c s k) s.w)),(46,.vec (c.mx.map bk)),(47,.int .i64 c.mx.length),(48,.int .i64 k)],⟨4,[(3,.box [.int .i64 s.k,.int .i64 s.a,.int .i64 s.i,.int .i64 0,.int .i64 s.w]),(2,.box [.int .i64 0,.int .i64 0]),(1,.box [.int .i64 s.k,.int .i64 s.a,.int .i64 s.i,.int .i64 s.l,.int .i64 s.w]),(0,.box (cQ c))]⟩)) (fun k=>k≤c.mx.length) (fun k=>c.mx.length - k) 0 (by simp) (by rw[nC];exact bn) ?_
   rintro k eG
   simp only at eG ⊢
   refine .sr ?_
   refine .seq ?_
   refine .cs ?_ ?_<;>intro p6
   ·try simp at p6
    have et:=fA k
    have iu:=z3f (s:=s) p6
    have oX:=zxx (s:=s) hk p6
    have hE:=Tz c.mx[k]
    obtain⟨x,hx⟩:∃x,c.mx[k]=x:=⟨_,rfl⟩
    rw[hx,HJ] at iu oX
    rw[hx] at hE
    obtain⟨o,ho⟩:∃o,pX c s k=o:=⟨_,rfl⟩
    rw[ho] at iu oX ⊢
    rw[mB] at iu oX
    rw[oq]
    obtain⟨e0,dz⟩:∃b,decide (an<c.t.length)=b:=⟨_,rfl⟩
    obtain⟨e1,gn⟩:∃b,(tv==x.f)=b:=⟨_,rfl⟩
    obtain⟨e2,xE⟩:∃b,(x.t==s.w)=b:=⟨_,rfl⟩
    refine .skip (.seq (.block (.sr ?_)))
    refine .seq ?_
    refine .drawn (ms:=[0,1,0,4,12,31,63,127,255,127,639,2047,4095,127,8319,32767,65535,131071,262143,524287,262143,1310719,4194303,8388607]) (W:=[]) (items:=TJ) rfl ae ae ae ?_
    iterate 7 refine .rx ?_
    refine .split (t:=58) rfl (fun Cz=>?_) (fun Cz=>?_)
    ·try subst Cz
     try simp at Cz
     have oT:an<c.t.length:=by simpa using dz
     have hg:c.t[an]=tv:=by rw[← mB,List.getD_eq_getElem?_getD,List.getElem?_eq_getElem oT];rfl
     iterate 11 refine .rx ?_
     refine .split (t:=69) rfl (fun zF=>?_) (fun zF=>?_)
     ·try subst zF
      try simp at zF
      iterate 6 refine .rx ?_
      refine .done ?_
      refine .cs ?_ ?_<;>intro K5
      ·try simp at K5
       have K6:x.t=s.w:=by simpa[K5] using xE
       have K7:x.f=tv:=(show tv=x.f by simpa using gn).symm
       obtain rfl:=oX K7 K6
       rw[if_pos ⟨oT,K7,K6⟩] at iu
       refine .drawn (ms:=[0,1,0,4,0,16,48,3,143,511,1023]) (W:=[6]) (items:=[.op 0,.op 1,.op 2,.op 3,.op 4,.op 5,.op 7,.op 8,.op 6,.ck 1,.op 9,.op 10]) rfl ae ae ae ?_
       iterate 8 refine .rx ?_
       refine .wv ?_
       refine .ck rfl dO ?_
       iterate 2 refine .rx ?_
       refine .done (.rn ?_)
       refine⟨k+1,p6,bp,?_⟩
       rw[iu]
       simp only[oW,TD,Option.getD_some,Option.isSome_some,if_true]
       exact(.mk [5] [] ia ix rfl rfl rfl)
      try simp at K5
      have K6:¬x.t=s.w:=by simpa[K5] using xE
      rw[if_neg fun hh=>K6 hh.2.2] at iu
      refine .skip (.rn ?_)
      refine⟨k+1,p6,bp,by rw[iu];exact bn⟩
     try subst zF
     try simp at zF
     have K7:¬tv=x.f:=by simpa using gn
     rw[if_neg fun hh=>K7 hh.2.1.symm] at iu
     iterate 5 refine .ux ?_
     refine .rx ?_
     refine .done (.fD rfl (.skip (.rn ?_)))
     refine⟨k+1,p6,bp,by rw[iu];exact bn⟩
    try subst Cz
    try simp at Cz
    have oT:¬an<c.t.length:=by simpa using dz
    rw[if_neg fun hh=>oT hh.1] at iu
    iterate 9 refine .ux ?_
    iterate 2 refine .rx ?_
    iterate 5 refine .ux ?_
    refine .rx ?_
    refine .done (.fD rfl (.skip (.rn ?_)))
    refine⟨k+1,p6,bp,by rw[iu];exact bn⟩
   try simp at p6
   obtain rfl:k=c.mx.length:=by omega
   obtain⟨o,ho⟩:∃o,pX c s c.mx.length=o:=⟨_,rfl⟩
   rw[ho] at di ⊢
   refine .exit ?_
   refine⟨(o.getD 0,(if o.isSome then s.a+1 else s.a),o.isSome,oW o s.w,0,s.w),di,?_⟩
   simp only
   exact bn
  try simp at A4
  refine .sr ?_
  refine .cs ?_ ?_<;>intro K8
  ·try simp at K8
   have FQ:=fA an
   have h2:s.k=2:=by simpa using K8
   rw[oq]
   have di:=J2 dx h2
   rw[oq] at di
   refine .drawn (ms:=[0,1,3,0,8,0,32,0,128,384,992,7,2079,8191]) (W:=[]) (items:=zG) rfl ae ae ae ?_
   iterate 14 refine .rx ?_
   refine .done ?_
   refine⟨(c.om,(an:Int)+1,decide ((an:Int)<(c.t.length:Int)),[],0,0),di,?_⟩
   simp only[A2]
   exact bn
  try simp at K8
  refine .sr ?_
  refine .cs ?_ ?_<;>intro pr
  ·try simp at pr
   have h3:s.k=3:=by simpa using pr
   have hJ:∀(b:Bool) (i:Int),(b=true→i=s.a+s.l)→(b=true↔1≤s.a∧1≤s.l∧s.l≤(c.t.length:Int) - s.a∧c.t.getD (s.a.toNat+s.l.toNat - 1) 0=c.t.getD (s.a.toNat - 1) 0)→JP c s c.le i b [] s.l 0:=fun b i g g'=>J3 dx h3 g g'
   rw[oq] at hJ
   rw[oq]
   have kh:=xz s.l 1 ((c.t.length:Int) - (an:Int))
   rw[uY] at kh
   have DY:IntKind.i64.wrap ((c.t.length:Int) - (an:Int))=(c.t.length:Int) - (an:Int):=wrap64 (by omega) (by omega)
   refine .sr ?_
   refine .seq ?_
   refine .drawn (ms:=[0,1,3,7,15,31,15,79,207,15,527,1999,4095,8191,16383,32767,65535,32767,163839,32767,557055,1998847,4095999,8388607,16777215,32767,33587199,32767,134250495,402685951,1040220159,2113961983,4294967295,8589934591,17179869183]) (W:=[12]) (items:=[.op 0,.op 1,.op 2,.op 3,.op 4,.op 5,.op 6,.op 7,.op 8,.op 9,.op 10,.op 11,.op 12,.op 13,.op 14,.op 15,.op 16,.op 17,.op 18,.op 19,.op 20,.op 21,.op 22,.op 23,.op 24,.op 25,.op 26,.op 27,.op 28,.op 29,.op 30,.op 31,.op 32,.op 33,.op 34]) rfl ae ae ae ?_
   iterate 4 refine .rx ?_
   refine .split (t:=105) rfl (fun xF=>?_) (fun xF=>?_)
   ·try subst xF
    try simp at xF
    iterate 8 refine .rx ?_
    refine .wp rfl rfl rfl rfl rfl call85 (kh) ?_
    iterate 2 refine .rx ?_
    refine .split (t:=116) rfl (fun mV=>?_) (fun mV=>?_)
    ·try subst mV
     try simp at mV
     clear DY kh
     have cT:1≤(an:Int)∧1≤s.l∧s.l≤(c.t.length:Int) - (an:Int):=by
      simp only[bS,decide_eq_true_eq] at xC uY
      exact⟨xC,uY⟩
     have CA:s.l=(ln:Int):=by omega
     have kz:kn<c.t.length:=by omega
     have gh:am<c.t.length:=by omega
     have rK:c.t[kn]=v1:=by rw[← iS,List.getD_eq_getElem?_getD,List.getElem?_eq_getElem kz];rfl
     have tc:c.t[am]=v2:=by rw[← eN,List.getD_eq_getElem?_getD,List.getElem?_eq_getElem gh];rfl
     have di:=hJ (v1==v2) ((an:Int)+(ln:Int)) (fun _=>by rw[CA]) (by
      rw[CA,Int.toNat_natCast,Int.toNat_natCast,pQ,TH,iS,eN,beq_iff_eq]
      exact⟨fun h=>⟨cT.1,by omega,by omega,h⟩,fun h=>h.2.2.2⟩)
     clear hJ
     have qF:IntKind.i64.wrap ((an:Int)+(ln:Int))=(an:Int)+(ln:Int):=wrap64 (by omega) (by omega)
     have A5:IntKind.i64.wrap ((an:Int)+(ln:Int) - 1)=(kn:Int):=by rw[wrap64 (by omega) (by omega)];omega
     have u4:IntKind.i64.wrap ((an:Int) - 1)=(am:Int):=by rw[wrap64 (by omega) (by omega)];omega
     iterate 20 refine .rx ?_
     refine .done ?_
     refine .drawn (ms:=[0,1,3,0,0,16,56,7,255]) (W:=[]) (items:=DZ) rfl ae ae ae ?_
     iterate 9 refine .rx ?_
     refine .done ?_
     refine⟨(c.le,(an:Int)+(ln:Int),(v1==v2),[],s.l,0),di,?_⟩
     simp only[A2]
     exact bn
    try subst mV
    try simp at mV
    clear DY
    have di:=hJ false (IntKind.i64.wrap ((an:Int)+s.l)) (fun h=>(by cases h)) ⟨fun h=>(by cases h),fun h=>(by
     exfalso
     have:(decide (1≤s.l)&&decide (s.l≤(c.t.length:Int) - (an:Int)))=true:=by simp only[bS,decide_eq_true_eq];exact⟨h.2.1,h.2.2.1⟩
     rw[this] at uY;cases uY)⟩
    clear kh hJ
    iterate 18 refine .ux ?_
    iterate 2 refine .rx ?_
    refine .done ?_
    refine .drawn (ms:=[0,1,3,0,0,16,56,7,255]) (W:=[]) (items:=DZ) rfl ae ae ae ?_
    iterate 9 refine .rx ?_
    refine .done ?_
    refine⟨(c.le,IntKind.i64.wrap ((an:Int)+s.l),false,[],s.l,0),di,?_⟩
    simp only[A2]
    exact bn
   try subst xF
   try simp at xF
   clear DY
   have di:=hJ false (IntKind.i64.wrap ((an:Int)+s.l)) (fun h=>(by cases h)) ⟨fun h=>(by cases h),fun h=>(by
    exfalso
    have:decide (1≤(an:Int))=true:=by simp only[decide_eq_true_eq];exact h.1
    rw[this] at xC;cases xC)⟩
   clear kh hJ
   iterate 9 refine .ux ?_
   iterate 2 refine .rx ?_
   iterate 18 refine .ux ?_
   iterate 2 refine .rx ?_
   refine .done ?_
   refine .drawn (ms:=[0,1,3,0,0,16,56,7,255]) (W:=[]) (items:=DZ) rfl ae ae ae ?_
   iterate 9 refine .rx ?_
   refine .done ?_
   refine⟨(c.le,IntKind.i64.wrap ((an:Int)+s.l),false,[],s.l,0),di,?_⟩
   simp only[A2]
   exact bn
  try simp at pr
  refine .sr ?_
  refine .cs ?_ ?_<;>intro A6
  ·try simp at A6
   have h4:s.k=4:=by simpa using A6
   have hJ:∀(b:Bool) (w:List Int),(b=true↔1≤s.l∧s.l≤s.a)→(b=true→w=(c.t.drop (s.a.toNat - s.l.toNat)).take s.l.toNat)→JP c s c.tw s.a b w s.l 0:=fun b w g g'=>J4 dx h4 g g'
   rw[oq] at hJ
   rw[oq]
   have kh:=xz s.l 1 (an:Int)
   rw[uZ] at kh
   refine .sr ?_
   refine .seq (.seq (.ay kg rfl ae (.rn eD _ ?_)))
   refine .pc rfl rfl rfl rfl rfl call85 (kh) ?_
   refine .rn [5] [] ?_
   refine .done (.sr ?_)
   refine .cs ?_ ?_<;>intro A7
   ·try simp at A7
    subst A7
    have cT:1≤s.l∧s.l≤(an:Int):=by
     simp only[bS,decide_eq_true_eq] at uZ
     exact uZ
    have CA:s.l=(ln:Int):=by omega
    have kz:dn≤c.t.length:=by omega
    have gh:an≤c.t.length:=by omega
    have ki:dn≤an:=by omega
    have K9:an - dn=ln:=by omega
    have FT:W.length=ln:=by rw[← hW,List.length_take,List.length_drop];omega
    have te:W≠[]:=by intro h;rw[h] at FT;simp at FT;omega
    have hS:List.take ln (List.drop dn (c.t.map (PV.int .i64)))=W.map (PV.int .i64):=by rw[← hW,List.map_take,List.map_drop]
    have di:=hJ true W ⟨fun _=>cT,fun _=>rfl⟩ (fun _=>by rw[CA,Int.toNat_natCast,Int.toNat_natCast,DG,hW])
    clear kh hJ hW
    have qF:IntKind.i64.wrap ((an:Int) - (ln:Int))=(dn:Int):=by rw[wrap64 (by omega) (by omega)];omega
    refine .rn ?_
    refine .rn ?_
    refine⟨(c.tw,(an:Int),true,W,s.l,0),di,?_⟩
    simp only[HG te]
    exact bn
   try simp at A7
   subst A7
   have di:=hJ false [] ⟨fun h=>(by cases h),fun h=>(by
    exfalso
    have:(decide (1≤s.l)&&decide (s.l≤(an:Int)))=true:=by simp only[bS,decide_eq_true_eq];exact h
    rw[this] at uZ;cases uZ)⟩ (fun h=>(by cases h))
   clear kh hJ
   refine .skip (.rn ?_)
   refine⟨(c.tw,(an:Int),false,[],s.l,0),di,?_⟩
   simp only[A2]
   exact bn
  try simp at A6
  refine .sr ?_
  refine .cs ?_ ?_<;>intro ot
  ·try simp at ot
   have h5:s.k=5:=by simpa using ot
   have hJ:∀(b:Bool) (w:List Int),(b=true↔0≤s.l∧s.l≤(c.g.length:Int) - 1∧(c.g.getD s.l.toNat ⟨0,[]⟩).at_=s.a)→(b=true→w=(c.g.getD s.l.toNat ⟨0,[]⟩).ws)→JP c s c.gl s.a b w s.l 0:=fun b w g g'=>J5 dx h5 g g'
   rw[oq,HK,sF] at hJ
   rw[oq]
   have kh:=xz s.l 0 ((c.g.length:Int) - 1)
   rw[u3] at kh
   have TK:IntKind.i64.wrap ((c.g.length:Int) - 1)=(c.g.length:Int) - 1:=wrap64 (by omega) (by omega)
   refine .sr ?_
   refine .seq (.seq ?_)
   refine .drawn (ms:=[0,1,0,4,12,28,63,127,255,511,255,1279,4095,8191,16383,255,33023,131071,262143,524287]) (W:=[6]) (items:=HL) rfl ae ae ae ?_
   iterate 6 refine .rx ?_
   refine .wp rfl rfl rfl rfl rfl call85 (kh) ?_
   refine .rx ?_
   refine .split (t:=179) rfl (fun xG=>?_) (fun xG=>?_)
   ·try subst xG
    try simp at xG
    clear TK kh
    have cT:0≤s.l∧s.l≤(c.g.length:Int) - 1:=by
     simp only[bS,decide_eq_true_eq] at u3
     exact u3
    have CA:s.l=(ln:Int):=by omega
    have kz:ln<c.g.length:=by omega
    have TL:c.g[ln]=gv:=by rw[← sF,List.getD_eq_getElem?_getD,List.getElem?_eq_getElem kz];rfl
    have hE:=TA gv
    have xH:1≤gv.ws.length:=(bo.La gv (TL▸List.getElem_mem kz)).2.1
    have te:gv.ws≠[]:=by intro h;rw[h] at xH;simp at xH
    iterate 12 refine .rx ?_
    refine .done (.sr ?_)
    refine .cs ?_ ?_<;>intro A8
    ·try simp at A8
     have di:=hJ true gv.ws ⟨fun _=>⟨cT.1,cT.2,by simpa using A8⟩,fun _=>rfl⟩ (fun _=>rfl)
     clear hJ
     refine .rn ?_
     refine .rn ?_
     refine⟨(c.gl,(an:Int),true,gv.ws,s.l,0),di,?_⟩
     simp only[HG te]
     exact bn
    try simp at A8
    have di:=hJ false [] ⟨fun h=>(by cases h),fun h=>(by exfalso;have h2:=h.2.2;simp[h2] at A8)⟩ (fun h=>(by cases h))
    clear hJ
    refine .skip (.rn ?_)
    refine⟨(c.gl,(an:Int),false,[],s.l,0),di,?_⟩
    simp only[A2]
    exact bn
   try subst xG
   try simp at xG
   clear TK kh
   have di:=hJ false [] ⟨fun h=>(by cases h),fun h=>(by
    exfalso
    have:(decide (0≤s.l)&&decide (s.l≤(c.g.length:Int) - 1))=true:=by simp only[bS,decide_eq_true_eq];exact⟨h.1,h.2.1⟩
    rw[this] at u3;cases u3)⟩ (fun h=>(by cases h))
   clear hJ
   iterate 10 refine .ux ?_
   iterate 2 refine .rx ?_
   refine .done (.sr ?_)
   refine .fD rfl (.skip (.rn ?_))
   refine⟨(c.gl,(an:Int),false,[],s.l,0),di,?_⟩
   simp only[A2]
   exact bn
  try simp at ot
  refine .sr ?_
  refine .cs ?_ ?_<;>intro A9
  ·try simp at A9
   have h6:s.k=6:=by simpa using A9
   have di:=J6 dx h6
   rw[oq,DX] at di
   rw[oq]
   have HM:=AX s.w
   rw[DX] at HM
   refine .sr ?_
   refine .tf (ms:=[0,1,3,0,8,24,0,64,192,455,1023,2047]) (W:=[8]) (As:=[5]) (items:=[.op 0,.op 1,.op 2,.op 3,.op 4,.op 5,.op 6,.op 7,.op 8,.ck 4,.ck 2,.op 9,.op 10,.op 11]) rfl ae ae ae ae (by decide) ?_
   iterate 5 refine .rf ?_
   refine .al rfl rfl (by decide) (by decide) (by decide) (by decide) eX ?_
   iterate 2 refine .rf ?_
   refine .wr rfl rfl (by decide) (.pure rfl rfl rfl call116 (by decide) (HM) (by first|rfl|simp[*]) ?_)
   rintro _ rfl
   refine .ck rfl dO ?_
   refine .ck rfl dO ?_
   iterate 3 refine .rf ?_
   refine .done ?_
   refine⟨(c.ad,(an:Int),TI,[s.w],0,s.w),di,?_⟩
   simp only[TD]
   exact(.mk [4] [] ia ix rfl rfl rfl)
  try simp at A9
  have di:=J0 (c:=c) (i:=(an:Int)) (show s.k≠1 by simpa using A4) (show s.k≠2 by simpa using K8) (show s.k≠3 by simpa using pr) (show s.k≠4 by simpa using A6) (show s.k≠5 by simpa using ot) (show s.k≠6 by simpa using A9)
  rw[oq]
  refine .skip ?_
  refine⟨(0,(an:Int),false,[],0,0),di,?_⟩
  simp only[A2]
  exact bn
 skip
 rintro⟨n,i,b,w,l',w'⟩ hJ
 simp only at hJ ⊢
 clear kh pQ TH DG iS eN hW mB sF xC uY uZ u3 DX e30 e31 e41 e51 TI gv tv W v1 v2 dn am kn HJ HK
 refine .seq (.seq (.ay ik rfl ae (.rn [0,1,2] _ ?_)))
 refine .split (t:=218) rfl (fun tg=>?_) (fun tg=>?_)
 ·try subst tg
  try simp at tg
  refine .rn [3,4,5,6] [] ?_
  refine .done (.eA rfl (.sr ?_))
  refine .ret (au ?_)
  rw[A3 (hJ.2 (.inl tg))];rfl
 try subst tg
 try simp at tg
 subst tg
 refine .rn [3,4,5,6] [] ?_
 refine .done ?_
 refine .cs ?_ ?_<;>intro th
 ·try simp at th
  refine .sr ?_
  refine .ret (au ?_)
  rw[A3 (hJ.2 (.inr (by first|exact th|(simpa using th))))];rfl
 try simp at th
 have fc:l'=s.l∧w'=s.w:=by first|exact th|(simpa using th)|omega
 obtain⟨qy,lX⟩:=fc
 obtain⟨i',hi,hd⟩:=hJ.1 rfl qy lX
 have Ba:=zD hd
 subst hi
 clear hJ th
 rcases Classical.em (w=[]) with hw|hw
 ·skip
  refine .skip (.seq ?_)
  subst hw
  have Og:eW []=.aI:=A2
  refine .drawn (ms:=[0,0,0,0,8,0,32,120,252,1,515,2047,4095]) (W:=[11]) (items:=Oh) rfl ae ae ae ?_
  iterate 11 refine .rx ?_
  refine .wv ?_
  refine .rx ?_
  refine .done (.ret (au ?_))
  rw[Ba];simp[iF,Og]
 skip
 refine .skip (.seq ?_)
 have Og:=HG hw
 refine .drawn (ms:=[0,0,0,0,8,0,32,120,252,1,515,2047,4095]) (W:=[11]) (items:=Oh) rfl ae ae ae ?_
 iterate 11 refine .rx ?_
 refine .wv ?_
 refine .rx ?_
 refine .done (.ret (au ?_))
 rw[Ba];simp[iF,Og]
theorem HN (a b:List Int)(ha:a.length<4611686018427387904)(hb:b.length<4611686018427387904):aN prog 144 [ints a,ints b] fun r=>r=.bool (decide (a=b)):=by
 refine .bT func144 rfl rfl ?_
 refine .sr ?_
 refine .seq (.sr ?_)
 refine .cs ?_ ?_<;>intro hU
 ·try simp at hU
  refine .sr ?_
  refine .ret (au ?_)
  have h:¬a=b:=by intro h;subst h;omega
  simp[h]
 try simp at hU
 have hlen:b.length=a.length:=by omega
 clear hU
 refine .skip (.seq (.sr ?_))
 refine .block ?_
 refine .dw (fun i:Nat=>([(0,ints a),(1,ints b),(12,.int .i64 a.length),(13,.int .i64 i)],ai.empty)) (fun i=>i≤a.length∧a.take i=b.take i) (fun i=>a.length - i) 0 (by simp) (.pure (by simp[*]) (by simp)) ?_
 rintro i ⟨hi,hr⟩
 simp only at hi hr ⊢
 refine .sr ?_
 refine .seq ?_
 refine .cs ?_ ?_<;>intro iy
 ·try simp at iy
  have et:=fA i
  have qG:i<a.length:=by omega
  have zH:i<b.length:=by omega
  refine .skip (.seq (.block (.sr ?_)))
  refine .seq ?_
  refine .drawn (ms:=[0,0,3,7,0,0,48,112,255]) (W:=[]) (items:=DZ) rfl ae ae ae ?_
  iterate 9 refine .rx ?_
  refine .done ?_
  refine .cs ?_ ?_<;>intro pt
  ·try simp at pt
   refine .sr ?_
   refine .ret (au ?_)
   have h:¬a=b:=by intro h;subst h;simp at pt
   simp[h]
  try simp at pt
  refine .skip (.rn ?_)
  refine⟨i+1,⟨bp,?_⟩,bp,.pure (by simp[*]) (by simp)⟩
  rw[List.take_succ_eq_append_getElem qG,List.take_succ_eq_append_getElem zH,hr,pt]
 try simp at iy
 have:i=a.length:=by omega
 have iL:a=b:=by
  rw[this,List.take_length] at hr
  rw[hr];exact List.take_of_length_le (by omega)
 refine .exit (.sr ?_)
 refine .ret (au ?_)
 simp[iL]
theorem TM (c:aj)(l:List Int)(j:Nat)(hc:c.c.length≤48)(hl:l.length<4611686018427387904):aN prog 96 [aH c,ints l,.int .i64 j] fun r=>r=.bool (hasB c j l):=by
 obtain⟨e0,dz⟩:∃b,decide ((j:Int)≤(c.c.length:Int) - (l.length:Int))=b:=⟨_,rfl⟩
 have lX:IntKind.i64.wrap ((c.c.length:Int) - (l.length:Int))=(c.c.length:Int) - (l.length:Int):=wrap64 (by omega) (by omega)
 obtain⟨S,hS⟩:∃S,(c.c.drop j).take l.length=S:=⟨_,rfl⟩
 obtain⟨jl,ec⟩:∃k,j+l.length=k:=⟨_,rfl⟩
 have zI:List.take l.length (List.drop j (c.c.map (PV.int .i64)))=S.map (PV.int .i64):=by rw[← hS,List.map_take,List.map_drop]
 have Ob:S.length≤l.length:=by rw[← hS,List.length_take];omega
 have D7:hasB c j l=(decide (j+l.length≤c.c.length)&&decide (S=l)):=by unfold hasB;rw[hS]
 unfold aH cR
 refine .bT func96 rfl rfl ?_
 refine .sr ?_
 refine .seq (.ay [0,1,2,3,4,5,6,7,8,9,10,11,12,13,14,15,16,17,18,19,20] rfl ae (.rn rF _ ?_))
 refine .split (t:=15) rfl (fun cI=>?_) (fun cI=>?_)
 ·try subst cI
  try simp at cI
  have hjb:jl≤c.c.length:=by simp at dz;omega
  have et:IntKind.i64.wrap ((j:Int)+(l.length:Int))=(jl:Int):=by rw[wrap64 (by omega) (by omega)];omega
  have G5:j≤jl:=by omega
  have yab:jl - j=l.length:=by omega
  have nI:j≤c.c.length:=by omega
  rw[ec] at D7
  refine .rn [9,10,11,12,13,14,15,16,17] _ ?_
  refine .pc rfl rfl rfl rfl rfl call144 (HN S l (by omega) hl) ?_
  refine .rn [19,20] [] ?_
  refine .done (.ret (au ?_))
  rw[D7,decide_eq_true hjb];rfl
 try subst cI
 try simp at cI
 refine .rn [9,10,11,12,13,14,15,16,17,18,19,20] [] ?_
 refine .done (.ret (au ?_))
 rw[D7,decide_eq_false (by simp at dz;omega)];rfl
theorem u5 (c:aj)(l:List Int)(j:Nat)(hc:c.c.length≤48)(hl:l.length<4611686018427387904):aN prog 96 [aH c,eW l,.int .i64 j] fun r=>r=.bool (hasB c j l):=by
 unfold eW
 split
 ·rename_i h;subst h
  exact aN.xhg (l:=[aH c]) (r:=[.int .i64 j]) (TM c [] j hc (by simp))
 exact TM c l j hc hl
theorem HO (c:aj)(i j:Int):aN prog 79 [aH c,iF i j] fun r=>r=.func 138 [] [.vp [.int .i64 i,.int .i64 j],.vp (cR c)]:=by
 unfold aH cR iF
 refine .bT func79 rfl rfl ?_
 refine .sr ?_
 refine .sr ?_
 refine .ret (au ?_)
 exact zk
theorem HP (c:aj)(i j:Int):aN prog 139 [aH c,iF i j] fun r=>r=.func 166 [] [.vp [.int .i64 i,.int .i64 j],.vp (cR c)]:=by
 unfold aH cR iF
 refine .bT func139 rfl rfl ?_
 refine .sr ?_
 refine .sr ?_
 refine .ret (au ?_)
 exact zk
end
end Go.Am.Sl
end
