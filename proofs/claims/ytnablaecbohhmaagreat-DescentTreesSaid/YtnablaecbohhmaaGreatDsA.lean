/-
 What is used in the proof of a statement (part DsA); no condition.
-/
import Derived.Test.YtnablaecbohhmaaGreatDsZ
import Derived.Test.YtnablaecbohhmaaGreatVm2
import Derived.Test.YtnablaecbohhmaaGreatDsT
set_option linter.all false
set_option maxHeartbeats 40000000
set_option maxRecDepth 100000
section
namespace Go.Am.Ds
open Go Go.Am Go.Proofs Tryz
attribute [local simp] vrun zay zbm vop za2 zbp zck vO zbj vlen zbv zb6 zev zau zap zcx vbox zbh zeq zcb zer zcw zaw zcy zax zc0 zbi zcz zbu zbq vbnd zdh vidx zbr zee zav zbx zeh zfd zfa vbin vsc vsc1 vscs vscl zb8 aint zca zef zbb zdb zex pvcV pvc pvcs tput tget zdx zab.get zab.alloc zab.put zab.drop zab.empty zce vput zei zbd zcf zdu chunk List.range List.range.loop za7 zb2 za8 frz frzL PV.isF PV.allF PV.scal PV.allS retP subT zem PV.one PV.ids PV.idsL zcj beq_eq zb9 zcc
theorem p113 (n a b:Int):zaj prog 113 [.int .i64 n,.int .i64 a,.int .i64 b] fun r=>r=.bool (decide (a≤n)&&decide (n≤b)):=by
 refine .zag func113 rfl rfl ?_
 refine .sr ?_
 refine .seq ?_
 refine .zac [0,1,2,3,4,5,6,7,8] rfl zz0 ?_
 refine .rn [0,1,2,3] _ ?_
 refine .split (t:=10) rfl (fun c10=>?_) (fun c10=>?_)
 ·rw[c10]
  try simp at c10
  refine .rn [4,5,6,7,8] [] ?_
  refine .done (.ret ?_)
  refine⟨_,_,zz4,zz4,?_⟩
  simp<;>omega
 rw[c10]
 try simp at c10
 refine .rn [4,5,6,7,8] [] ?_
 refine .done (.ret ?_)
 refine⟨_,_,zz4,zz4,?_⟩
 simp<;>omega
def zb3:List Int→Int→Bool
 |[],_=>true
 |n::r,last=>if n≤last∨n > 1099511627776 then false else zb3 r n
theorem zl6 (l:List Int)(i:Nat)(h:i<l.length)(last:Int):zb3 (l.drop i) last=if l[i]≤last∨l[i] > 1099511627776 then false else zb3 (l.drop (i+1)) l[i]:=by
 rw[List.drop_eq_getElem_cons h];rfl
theorem p168 (l:List Int)(lo:Int)(hl:l.length<4294967296)(h1 : -9223372036854775808<lo)(h2:lo<9223372036854775808):zaj prog 168 [ints l,.int .i64 lo] fun r=>r=.bool (zb3 l (lo - 1)):=by
 have hw:IntKind.i64.wrap (lo - 1)=lo - 1:=wrap64 (by omega) (by omega)
 refine .zag func168 rfl rfl ?_
 refine .sr ?_
 refine .sr ?_
 refine .seq (.sr ?_)
 refine .block ?_
 refine .zbl (fun s:Nat×Int=>([(5,.int .i64 s.2),(10,ints l),(11,.int .i64 l.length),(12,.int .i64 s.1)],zab.empty)) (fun s=>s.1≤l.length∧zb3 (l.drop s.1) s.2=zb3 l (lo - 1)) (fun s=>l.length - s.1) (0,lo - 1) ⟨by simp,by simp⟩ (.pure rfl (by simp)) ?_
 rintro⟨i,last⟩ ⟨hi,hr⟩
 simp only at hi hr ⊢
 refine .sr ?_
 refine .seq ?_
 refine .cs ?_ ?_<;>intro c13
 ·try simp at c13
  have hw2:=wr1 i
  rw[zl6 l i c13] at hr
  refine .skip (.seq (.block (.sr ?_)))
  refine .seq (.seq ?_)
  refine .zac [0,1,2,3,4,5,6] rfl zz0 ?_
  refine .rn [0,1,2,3] _ ?_
  refine .split (t:=19) rfl (fun c19=>?_) (fun c19=>?_)
  ·rw[c19]
   try simp at c19
   refine .rn [4,5,6] [] ?_
   refine .done (.zdm rfl (.sr ?_))
   refine .ret ?_
   refine⟨_,_,zz4,zz4,?_⟩
   first|rfl|(simp[*];done)|(simp_all;done)
  rw[c19]
  try simp at c19
  refine .rn [4,5,6] [] ?_
  refine .done ?_
  refine .cs ?_ ?_<;>intro c22
  ·try simp at c22
   refine .sr ?_
   refine .ret ?_
   refine⟨_,_,zz4,zz4,?_⟩
   first|rfl|(simp[*];done)|(simp_all;done)
  try simp at c22
  refine .skip (.rn ?_)
  refine .rn ?_
  refine⟨(i+1,l[i]),⟨by simp;omega,?_⟩,by simp;omega,.pure rfl (by simp)⟩
  rw[← hr,if_neg (by omega)]
 try simp at c13
 have:i=l.length:=by omega
 refine .exit (.sr ?_)
 refine .ret ?_
 refine⟨_,_,zz4,zz4,?_⟩
 rw[← hr,this,List.drop_length];rfl
def idxF {α:Type}(p:α→Bool):Nat→List α→Int
 |_,[] => -1
 |i,a::r=>if p a then i else idxF p (i+1) r
theorem zf8 {α:Type}(p:α→Bool)(l:List α)(i:Nat)(h:i<l.length):idxF p i (l.drop i)=if p l[i] then (i:Int) else idxF p (i+1) (l.drop (i+1)):=by
 rw[List.drop_eq_getElem_cons h];rfl
theorem p176 (l:List Int)(v:Int)(hl:l.length<4294967296):zaj prog 176 [ints l,.int .i64 v] fun r=>r=.int .i64 (idxF (fun a=>decide (v=a)) 0 l):=by
 refine .zag func176 rfl rfl ?_
 refine .sr ?_
 refine .seq (.sr ?_)
 refine .block ?_
 refine .zbl (fun s:Nat=>([(0,ints l),(1,.int .i64 v),(7,.int .i64 l.length),(8,.int .i64 s)],zab.empty)) (fun s=>s≤l.length∧idxF (fun a=>decide (v=a)) s (l.drop s)=idxF (fun a=>decide (v=a)) 0 l) (fun s=>l.length - s) 0 ⟨by simp,by simp⟩ (.pure (by simp[*]) (by simp)) ?_
 rintro i ⟨hi,hr⟩
 simp only at hi hr ⊢
 refine .sr ?_
 refine .seq ?_
 refine .cs ?_ ?_<;>intro c9
 ·try simp at c9
  have hw2:=wr1 i
  rw[zf8 _ l i c9] at hr
  refine .skip (.seq (.block (.sr ?_)))
  refine .sr ?_
  refine .cs ?_ ?_<;>intro c16
  ·try simp at c16
   refine .sr ?_
   refine .ret ?_
   refine⟨_,_,zz4,zz4,?_⟩
   rw[← hr,if_pos (by simp[c16])]
  try simp at c16
  refine .skip (.rn ?_)
  refine⟨i+1,⟨zz5,?_⟩,zz5,.pure (by simp[*]) (by simp)⟩
  rw[← hr,if_neg (by simp[c16])]
 try simp at c9
 have:i=l.length:=by omega
 refine .exit (.sr ?_)
 refine .ret ?_
 refine⟨_,_,zz4,zz4,?_⟩
 rw[← hr,this,List.drop_length];rfl
theorem zm6 {α:Type}(p:α→Bool):∀(l:List α) (i:Nat),(idxF p i l = -1∧l.any p=false)∨((i:Int)≤idxF p i l∧idxF p i l<i+l.length∧l.any p=true)
 |[],i=>.inl ⟨rfl,rfl⟩
 |a::r,i=>by
  simp only[idxF,List.any_cons,List.length_cons]
  cases h:p a with
  |true=>exact .inr ⟨by simp,by simp;omega,rfl⟩
  |false=>
   rcases zm6 p r (i+1) with⟨h1,h2⟩|⟨h1,h2,h3⟩
   ·exact .inl ⟨by simpa using h1,by simpa using h2⟩
   exact .inr ⟨by simp;omega,by simp;omega,by simpa using h3⟩
theorem zm1 {α:Type}(p:α→Bool)(l:List α)(i:Nat):decide (idxF p i l≥0)=l.any p:=by
 rcases zm6 p l i with⟨h1,h2⟩|⟨h1,h2,h3⟩
 ·rw[h1,h2];decide
 rw[h3];simp;omega
theorem p144 (l:List Int)(v:Int)(hl:l.length<4294967296):zaj prog 144 [ints l,.int .i64 v] fun r=>r=.bool (l.any fun a=>decide (v=a)):=by
 refine .zag func144 rfl rfl ?_
 refine .sr ?_
 refine .seq ?_
 refine .zac [0,1,2,3,4] rfl zz0 ?_
 refine .rn [0,1] _ ?_
 refine .pc rfl rfl rfl rfl rfl call176 (p176 l v hl) ?_
 refine .rn [3,4] [] ?_
 refine .done (.ret ?_)
 refine⟨_,_,zz4,zz4,?_⟩
 rw[← zm1 _ l 0]
theorem p175 {α:Type}(l:List α)(enc:α→PV)(p:α→Bool)(f:FuncId)(xs ys:List PV)(hl:l.length<4294967296)(he:∀a,(enc a).cells=[enc a])(hx:PV.allF xs=true)(hy:PV.allF ys=true)(hF:∀a,(enc a).isF=true)(hcf:∀cs w,(callFunc f cs).run prog w=.ok (.enter f cs) w)(hp:∀a∈l,zaj prog f (xs++[enc a]++ys) fun r=>r=.bool (p a)):zaj prog 175 [.vec (l.map enc),.func f xs ys] fun r=>r=.int .i64 (idxF p 0 l):=by
 refine .zag func175 rfl rfl ?_
 refine .sr ?_
 refine .seq (.sr ?_)
 refine .block ?_
 refine .zbl (fun s:Nat=>([(0,.vec (l.map enc)),(1,.func f xs ys),(7,.int .i64 l.length),(8,.int .i64 s)],zab.empty)) (fun s=>s≤l.length∧idxF p s (l.drop s)=idxF p 0 l) (fun s=>l.length - s) 0 ⟨by simp,by simp⟩ (.pure (by simp[*]) (by simp)) ?_
 rintro i ⟨hi,hr⟩
 simp only at hi hr ⊢
 refine .sr ?_
 refine .seq ?_
 refine .cs ?_ ?_<;>intro c9
 ·try simp at c9
  have hw2:=wr1 i
  rw[zf8 p l i c9] at hr
  have he:=he l[i]
  have hp:=hp l[i] (List.getElem_mem c9)
  refine .skip (.seq (.block (.sr ?_)))
  refine .seq ?_
  refine .zac [0,1,2,3,4,5] rfl zz0 ?_
  refine .rn [0,1,2,3,4] _ ?_
  refine .step rfl rfl (.pure rfl rfl rfl hcf (by decide) (hp) (by first|rfl|simp[*]) ?_)
  rintro _ rfl
  refine .done ?_
  refine .cs ?_ ?_<;>intro c16
  ·try simp at c16
   refine .sr ?_
   refine .ret ?_
   refine⟨_,_,zz4,zz4,?_⟩
   rw[← hr,if_pos c16]
  try simp at c16
  refine .skip (.rn ?_)
  refine⟨i+1,⟨zz5,?_⟩,zz5,.pure (by simp[*]) (by simp)⟩
  rw[← hr,if_neg (by simp[c16])]
 try simp at c9
 have:i=l.length:=by omega
 refine .exit (.sr ?_)
 refine .ret ?_
 refine⟨_,_,zz4,zz4,?_⟩
 rw[← hr,this,List.drop_length];rfl
theorem p169 {α:Type}(l:List α)(enc:α→PV)(p:α→Bool)(f:FuncId)(xs ys:List PV)(hl:l.length<4294967296)(he:∀a,(enc a).cells=[enc a])(hx:PV.allF xs=true)(hy:PV.allF ys=true)(hF:∀a,(enc a).isF=true)(hcf:∀cs w,(callFunc f cs).run prog w=.ok (.enter f cs) w)(hp:∀a∈l,zaj prog f (xs++[enc a]++ys) fun r=>r=.bool (p a)):zaj prog 169 [.vec (l.map enc),.func f xs ys] fun r=>r=.bool (l.any p):=by
 refine .zag func169 rfl rfl ?_
 refine .sr ?_
 refine .seq ?_
 refine .zac [0,1,2,3,4] rfl zz0 ?_
 refine .rn [0,1] _ ?_
 refine .pc rfl rfl rfl rfl rfl call175 (p175 l enc p f xs ys hl he hx hy hF hcf hp) ?_
 refine .rn [3,4] [] ?_
 refine .done (.ret ?_)
 refine⟨_,_,zz4,zz4,?_⟩
 rw[← zm1 _ l 0]
structure Wit where
  id:Int
  known:Int
  slips:List Int
  mended:List Int
  models:List Int
  lo:Int
  hi:Int
  deriving DecidableEq
def encW (w:Wit):PV:=.agg [.int .i64 w.id,.int .i64 w.known,ints w.slips,ints w.mended,ints w.models,.int .i64 w.lo,.int .i64 w.hi]
@[simp] theorem xa4 (w:Wit):(encW w).cells=[.int .i64 w.id,.int .i64 w.known,ints w.slips,ints w.mended,ints w.models,.int .i64 w.lo,.int .i64 w.hi]:=rfl
@[simp] theorem xfk (w:Wit):(encW w).isF=true:=by simp[encW]
def encS (s:List Wit):PV:=.agg [.vec (s.map encW)]
@[simp] theorem xa5 (s:List Wit):(encS s).cells=[.vec (s.map encW)]:=rfl
@[simp] theorem xfl (s:List Wit):(encS s).isF=true:=by simp[encS]
def insU (l:List Int)(n:Int):List Int:=if n∈l then l else l++[n]
def mp (ks:List Int):List (PV×PV):=ks.map fun n=>(.int .i64 n,.bool true)
theorem zrz (n:Int):∀ks:List Int,zh7 .i64 n (mp ks)=some (if n∈ks then some (.bool true) else none)
 |[]=>rfl
 |k::r=>by
  have ih:=zrz n r
  simp only[mp,List.map_cons,zh7] at ih ⊢
  rw[ih]
  by_cases h:k=n
  ·subst h;simp
  by_cases h2:n∈r<;>simp[h,h2,Ne.symm h]
theorem znz (n:Int):∀ks:List Int,(mp ks).map (qput n (.bool true))=mp ks
 |[]=>rfl
 |k::r=>by
  have ih:=znz n r
  simp only[mp,List.map_cons,qput] at ih ⊢
  rw[ih]
  cases decide (k=n)<;>rfl
theorem zqy (n:Int)(ks:List Int):zo4 .i64 n (.bool true) (mp ks)=some (mp (insU ks n)):=by
 unfold zo4 insU
 rw[zrz]
 by_cases h:n∈ks
 ·simp[h,znz]
 simp[h,mp]
theorem zlr {α β:Type}(f:β→α→β)(l:List α)(i:Nat)(h:i<l.length)(a:β):(l.drop i).foldl f a=(l.drop (i+1)).foldl f (f a l[i]):=by
 rw[List.drop_eq_getElem_cons h];rfl
theorem z3c {α:Type}(l:List (List α))(i:Nat)(h:i<l.length):(l.drop i).flatten=l[i]++(l.drop (i+1)).flatten:=by
 rw[List.drop_eq_getElem_cons h];rfl
def setK (ls:List (List Int)):List Int:=ls.flatten.foldl insU []
theorem zqo (l:List Int)(n m:Int):m∈insU l n↔m∈l∨m=n:=by
 unfold insU
 by_cases h:n∈l
 ·simp only[h,if_true]
  constructor
  ·exact .inl
  rintro (h1|rfl)<;>assumption
 simp[h]
theorem zgu (m:Int):∀(l a:List Int),m∈l.foldl insU a↔m∈a∨m∈l
 |[],a=>by simp
 |n::r,a=>by
  simp only[List.foldl_cons,zgu m r,zqo,List.mem_cons]
  constructor
  ·rintro ((h|h)|h)
   ·exact .inl h
   ·exact .inr (.inl h)
   exact .inr (.inr h)
  rintro (h|h|h)
  ·exact .inl (.inl h)
  ·exact .inl (.inr h)
  exact .inr h
theorem zmu (m:Int)(ls:List (List Int)):m∈setK ls↔∃l∈ls,m∈l:=by
 unfold setK
 rw[zgu]
 simp
@[simp] theorem zxu (l:List (List Int)):zdt 1 (l.map ints)=true:=zga (f:=ints) (n:=1) (fun _=>rfl) l
@[simp] theorem zn7 (l:List (List Int)):zcm (l.map ints)=true:=zfj (f:=ints) (fun _=>rfl) l
theorem p115 (ks:List Int)(n:Int):zaj prog 115 [.vmap (mp ks),.int .i64 n] fun r=>r=.bool (decide (n∈ks)):=by
 have h1:=zrz n ks
 refine .zag func115 rfl rfl ?_
 by_cases h:n∈ks
 ·
  simp only[h,if_true] at h1
  refine .sr ?_
  refine .sr ?_
  refine .sr ?_
  refine .ret ?_
  refine⟨_,_,zz4,zz4,?_⟩
  simp[h]
 ·
  simp only[h,if_false] at h1
  refine .sr ?_
  refine .sr ?_
  refine .sr ?_
  refine .ret ?_
  refine⟨_,_,zz4,zz4,?_⟩
  simp[h]
theorem p116 (ls:List (List Int))(hl:ls.length<4294967296)(hll:∀l∈ls,l.length<4294967296):zaj prog 116 [.vec (ls.map ints)] fun r=>r=.vmap (mp (setK ls)):=by
 refine .zag func116 rfl rfl ?_
 refine .sr ?_
 refine .sr ?_
 refine .seq (.sr ?_)
 refine .block ?_
 refine .zbl (fun s:Nat×List Int=>([(3,.mapv 0),(9,.vec (ls.map ints)),(10,.int .i64 ls.length),(11,.int .i64 s.1)],⟨1,[(0,.map (mp s.2))]⟩)) (fun s=>s.1≤ls.length∧(ls.drop s.1).flatten.foldl insU s.2=setK ls) (fun s=>ls.length - s.1) (0,[]) ⟨by simp,by simp[setK]⟩ (.mk [] [] zz2 zz3 rfl rfl rfl) ?_
 rintro⟨i,ks⟩ ⟨hi,hr⟩
 simp only at hi hr ⊢
 refine .sr ?_
 refine .seq ?_
 refine .cs ?_ ?_<;>intro c12
 ·try simp at c12
  have hw2:=wr1 i
  rw[z3c ls i c12,List.foldl_append] at hr
  have hll:=hll ls[i] (List.getElem_mem c12)
  refine .skip (.seq (.block (.sr ?_)))
  refine .sr ?_
  refine .block ?_
  refine .zbl (fun s:Nat×List Int=>([(3,.mapv 0),(9,.vec (ls.map ints)),(10,.int .i64 ls.length),(11,.int .i64 i),(15,ints ls[i]),(16,.int .i64 ls[i].length),(17,.int .i64 s.1)],⟨1,[(0,.map (mp s.2))]⟩)) (fun s=>s.1≤ls[i].length∧(ls[i].drop s.1).foldl insU s.2=ls[i].foldl insU ks) (fun s=>ls[i].length - s.1) (0,ks) ⟨by simp,by simp⟩ (.mk [] [] zz2 zz3 rfl rfl rfl) ?_
  rintro⟨j,ks2⟩ ⟨hj,hs⟩
  simp only at hj hs ⊢
  refine .sr ?_
  refine .seq ?_
  refine .cs ?_ ?_<;>intro c18
  ·try simp at c18
   have hw3:=wr1 j
   rw[zlr insU ls[i] j c18] at hs
   have hm:=zqy ls[i][j] ks2
   refine .skip (.seq (.block (.sr ?_)))
   refine .rn ?_
   refine .rn ?_
   refine⟨(j+1,insU ks2 ls[i][j]),⟨zz5,hs⟩,zz5,(.mk [] [] zz2 zz3 rfl rfl rfl)⟩
  try simp at c18
  have:j=ls[i].length:=by omega
  refine .exit (.rn ?_)
  refine⟨(i+1,ks2),⟨zz5,?_⟩,zz5,(.mk [] [] zz2 zz3 rfl rfl rfl)⟩
  rw[← hr,← hs,this,List.drop_length];rfl
 try simp at c12
 have:i=ls.length:=by omega
 refine .exit (.sr ?_)
 refine .ret ?_
 refine⟨_,_,zz4,zz4,?_⟩
 rw[← hr,this,List.drop_length];rfl
@[simp] theorem z7x (k:IntKind)(l:List Int):(l.map (PV.int k)).all PV.one=true:=by simp[PV.one]
def zd3 (w:Wit):Bool:=zb3 w.slips 0&&(zb3 w.mended 0&&(zb3 w.models (-1)&&(!(w.models.any fun a=>decide (w.id=a))&&!(w.slips.any fun n=>decide (n∈setK [w.mended])))))
theorem p114 (w:Wit)(h1:w.slips.length<4294967296)(h2:w.mended.length<4294967296)(h3:w.models.length<4294967296):zaj prog 114 [encW w] fun r=>r=.bool (zd3 w):=by
 refine .zag func114 rfl rfl ?_
 refine .sr ?_
 refine .seq ?_
 refine .zac [0,1,2,3,4] rfl zz0 ?_
 refine .rn [0,1,2] _ ?_
 refine .step rfl rfl (.take rfl rfl rfl call116 (by decide) zz4 (p116 [w.mended] (by simp) (by simpa using h2)) ?_)
 rintro _ rfl
 refine .rn [4] [] ?_
 refine .done (.seq ?_)
 refine .zac [0,1,2,3,4,5,6,7,8,9,10,11,12,13,14,15,16,17,18,19,20,21,22,23,24,25,26,27,28,29] rfl zz0 ?_
 refine .rn [0,1] _ ?_
 refine .pc rfl rfl rfl rfl rfl call168 (p168 w.slips 1 h1 (by omega) (by omega)) ?_
 refine .rn [3] _ ?_
 refine .split (t:=11) rfl (fun c11=>?_) (fun c11=>?_)
 ·rw[c11]
  try simp at c11
  refine .rn [4,5] _ ?_
  refine .pc rfl rfl rfl rfl rfl call168 (p168 w.mended 1 h2 (by omega) (by omega)) ?_
  refine .rn [7,8] _ ?_
  refine .split (t:=16) rfl (fun c16=>?_) (fun c16=>?_)
  ·rw[c16]
   try simp at c16
   refine .rn [9,10] _ ?_
   refine .pc rfl rfl rfl rfl rfl call168 (p168 w.models 0 h3 (by omega) (by omega)) ?_
   refine .rn [12,13] _ ?_
   refine .split (t:=21) rfl (fun c21=>?_) (fun c21=>?_)
   ·rw[c21]
    try simp at c21
    refine .rn [14,15,16,17] _ ?_
    refine .pc rfl rfl rfl rfl rfl call144 (p144 w.models w.id h3) ?_
    refine .rn [19,20,21] _ ?_
    refine .split (t:=29) rfl (fun c29=>?_) (fun c29=>?_)
    ·rw[c29]
     try simp at c29
     refine .rn [22,23,24,25] _ ?_
     refine .pc rfl rfl rfl rfl rfl call169 (p169 w.slips (PV.int .i64) (fun n=>decide (n∈setK [w.mended])) 115 [.vmap (mp (setK [w.mended]))] [] h1 (fun _=>rfl) rfl rfl (fun _=>rfl) call115 (fun n _=>p115 _ n)) ?_
     refine .rn [27,28,29] [] ?_
     refine .done (.ret ?_)
     refine⟨_,_,zz4,zz4,?_⟩
     first|(simp[zd3, *];done)|(simp[zd3, *];intro _;exact c29)|(simp[zd3, *];intro h;exact absurd rfl (h _ c29))
    rw[c29]
    try simp at c29
    refine .rn [22,23,24,25,26,27,28,29] [] ?_
    refine .done (.ret ?_)
    refine⟨_,_,zz4,zz4,?_⟩
    first|(simp[zd3, *];done)|(simp[zd3, *];intro _;exact c29)|(simp[zd3, *];intro h;exact absurd rfl (h _ c29))
   rw[c21]
   try simp at c21
   refine .rn [14,15,16,17,18,19,20,21,22,23,24,25,26,27,28,29] [] ?_
   refine .done (.ret ?_)
   refine⟨_,_,zz4,zz4,?_⟩
   first|(simp[zd3, *];done)|(simp[zd3, *];intro _;exact c29)|(simp[zd3, *];intro h;exact absurd rfl (h _ c29))
  rw[c16]
  try simp at c16
  refine .rn [9,10,11,12,13,14,15,16,17,18,19,20,21,22,23,24,25,26,27,28,29] [] ?_
  refine .done (.ret ?_)
  refine⟨_,_,zz4,zz4,?_⟩
  first|(simp[zd3, *];done)|(simp[zd3, *];intro _;exact c29)|(simp[zd3, *];intro h;exact absurd rfl (h _ c29))
 rw[c11]
 try simp at c11
 refine .rn [4,5,6,7,8,9,10,11,12,13,14,15,16,17,18,19,20,21,22,23,24,25,26,27,28,29] [] ?_
 refine .done (.ret ?_)
 refine⟨_,_,zz4,zz4,?_⟩
 first|(simp[zd3, *];done)|(simp[zd3, *];intro _;exact c29)|(simp[zd3, *];intro h;exact absurd rfl (h _ c29))
def witE (w:Wit):Int:=
 if ¬(1≤w.id∧w.id≤1099511627776) then 1 else if ¬(0≤w.known∧w.known≤730) then 1 else if w.lo<0 then 1 else if w.hi<w.lo then 1 else if 730<w.hi then 1 else
 if 30<w.slips.length then 2 else if 30<w.mended.length then 2 else if 24<w.models.length then 2 else if zd3 w then 0 else 1
def zgs:List Wit→List Int→Int
 |[],_=>0
 |w::r,seen=>if witE w=0 then (if w.id∈seen then 6 else zgs r (insU seen w.id)) else witE w
def zai (s:List Wit):Int:=if 24<s.length then 2 else zgs s []
theorem zoi (l:List Wit)(i:Nat)(h:i<l.length)(seen:List Int):zgs (l.drop i) seen=if witE l[i]=0 then (if l[i].id∈seen then 6 else zgs (l.drop (i+1)) (insU seen l[i].id)) else witE l[i]:=by
 rw[List.drop_eq_getElem_cons h];rfl
theorem p35 (s:List Wit)(hl:s.length<4294967296):zaj prog 35 [encS s] fun r=>r=.int .i64 (zai s):=by
 refine .zag func35 rfl rfl ?_
 refine .sr ?_
 refine .seq (.sr ?_)
 refine .cs ?_ ?_<;>intro c9
 ·try simp at c9
  refine .sr ?_
  refine .ret ?_
  refine⟨_,_,zz4,zz4,?_⟩
  simp[zai];omega
 try simp at c9
 have hc:zgs s []=zai s:=by unfold zai;rw[if_neg (by omega)]
 refine .skip (.sr ?_)
 refine .seq (.sr ?_)
 refine .block ?_
 refine .zbl (fun st:Nat×List Int=>([(3,.mapv 1),(12,.vec (s.map encW)),(13,.int .i64 s.length),(14,.int .i64 st.1)],⟨2,[(1,.map (mp st.2))]⟩)) (fun st=>st.1≤s.length∧zgs (s.drop st.1) st.2=zai s) (fun st=>s.length - st.1) (0,[]) ⟨by simp,by simpa using hc⟩ (.mk [] [] zz2 zz3 rfl rfl rfl) ?_
 rintro⟨i,seen⟩ ⟨hi,hr⟩
 simp only at hi hr ⊢
 refine .sr ?_
 refine .seq ?_
 refine .cs ?_ ?_<;>intro c15
 ·try simp at c15
  have hw2:=wr1 i
  rw[zoi s i c15] at hr
  have hm:=zqy s[i].id seen
  refine .skip (.seq (.block (.sr ?_)))
  refine .seq (.seq ?_)
  refine .zac [0,1,2,3,4,5,6,7,8,9,10,11,12,13,14,15,16,17,18,19,20,21,22,23,24,25,26,27,28,29,30] rfl zz0 ?_
  refine .rn [0,1] _ ?_
  refine .pc rfl rfl rfl rfl rfl call113 (p113 s[i].id 1 1099511627776) ?_
  refine .rn [3,4] _ ?_
  refine .split (t:=22) rfl (fun c22=>?_) (fun c22=>?_)
  ·rw[c22]
   try simp at c22
   refine .rn [5,6,7,8,9,10,11,12,13,14,15,16,17,18,19,20,21,22,23,24,25,26,27,28,29,30] [] ?_
   refine .done (.zdm rfl (.sr ?_))
   refine .ret ?_
   refine⟨_,_,zz4,zz4,?_⟩
   have h0:witE s[i]=1:=by unfold witE;(repeat' split)<;>first|rfl|omega|(simp_all;done)
   rw[← hr,if_neg (by rw[h0];decide),h0]
  rw[c22]
  try simp at c22
  refine .rn [5,6] _ ?_
  refine .pc rfl rfl rfl rfl rfl call113 (p113 s[i].known 0 730) ?_
  refine .rn [8,9,10] _ ?_
  refine .split (t:=28) rfl (fun c28=>?_) (fun c28=>?_)
  ·rw[c28]
   try simp at c28
   refine .rn [11,12,13,14,15,16,17,18,19,20,21,22,23,24,25,26,27,28,29,30] [] ?_
   refine .done (.zdm rfl (.sr ?_))
   refine .ret ?_
   refine⟨_,_,zz4,zz4,?_⟩
   have h0:witE s[i]=1:=by unfold witE;(repeat' split)<;>first|rfl|omega|(simp_all;done)
   rw[← hr,if_neg (by rw[h0];decide),h0]
  rw[c28]
  try simp at c28
  refine .rn [11,12,13,14,15,16] _ ?_
  refine .split (t:=34) rfl (fun c34=>?_) (fun c34=>?_)
  ·rw[c34]
   try simp at c34
   refine .rn [17,18,19,20,21,22,23,24,25,26,27,28,29,30] [] ?_
   refine .done (.zdm rfl (.sr ?_))
   refine .ret ?_
   refine⟨_,_,zz4,zz4,?_⟩
   have h0:witE s[i]=1:=by unfold witE;(repeat' split)<;>first|rfl|omega|(simp_all;done)
   rw[← hr,if_neg (by rw[h0];decide),h0]
  rw[c34]
  try simp at c34
  refine .rn [17,18,19,20,21,22,23,24,25] _ ?_
  refine .split (t:=43) rfl (fun c43=>?_) (fun c43=>?_)
  ·rw[c43]
   try simp at c43
   refine .rn [26,27,28,29,30] [] ?_
   refine .done (.zdm rfl (.sr ?_))
   refine .ret ?_
   refine⟨_,_,zz4,zz4,?_⟩
   have h0:witE s[i]=1:=by unfold witE;(repeat' split)<;>first|rfl|omega|(simp_all;done)
   rw[← hr,if_neg (by rw[h0];decide),h0]
  rw[c43]
  try simp at c43
  refine .rn [26,27,28,29,30] [] ?_
  refine .done ?_
  refine .cs ?_ ?_<;>intro c48
  ·try simp at c48
   refine .sr ?_
   refine .ret ?_
   refine⟨_,_,zz4,zz4,?_⟩
   have h0:witE s[i]=1:=by unfold witE;(repeat' split)<;>first|rfl|omega|(simp_all;done)
   rw[← hr,if_neg (by rw[h0];decide),h0]
  try simp at c48
  refine .skip (.seq (.seq ?_))
  refine .zac [0,1,2,3,4,5,6,7,8,9,10,11,12,13,14,15] rfl zz0 ?_
  refine .rn [0,1,2,3,4] _ ?_
  refine .split (t:=53) rfl (fun c53=>?_) (fun c53=>?_)
  ·rw[c53]
   try simp at c53
   refine .rn [5,6,7,8,9,10,11,12,13,14,15] [] ?_
   refine .done (.zdm rfl (.sr ?_))
   refine .ret ?_
   refine⟨_,_,zz4,zz4,?_⟩
   have h0:witE s[i]=2:=by unfold witE;(repeat' split)<;>first|rfl|omega|(simp_all;done)
   rw[← hr,if_neg (by rw[h0];decide),h0]
  rw[c53]
  try simp at c53
  refine .rn [5,6,7,8,9,10] _ ?_
  refine .split (t:=59) rfl (fun c59=>?_) (fun c59=>?_)
  ·rw[c59]
   try simp at c59
   refine .rn [11,12,13,14,15] [] ?_
   refine .done (.zdm rfl (.sr ?_))
   refine .ret ?_
   refine⟨_,_,zz4,zz4,?_⟩
   have h0:witE s[i]=2:=by unfold witE;(repeat' split)<;>first|rfl|omega|(simp_all;done)
   rw[← hr,if_neg (by rw[h0];decide),h0]
  rw[c59]
  try simp at c59
  refine .rn [11,12,13,14,15] [] ?_
  refine .done ?_
  refine .cs ?_ ?_<;>intro c64
  ·try simp at c64
   refine .sr ?_
   refine .ret ?_
   refine⟨_,_,zz4,zz4,?_⟩
   have h0:witE s[i]=2:=by unfold witE;(repeat' split)<;>first|rfl|omega|(simp_all;done)
   rw[← hr,if_neg (by rw[h0];decide),h0]
  try simp at c64
  refine .skip (.seq (.seq ?_))
  refine .zac [0,1,2] rfl zz0 ?_
  refine .rn [0] _ ?_
  refine .pc rfl rfl rfl rfl rfl call114 (p114 s[i] (by omega) (by omega) (by omega)) ?_
  refine .rn [2] [] ?_
  refine .done ?_
  refine .cs ?_ ?_<;>intro c67
  ·try simp at c67
   refine .sr ?_
   refine .ret ?_
   refine⟨_,_,zz4,zz4,?_⟩
   have h0:witE s[i]=1:=by unfold witE;(repeat' split)<;>first|rfl|omega|(simp_all;done)
   rw[← hr,if_neg (by rw[h0];decide),h0]
  try simp at c67
  have h0:witE s[i]=0:=by unfold witE;(repeat' split)<;>first|rfl|omega|(simp_all;done)
  rw[if_pos h0] at hr
  refine .skip (.seq (.seq ?_))
  refine .zac [0,1,2,3] rfl zz0 ?_
  refine .rn [0,1,2] _ ?_
  refine .step rfl rfl (.borrow rfl rfl rfl call115 (by decide) zz4 (p115 seen s[i].id) (by rintro _ rfl<;>simp) ?_)
  rintro _ rfl
  refine .done ?_
  refine .cs ?_ ?_<;>intro c71
  ·try simp at c71
   refine .sr ?_
   refine .ret ?_
   refine⟨_,_,zz4,zz4,?_⟩
   rw[← hr,if_pos c71]
  try simp at c71
  refine .skip (.rn ?_)
  refine .rn ?_
  rw[if_neg c71] at hr
  refine⟨(i+1,insU seen s[i].id),⟨zz5,hr⟩,zz5,(.mk [] [] zz2 zz3 rfl rfl rfl)⟩
 try simp at c15
 have:i=s.length:=by omega
 refine .exit (.sr ?_)
 refine .ret ?_
 refine⟨_,_,zz4,zz4,?_⟩
 rw[← hr,this,List.drop_length];rfl
@[simp] theorem xa1 (s:List Wit):zdt 7 (s.map encW)=true:=zga (f:=encW) (n:=7) (fun _=>rfl) s
@[simp] theorem z8y (s:List Wit):zcm (s.map encW)=true:=zfj (f:=encW) (fun _=>by simp[PV.one]) s
theorem zhe {α β:Type}(f:α→β)(l:List α)(i:Nat)(h:i<l.length):(l.take (i+1)).map f=(l.take i).map f++[f l[i]]:=by
 rw[List.take_succ_eq_append_getElem h,List.map_append];rfl
theorem zmp {α:Type}(p:α→Bool)(l:List α)(i:Nat)(h:i<l.length):(l.take (i+1)).filter p=if p l[i] then (l.take i).filter p++[l[i]] else (l.take i).filter p:=by
 rw[List.take_succ_eq_append_getElem h,List.filter_append]
 by_cases hp:p l[i]<;>simp[hp]
theorem zgq {w:Wit}(h:witE w=0):w.slips.length≤30∧w.mended.length≤30∧w.models.length≤24:=by
 unfold witE at h
 repeat' split at h
 all_goals first|(simp at h;done)|omega
theorem zr6:∀ {l:List Wit} {seen:List Int},zgs l seen=0→∀w∈l,witE w=0
 |[],_,_,w,hw=>by cases hw
 |a::r,seen,h,w,hw=>by
  simp only[zgs] at h
  by_cases h0:witE a=0
  ·rw[if_pos h0] at h
   split at h
   ·simp at h
   rcases List.mem_cons.1 hw with rfl|hw
   ·exact h0
   exact zr6 h w hw
  rw[if_neg h0] at h;exact absurd h h0
theorem zbc {s:List Wit}(h:zai s=0):s.length≤24∧∀w∈s,witE w=0:=by
 unfold zai at h
 split at h
 ·simp at h
 exact⟨by omega,zr6 h⟩
theorem zc9 {s:List Wit}(h:zai s=0):∀w∈s,w.slips.length<4294967296∧w.mended.length<4294967296∧w.models.length<4294967296:=fun w hw=>by
 have:=zgq ((zbc h).2 w hw)
 omega
theorem p120 (n a b:Int):zaj prog 120 [.int .i64 n,.int .i64 a,.int .i64 b] fun r=>r=.bool (decide (a≤n)&&decide (n≤b)):=by
 refine .zag func120 rfl rfl ?_
 refine .sr ?_
 refine .seq ?_
 refine .zac [0,1,2,3,4,5,6,7,8] rfl zz0 ?_
 refine .rn [0,1,2,3] _ ?_
 refine .split (t:=10) rfl (fun c10=>?_) (fun c10=>?_)
 ·rw[c10]
  try simp at c10
  refine .rn [4,5,6,7,8] [] ?_
  refine .done (.ret ?_)
  refine⟨_,_,zz4,zz4,?_⟩
  simp<;>omega
 rw[c10]
 try simp at c10
 refine .rn [4,5,6,7,8] [] ?_
 refine .done (.ret ?_)
 refine⟨_,_,zz4,zz4,?_⟩
 simp<;>omega
theorem zrq (l:List Int)(i:Nat)(h:i<l.length)(n:Int):n∈l.drop i↔l[i]=n∨n∈l.drop (i+1):=by
 rw[List.drop_eq_getElem_cons h,List.mem_cons]
 constructor<;>rintro (h|h)
 ·exact .inl h.symm
 ·exact .inr h
 ·exact .inl h.symm
 exact .inr h
theorem p121 (l:List Int)(n:Int)(hl:l.length<4294967296):zaj prog 121 [ints l,.int .i64 n] fun r=>r=.bool (decide (n∈l)):=by
 refine .zag func121 rfl rfl ?_
 refine .sr ?_
 refine .seq (.sr ?_)
 refine .block ?_
 refine .zbl (fun i:Nat=>([(0,ints l),(1,.int .i64 n),(5,.int .i64 i)],zab.empty)) (fun i=>i≤l.length∧(n∈l.drop i↔n∈l)) (fun i=>l.length - i) 0 (by simp) (.pure (by simp[*]) (by simp)) ?_
 rintro i ⟨hi,hr⟩
 simp only at hi hr ⊢
 refine .seq (.sr ?_)
 refine .cs ?_ ?_<;>intro c9
 ·try simp at c9
  have hw2:=wr1 i
  rw[zrq l i c9 n] at hr
  refine .skip (.seq (.block (.sr ?_)))
  refine .cs ?_ ?_<;>intro c17
  ·try simp at c17
   refine .sr ?_
   refine .ret ?_
   refine⟨_,_,zz4,zz4,?_⟩
   have:n∈l:=hr.1 (.inl c17)
   simp[this]
  try simp at c17
  refine .skip (.rn ?_)
  refine⟨i+1,⟨zz5,?_⟩,zz5,.pure (by simp[*]) (by simp)⟩
  rw[← hr];simp[c17]
 try simp at c9
 have:i=l.length:=by omega
 refine .exit (.sr ?_)
 refine .ret ?_
 refine⟨_,_,zz4,zz4,?_⟩
 subst this
 have:¬n∈l:=by rw[← hr];simp
 simp[this]
theorem p172 (l:List Int)(lo:Int)(hl:l.length<4294967296)(h1 : -9223372036854775808<lo)(h2:lo<9223372036854775808):zaj prog 172 [ints l,.int .i64 lo,.int .i64 1099511627776] fun r=>r=.bool (zb3 l (lo - 1)):=by
 refine .zag func172 rfl rfl ?_
 refine .sr ?_
 refine .seq (.sr ?_)
 refine .block ?_
 refine .zbl (fun s:Nat×Int=>([(0,ints l),(1,.int .i64 lo),(2,.int .i64 1099511627776),(7,.int .i64 s.1)],zab.empty)) (fun s=>s.1≤l.length∧lo - 1≤s.2∧(s.1=0∧s.2=lo - 1∨0<s.1∧l[s.1 - 1]?=some s.2)∧zb3 (l.drop s.1) s.2=zb3 l (lo - 1)) (fun s=>l.length - s.1) (0,lo - 1) (by simp) (.pure (by simp[*]) (by simp)) ?_
 rintro⟨i,last⟩ ⟨hi,hla,hor,hr⟩
 simp only at hi hla hor hr ⊢
 refine .seq (.sr ?_)
 refine .cs ?_ ?_<;>intro c12
 ·try simp at c12
  have hw2:=wr1 i
  have hw3:IntKind.i64.wrap ((i:Int) - 1)=(i:Int) - 1:=wrap64 (by omega) (by omega)
  rw[zl6 l i c12] at hr
  refine .skip (.seq (.block (.seq ?_)))
  refine .zac [0,1,2,3,4,5,6,7] rfl zz0 ?_
  refine .rn [0,1,2,3,4,5] _ ?_
  refine .pc rfl rfl rfl rfl rfl call120 (p120 l[i] lo 1099511627776) ?_
  refine .rn [7] [] ?_
  refine .done (.seq ?_)
  refine .drawn (ms:=[0,1,3,7,15,31,63,63,255,511,63,63,2111,6207,15423,31807,65535,131071,262143]) (W:=[]) (items:=[.op 0,.op 1,.op 2,.op 3,.op 4,.op 5,.op 6,.op 7,.op 8,.op 9,.op 10,.op 11,.op 12,.op 13,.op 14,.op 15,.op 16,.op 17,.op 18]) rfl zz0 zz0 zz0 ?_
  iterate 3 refine .rx ?_
  refine .split (t:=24) rfl (fun c24=>?_) (fun c24=>?_)
  ·rw[c24]
   try simp at c24
   iterate 15 refine .ux ?_
   refine .rx ?_
   refine .done (.zdm rfl (.sr ?_))
   refine .ret ?_
   refine⟨_,_,zz4,zz4,?_⟩
   rw[← hr,if_pos (by omega)]
  rw[c24]
  try simp at c24
  iterate 3 refine .rx ?_
  refine .split (t:=27) rfl (fun c27=>?_) (fun c27=>?_)
  ·rw[c27]
   try simp at c27
   have hl2:l[i - 1]?=some last:=by rcases hor with h|h;omega;exact h.2
   have hmx:(if 1<(i:Int) then (i:Int) - 1 else 0)=((i - 1:Nat):Int):=by split<;>omega
   have hi3:i - 1<l.length:=by omega
   have hl3:l[i - 1]=last:=by rw[List.getElem?_eq_getElem hi3] at hl2;simpa using hl2
   iterate 13 refine .rx ?_
   refine .done ?_
   refine .cs ?_ ?_<;>intro c40
   ·try simp at c40
    refine .sr ?_
    refine .ret ?_
    refine⟨_,_,zz4,zz4,?_⟩
    rw[← hr,if_pos (by omega)]
   try simp at c40
   refine .skip (.rn ?_)
   rw[if_neg (by omega)] at hr
   refine⟨(i+1,l[i]),⟨zz5,zz5,.inr ⟨by omega,by simp[c12]⟩,hr⟩,zz5,.pure (by simp[*]) (by simp)⟩
  rw[c27]
  try simp at c27
  iterate 11 refine .ux ?_
  iterate 2 refine .rx ?_
  refine .done (.zjp rfl (.skip (.rn ?_)))
  have:i=0:=by omega
  rw[if_neg (by omega)] at hr
  subst this
  have h0:IntKind.i64.wrap 1=1:=by decide
  refine⟨(1,l[0]),⟨zz5,zz5,.inr ⟨by omega,by simp[c12]⟩,hr⟩,zz5,.pure (by simp[*]) (by simp[*])⟩
 try simp at c12
 have:i=l.length:=by omega
 refine .exit (.sr ?_)
 refine .ret ?_
 refine⟨_,_,zz4,zz4,?_⟩
 rw[← hr,this,List.drop_length];rfl
theorem z1r (m:Int)(l:List Int):m∈setK [l]↔m∈l:=by rw[zmu];simp
theorem ztm (w:Wit):zd3 w=(zb3 w.slips 0&&(zb3 w.mended 0&&(zb3 w.models (-1)&&(!decide (w.id∈w.models)&&!(w.mended.any fun n=>decide (n∈w.slips)))))):=by
 unfold zd3
 have h1:(w.models.any fun a=>decide (w.id=a))=decide (w.id∈w.models):=by
  rw[Bool.eq_iff_iff];simp
 have h2:(w.slips.any fun n=>decide (n∈setK [w.mended]))=(w.mended.any fun n=>decide (n∈w.slips)):=by
  rw[Bool.eq_iff_iff];simp only[List.any_eq_true,decide_eq_true_eq,z1r]
  constructor<;>rintro⟨x,h1,h2⟩<;>exact⟨x,h2,h1⟩
 rw[h1,h2]
theorem z3x {α:Type}(p:α→Bool)(l:List α)(i:Nat)(h:i<l.length):(l.drop i).any p=(p l[i]||(l.drop (i+1)).any p):=by
 rw[List.drop_eq_getElem_cons h];rfl
theorem p130 (w:Wit)(hs:w.slips.length<4294967296)(hm:w.mended.length<4294967296)(ho:w.models.length<4294967296):zaj prog 130 [encW w] fun r=>r=.int .i64 (witE w):=by
 have hR:=ztm w
 refine .zag func130 rfl rfl ?_
 refine .sr ?_
 refine .seq ?_
 refine .zac [0,1,2,3] rfl zz0 ?_
 refine .rn [0,1] _ ?_
 refine .pc rfl rfl rfl rfl rfl call120 (p120 w.id 1 1099511627776) ?_
 refine .rn [3] [] ?_
 refine .done (.seq ?_)
 refine .zac [0,1,2,3] rfl zz0 ?_
 refine .rn [0,1] _ ?_
 refine .pc rfl rfl rfl rfl rfl call120 (p120 w.known 0 730) ?_
 refine .rn [3] [] ?_
 refine .done (.seq (.seq ?_))
 refine .zac [0,1,2,3,4,5,6,7,8,9,10,11,12,13,14,15,16,17,18,19,20,21,22,23,24,25,26] rfl zz0 ?_
 refine .rn [0,1,2] _ ?_
 refine .split (t:=19) rfl (fun c19=>?_) (fun c19=>?_)
 ·rw[c19]
  try simp at c19
  refine .rn [3,4,5,6,7,8,9,10,11,12,13,14,15,16,17,18,19,20,21,22,23,24,25,26] [] ?_
  refine .done (.zdm rfl (.sr ?_))
  refine .ret ?_
  refine⟨_,_,zz4,zz4,?_⟩
  congr 1;unfold witE;(repeat' split)<;>first|rfl|omega|(simp_all;done)
 rw[c19]
 try simp at c19
 refine .rn [3,4,5,6] _ ?_
 refine .split (t:=23) rfl (fun c23=>?_) (fun c23=>?_)
 ·rw[c23]
  try simp at c23
  refine .rn [7,8,9,10,11,12,13,14,15,16,17,18,19,20,21,22,23,24,25,26] [] ?_
  refine .done (.zdm rfl (.sr ?_))
  refine .ret ?_
  refine⟨_,_,zz4,zz4,?_⟩
  congr 1;unfold witE;(repeat' split)<;>first|rfl|omega|(simp_all;done)
 rw[c23]
 try simp at c23
 refine .rn [7,8,9,10,11,12] _ ?_
 refine .split (t:=29) rfl (fun c29=>?_) (fun c29=>?_)
 ·rw[c29]
  try simp at c29
  refine .rn [13,14,15,16,17,18,19,20,21,22,23,24,25,26] [] ?_
  refine .done (.zdm rfl (.sr ?_))
  refine .ret ?_
  refine⟨_,_,zz4,zz4,?_⟩
  congr 1;unfold witE;(repeat' split)<;>first|rfl|omega|(simp_all;done)
 rw[c29]
 try simp at c29
 refine .rn [13,14,15,16,17,18,19,20,21] _ ?_
 refine .split (t:=38) rfl (fun c38=>?_) (fun c38=>?_)
 ·rw[c38]
  try simp at c38
  refine .rn [22,23,24,25,26] [] ?_
  refine .done (.zdm rfl (.sr ?_))
  refine .ret ?_
  refine⟨_,_,zz4,zz4,?_⟩
  congr 1;unfold witE;(repeat' split)<;>first|rfl|omega|(simp_all;done)
 rw[c38]
 try simp at c38
 refine .rn [22,23,24,25,26] [] ?_
 refine .done ?_
 refine .cs ?_ ?_<;>intro c43
 ·try simp at c43
  refine .sr ?_
  refine .ret ?_
  refine⟨_,_,zz4,zz4,?_⟩
  congr 1;unfold witE;(repeat' split)<;>first|rfl|omega|(simp_all;done)
 try simp at c43
 refine .skip (.seq (.seq ?_))
 refine .zac [0,1,2,3,4,5,6,7,8,9,10,11,12,13,14,15] rfl zz0 ?_
 refine .rn [0,1,2,3,4] _ ?_
 refine .split (t:=48) rfl (fun c48=>?_) (fun c48=>?_)
 ·rw[c48]
  try simp at c48
  refine .rn [5,6,7,8,9,10,11,12,13,14,15] [] ?_
  refine .done (.zdm rfl (.sr ?_))
  refine .ret ?_
  refine⟨_,_,zz4,zz4,?_⟩
  congr 1;unfold witE;(repeat' split)<;>first|rfl|omega|(simp_all;done)
 rw[c48]
 try simp at c48
 refine .rn [5,6,7,8,9,10] _ ?_
 refine .split (t:=54) rfl (fun c54=>?_) (fun c54=>?_)
 ·rw[c54]
  try simp at c54
  refine .rn [11,12,13,14,15] [] ?_
  refine .done (.zdm rfl (.sr ?_))
  refine .ret ?_
  refine⟨_,_,zz4,zz4,?_⟩
  congr 1;unfold witE;(repeat' split)<;>first|rfl|omega|(simp_all;done)
 rw[c54]
 try simp at c54
 refine .rn [11,12,13,14,15] [] ?_
 refine .done ?_
 refine .cs ?_ ?_<;>intro c59
 ·try simp at c59
  refine .sr ?_
  refine .ret ?_
  refine⟨_,_,zz4,zz4,?_⟩
  congr 1;unfold witE;(repeat' split)<;>first|rfl|omega|(simp_all;done)
 try simp at c59
 refine .skip (.seq ?_)
 refine .zac [0,1,2,3] rfl zz0 ?_
 refine .rn [0,1] _ ?_
 refine .pc rfl rfl rfl rfl rfl call172 (p172 w.slips 1 hs (by omega) (by omega)) ?_
 refine .rn [3] [] ?_
 refine .done (.seq ?_)
 refine .zac [0,1,2,3] rfl zz0 ?_
 refine .rn [0,1] _ ?_
 refine .pc rfl rfl rfl rfl rfl call172 (p172 w.mended 1 hm (by omega) (by omega)) ?_
 refine .rn [3] [] ?_
 refine .done (.seq ?_)
 refine .zac [0,1,2,3] rfl zz0 ?_
 refine .rn [0,1] _ ?_
 refine .pc rfl rfl rfl rfl rfl call172 (p172 w.models 0 ho (by omega) (by omega)) ?_
 refine .rn [3] [] ?_
 refine .done (.seq ?_)
 refine .zac [0,1,2,3,4,5] rfl zz0 ?_
 refine .rn [0,1,2,3] _ ?_
 refine .pc rfl rfl rfl rfl rfl call121 (p121 w.models w.id ho) ?_
 refine .rn [5] [] ?_
 refine .done (.seq (.seq ?_))
 refine .zac [0,1,2,3,4,5,6,7,8,9,10,11,12] rfl zz0 ?_
 refine .rn [0,1,2] _ ?_
 refine .split (t:=76) rfl (fun c76=>?_) (fun c76=>?_)
 ·rw[c76]
  try simp at c76
  refine .rn [3,4,5,6,7,8,9,10,11,12] [] ?_
  refine .done (.zdm rfl (.sr ?_))
  refine .ret ?_
  refine⟨_,_,zz4,zz4,?_⟩
  congr 1;unfold witE;(repeat' split)<;>first|rfl|omega|(simp_all;done)
 rw[c76]
 try simp at c76
 refine .rn [3,4,5,6] _ ?_
 refine .split (t:=80) rfl (fun c80=>?_) (fun c80=>?_)
 ·rw[c80]
  try simp at c80
  refine .rn [7,8,9,10,11,12] [] ?_
  refine .done (.zdm rfl (.sr ?_))
  refine .ret ?_
  refine⟨_,_,zz4,zz4,?_⟩
  congr 1;unfold witE;(repeat' split)<;>first|rfl|omega|(simp_all;done)
 rw[c80]
 try simp at c80
 refine .rn [7,8,9,10] _ ?_
 refine .split (t:=84) rfl (fun c84=>?_) (fun c84=>?_)
 ·rw[c84]
  try simp at c84
  refine .rn [11,12] [] ?_
  refine .done (.zdm rfl (.sr ?_))
  refine .ret ?_
  refine⟨_,_,zz4,zz4,?_⟩
  congr 1;unfold witE;(repeat' split)<;>first|rfl|omega|(simp_all;done)
 rw[c84]
 try simp at c84
 refine .rn [11,12] [] ?_
 refine .done ?_
 refine .cs ?_ ?_<;>intro c86
 ·try simp at c86
  refine .sr ?_
  refine .ret ?_
  refine⟨_,_,zz4,zz4,?_⟩
  congr 1;unfold witE;(repeat' split)<;>first|rfl|omega|(simp_all;done)
 try simp at c86
 refine .skip (.seq (.sr ?_))
 refine .block ?_
 refine .zbl (fun i:Nat=>([(1,.ptr 0 0),(9,.int .i64 i)],⟨1,[(0,.box [.int .i64 w.id,.int .i64 w.known,ints w.slips,ints w.mended,ints w.models,.int .i64 w.lo,.int .i64 w.hi])]⟩)) (fun i=>i≤w.mended.length∧((w.mended.drop i).any fun n=>decide (n∈w.slips))=(w.mended.any fun n=>decide (n∈w.slips))) (fun i=>w.mended.length - i) 0 (by simp) (.mk [] [] zz2 zz3 rfl rfl rfl) ?_
 rintro i ⟨hi,hr⟩
 simp only at hi hr ⊢
 refine .seq (.sr ?_)
 refine .cs ?_ ?_<;>intro c91
 ·try simp at c91
  have hw2:=wr1 i
  rw[z3x _ w.mended i c91] at hr
  refine .skip (.seq (.block (.seq ?_)))
  refine .drawn (ms:=[0,1,0,4,0,28,60,127,255]) (W:=[7]) (items:=[.op 0,.op 1,.op 2,.op 3,.op 4,.op 5,.op 6,.op 7,.op 8]) rfl zz0 zz0 zz0 ?_
  iterate 7 refine .rx ?_
  refine .wp rfl rfl rfl rfl rfl call121 (p121 w.slips w.mended[i] hs) ?_
  refine .rx ?_
  refine .done (.sr ?_)
  refine .cs ?_ ?_<;>intro c102
  ·try simp at c102
   refine .sr ?_
   refine .ret ?_
   refine⟨_,_,zz4,zz4,?_⟩
   congr 1;unfold witE;(repeat' split)<;>first|rfl|omega|(simp_all;done)
  try simp at c102
  refine .skip (.rn ?_)
  refine⟨i+1,⟨zz5,?_⟩,zz5,(.mk [] [] zz2 zz3 rfl rfl rfl)⟩
  rw[← hr];simp[c102]
 try simp at c91
 have:i=w.mended.length:=by omega
 refine .exit (.sr ?_)
 refine .ret ?_
 refine⟨_,_,zz4,zz4,?_⟩
 have h0:(w.mended.any fun n=>decide (n∈w.slips))=false:=by rw[← hr,this,List.drop_length];rfl
 rw[h0] at hR
 have hR2:zd3 w=true:=by rw[hR];simp[c76,c80,c84,c86]
 congr 1;unfold witE;(repeat' split)<;>first|rfl|omega|(simp_all;done)
theorem zjk (n:Int)(s:List Wit):n∈(s.map Wit.id).foldl insU []↔∃w∈s,w.id=n:=by
 rw[zgu];simp
theorem znw (s:List Wit)(i:Nat)(h:i<s.length):((s.take (i+1)).map Wit.id).foldl insU []=insU (((s.take i).map Wit.id).foldl insU []) s[i].id:=by
 rw[zhe Wit.id s i h,List.foldl_append];rfl
theorem p52 (s:List Wit)(hl:s.length<4294967296)(hw:∀w∈s,w.slips.length<4294967296∧w.mended.length<4294967296∧w.models.length<4294967296):zaj prog 52 [encS s] fun r=>r=.int .i64 (zai s):=by
 refine .zag func52 rfl rfl ?_
 refine .sr ?_
 refine .seq (.sr ?_)
 refine .cs ?_ ?_<;>intro c9
 ·try simp at c9
  refine .sr ?_
  refine .ret ?_
  refine⟨_,_,zz4,zz4,?_⟩
  simp[zai];omega
 try simp at c9
 have hc:zgs s []=zai s:=by unfold zai;rw[if_neg (by omega)]
 refine .skip (.seq (.sr ?_))
 refine .block ?_
 refine .zbl (fun i:Nat=>([(1,.ptr 0 0),(3,.int .i64 i)],⟨1,[(0,.box [.vec (s.map encW)])]⟩)) (fun i=>i≤s.length∧zgs (s.drop i) (((s.take i).map Wit.id).foldl insU [])=zai s) (fun i=>s.length - i) 0 (by simpa using hc) (.mk [] [] zz2 zz3 rfl rfl rfl) ?_
 rintro i ⟨hi,hr⟩
 simp only at hi hr ⊢
 refine .seq (.sr ?_)
 refine .cs ?_ ?_<;>intro c14
 ·try simp at c14
  have hw2:=wr1 i
  rw[zoi s i c14] at hr
  obtain⟨hw3,hw4,hw5⟩:=hw s[i] (List.getElem_mem c14)
  refine .skip (.seq (.block (.seq ?_)))
  refine .zac [0,1,2,3,4,5,6] rfl zz0 ?_
  refine .rn [0,1,2,3,4] _ ?_
  refine .pc rfl rfl rfl rfl rfl call130 (p130 s[i] hw3 hw4 hw5) ?_
  refine .rn [6] [] ?_
  refine .done (.seq (.sr ?_))
  refine .cs ?_ ?_<;>intro c24
  ·try simp at c24
   refine .sr ?_
   refine .ret ?_
   refine⟨_,_,zz4,zz4,?_⟩
   rw[← hr,if_neg c24]
  try simp at c24
  rw[if_pos c24] at hr
  refine .skip (.sr ?_)
  refine .block ?_
  refine .zbl (fun k:Nat=>([(1,.ptr 0 0),(3,.int .i64 i),(5,.int .i64 k)],⟨1,[(0,.box [.vec (s.map encW)])]⟩)) (fun k=>k≤i∧∀w∈s.take k,w.id≠s[i].id) (fun k=>i - k) 0 (by simp) (.mk [] [] zz2 zz3 rfl rfl rfl) ?_
  rintro k ⟨hk,hr2⟩
  simp only at hk hr2 ⊢
  refine .seq (.sr ?_)
  refine .cs ?_ ?_<;>intro c28
  ·try simp at c28
   have hk3:k<s.length:=by omega
   have hw6:=wr1 k
   refine .skip (.seq (.block (.seq ?_)))
   refine .drawn (ms:=[0,1,0,7,15,31,0,64,0,448,960,1984,4095]) (W:=[]) (items:=[.op 0,.op 1,.op 2,.op 3,.op 4,.op 5,.op 6,.op 7,.op 8,.op 9,.op 10,.op 11,.op 12]) rfl zz0 zz0 zz0 ?_
   iterate 13 refine .rx ?_
   refine .done ?_
   refine .cs ?_ ?_<;>intro c43
   ·try simp at c43
    refine .sr ?_
    refine .ret ?_
    refine⟨_,_,zz4,zz4,?_⟩
    have hm:s[i].id∈((s.take i).map Wit.id).foldl insU []:=by
     rw[zjk]
     exact⟨s[k],by rw[List.mem_take_iff_getElem];exact⟨k,by omega,rfl⟩,c43⟩
    rw[← hr,if_pos hm]
   try simp at c43
   refine .skip (.rn ?_)
   refine⟨k+1,⟨zz5,fun w hw=>?_⟩,zz5,(.mk [] [] zz2 zz3 rfl rfl rfl)⟩
   rw[List.take_succ_eq_append_getElem hk3,List.mem_append] at hw
   rcases hw with hw|hw
   ·exact hr2 w hw
   simp at hw;subst hw;exact c43
  try simp at c28
  have hki:k=i:=by omega
  refine .exit (.rn ?_)
  subst hki
  have hm:¬s[k].id∈((s.take k).map Wit.id).foldl insU []:=by
   rw[zjk]
   rintro⟨w,hw,he⟩
   exact hr2 w hw he
  rw[if_neg hm,← znw s k c14] at hr
  exact⟨k+1,⟨zz5,hr⟩,zz5,(.mk [] [] zz2 zz3 rfl rfl rfl)⟩
 try simp at c14
 have:i=s.length:=by omega
 refine .exit (.sr ?_)
 refine .ret ?_
 refine⟨_,_,zz4,zz4,?_⟩
 rw[← hr,this,List.drop_length];rfl
end Go.Am.Ds
end
