/-
 What is used in the proof of a statement (part DsA); no condition.
-/
import Derived.Test.YtnablaecbohhmaaGreatDsZ
import Derived.Test.YtnablaecbohhmaaGreatVm2
import Derived.Test.YtnablaecbohhmaaGreatDsT
set_option linter.all false
set_option maxHeartbeats 40000000
set_option maxRecDepth 100000
section
namespace Go.Am.Ds
open Go Go.Am Go.Proofs Tryz
attribute [local simp] vrun zaz zbg vop za6 zbo zb4 vO zbc vlen zbs zbz zd2 zaq zak zcj vbox zbe zdu zby zdt zcm zau zcn zav zcl zbf zci zbr zbl vbnd zcz vidx zbp zdk zar zbt zdj zd9 zd6 vbin vsc vsc1 vscs vscl zbv aint zb3 zdl za8 zcx zd0 pvcV pvc pvcs tput tget zdd zab.get zab.alloc zab.put zab.drop zab.empty zce vput zdi zbb zca zda chunk List.range List.range.loop za0 zbu za1 frz frzL PV.isF PV.allF PV.scal PV.allS retP subT zds PV.one PV.ids PV.idsL zcc beq_eq zbw zbx
theorem p113 (n a b:Int):zat prog 113 [.int .i64 n,.int .i64 a,.int .i64 b] fun r=>r=.bool (decide (a≤n)&&decide (n≤b)):=by
 refine .zah func113 rfl rfl ?_
 refine .sr ?_
 refine .seq ?_
 refine .zac [0,1,2,3,4,5,6,7,8] rfl zz0 ?_
 refine .rn [0,1,2,3] _ ?_
 refine .split (t:=10) rfl (fun c10=>?_) (fun c10=>?_)
 ·rw[c10]
  try simp at c10
  refine .rn [4,5,6,7,8] [] ?_
  refine .done (.ret ?_)
  refine⟨_,_,zz4,zz4,?_⟩
  simp<;>omega
 rw[c10]
 try simp at c10
 refine .rn [4,5,6,7,8] [] ?_
 refine .done (.ret ?_)
 refine⟨_,_,zz4,zz4,?_⟩
 simp<;>omega
def zdn:List Int→Int→Bool
 |[],_=>true
 |n::r,last=>if n≤last∨n > 1099511627776 then false else zdn r n
theorem zq1 (l:List Int)(i:Nat)(h:i<l.length)(last:Int):zdn (l.drop i) last=if l[i]≤last∨l[i] > 1099511627776 then false else zdn (l.drop (i+1)) l[i]:=by
 rw[List.drop_eq_getElem_cons h];rfl
theorem p168 (l:List Int)(lo:Int)(hl:l.length<4294967296)(h1 : -9223372036854775808<lo)(h2:lo<9223372036854775808):zat prog 168 [ints l,.int .i64 lo] fun r=>r=.bool (zdn l (lo - 1)):=by
 have hw:IntKind.i64.wrap (lo - 1)=lo - 1:=wrap64 (by omega) (by omega)
 refine .zah func168 rfl rfl ?_
 refine .sr ?_
 refine .sr ?_
 refine .seq (.sr ?_)
 refine .block ?_
 refine .zco (fun s:Nat×Int=>([(5,.int .i64 s.2),(10,ints l),(11,.int .i64 l.length),(12,.int .i64 s.1)],zab.empty)) (fun s=>s.1≤l.length∧zdn (l.drop s.1) s.2=zdn l (lo - 1)) (fun s=>l.length - s.1) (0,lo - 1) ⟨by simp,by simp⟩ (.pure rfl (by simp)) ?_
 rintro⟨i,last⟩ ⟨hi,hr⟩
 simp only at hi hr ⊢
 refine .sr ?_
 refine .seq ?_
 refine .cs ?_ ?_<;>intro c13
 ·try simp at c13
  have hw2:=wr1 i
  rw[zq1 l i c13] at hr
  refine .skip (.seq (.block (.sr ?_)))
  refine .seq (.seq ?_)
  refine .zac [0,1,2,3,4,5,6] rfl zz0 ?_
  refine .rn [0,1,2,3] _ ?_
  refine .split (t:=19) rfl (fun c19=>?_) (fun c19=>?_)
  ·rw[c19]
   try simp at c19
   refine .rn [4,5,6] [] ?_
   refine .done (.zey rfl (.sr ?_))
   refine .ret ?_
   refine⟨_,_,zz4,zz4,?_⟩
   first|rfl|(simp[*];done)|(simp_all;done)
  rw[c19]
  try simp at c19
  refine .rn [4,5,6] [] ?_
  refine .done ?_
  refine .cs ?_ ?_<;>intro c22
  ·try simp at c22
   refine .sr ?_
   refine .ret ?_
   refine⟨_,_,zz4,zz4,?_⟩
   first|rfl|(simp[*];done)|(simp_all;done)
  try simp at c22
  refine .skip (.rn ?_)
  refine .rn ?_
  refine⟨(i+1,l[i]),⟨by simp;omega,?_⟩,by simp;omega,.pure rfl (by simp)⟩
  rw[← hr,if_neg (by omega)]
 try simp at c13
 have:i=l.length:=by omega
 refine .exit (.sr ?_)
 refine .ret ?_
 refine⟨_,_,zz4,zz4,?_⟩
 rw[← hr,this,List.drop_length];rfl
def idxF {α:Type}(p:α→Bool):Nat→List α→Int
 |_,[] => -1
 |i,a::r=>if p a then i else idxF p (i+1) r
theorem zgx {α:Type}(p:α→Bool)(l:List α)(i:Nat)(h:i<l.length):idxF p i (l.drop i)=if p l[i] then (i:Int) else idxF p (i+1) (l.drop (i+1)):=by
 rw[List.drop_eq_getElem_cons h];rfl
theorem p176 (l:List Int)(v:Int)(hl:l.length<4294967296):zat prog 176 [ints l,.int .i64 v] fun r=>r=.int .i64 (idxF (fun a=>decide (v=a)) 0 l):=by
 refine .zah func176 rfl rfl ?_
 refine .sr ?_
 refine .seq (.sr ?_)
 refine .block ?_
 refine .zco (fun s:Nat=>([(0,ints l),(1,.int .i64 v),(7,.int .i64 l.length),(8,.int .i64 s)],zab.empty)) (fun s=>s≤l.length∧idxF (fun a=>decide (v=a)) s (l.drop s)=idxF (fun a=>decide (v=a)) 0 l) (fun s=>l.length - s) 0 ⟨by simp,by simp⟩ (.pure (by simp[*]) (by simp)) ?_
 rintro i ⟨hi,hr⟩
 simp only at hi hr ⊢
 refine .sr ?_
 refine .seq ?_
 refine .cs ?_ ?_<;>intro c9
 ·try simp at c9
  have hw2:=wr1 i
  rw[zgx _ l i c9] at hr
  refine .skip (.seq (.block (.sr ?_)))
  refine .sr ?_
  refine .cs ?_ ?_<;>intro c16
  ·try simp at c16
   refine .sr ?_
   refine .ret ?_
   refine⟨_,_,zz4,zz4,?_⟩
   rw[← hr,if_pos (by simp[c16])]
  try simp at c16
  refine .skip (.rn ?_)
  refine⟨i+1,⟨zz5,?_⟩,zz5,.pure (by simp[*]) (by simp)⟩
  rw[← hr,if_neg (by simp[c16])]
 try simp at c9
 have:i=l.length:=by omega
 refine .exit (.sr ?_)
 refine .ret ?_
 refine⟨_,_,zz4,zz4,?_⟩
 rw[← hr,this,List.drop_length];rfl
theorem zna {α:Type}(p:α→Bool):∀(l:List α) (i:Nat),(idxF p i l = -1∧l.any p=false)∨((i:Int)≤idxF p i l∧idxF p i l<i+l.length∧l.any p=true)
 |[],i=>.inl ⟨rfl,rfl⟩
 |a::r,i=>by
  simp only[idxF,List.any_cons,List.length_cons]
  cases h:p a with
  |true=>exact .inr ⟨by simp,by simp;omega,rfl⟩
  |false=>
   rcases zna p r (i+1) with⟨h1,h2⟩|⟨h1,h2,h3⟩
   ·exact .inl ⟨by simpa using h1,by simpa using h2⟩
   exact .inr ⟨by simp;omega,by simp;omega,by simpa using h3⟩
theorem zlx {α:Type}(p:α→Bool)(l:List α)(i:Nat):decide (idxF p i l≥0)=l.any p:=by
 rcases zna p l i with⟨h1,h2⟩|⟨h1,h2,h3⟩
 ·rw[h1,h2];decide
 rw[h3];simp;omega
theorem p144 (l:List Int)(v:Int)(hl:l.length<4294967296):zat prog 144 [ints l,.int .i64 v] fun r=>r=.bool (l.any fun a=>decide (v=a)):=by
 refine .zah func144 rfl rfl ?_
 refine .sr ?_
 refine .seq ?_
 refine .zac [0,1,2,3,4] rfl zz0 ?_
 refine .rn [0,1] _ ?_
 refine .pc rfl rfl rfl rfl rfl call176 (p176 l v hl) ?_
 refine .rn [3,4] [] ?_
 refine .done (.ret ?_)
 refine⟨_,_,zz4,zz4,?_⟩
 rw[← zlx _ l 0]
theorem p175 {α:Type}(l:List α)(enc:α→PV)(p:α→Bool)(f:FuncId)(xs ys:List PV)(hl:l.length<4294967296)(he:∀a,(enc a).cells=[enc a])(hx:PV.allF xs=true)(hy:PV.allF ys=true)(hF:∀a,(enc a).isF=true)(hcf:∀cs w,(callFunc f cs).run prog w=.ok (.enter f cs) w)(hp:∀a∈l,zat prog f (xs++[enc a]++ys) fun r=>r=.bool (p a)):zat prog 175 [.vec (l.map enc),.func f xs ys] fun r=>r=.int .i64 (idxF p 0 l):=by
 refine .zah func175 rfl rfl ?_
 refine .sr ?_
 refine .seq (.sr ?_)
 refine .block ?_
 refine .zco (fun s:Nat=>([(0,.vec (l.map enc)),(1,.func f xs ys),(7,.int .i64 l.length),(8,.int .i64 s)],zab.empty)) (fun s=>s≤l.length∧idxF p s (l.drop s)=idxF p 0 l) (fun s=>l.length - s) 0 ⟨by simp,by simp⟩ (.pure (by simp[*]) (by simp)) ?_
 rintro i ⟨hi,hr⟩
 simp only at hi hr ⊢
 refine .sr ?_
 refine .seq ?_
 refine .cs ?_ ?_<;>intro c9
 ·try simp at c9
  have hw2:=wr1 i
  rw[zgx p l i c9] at hr
  have he:=he l[i]
  have hp:=hp l[i] (List.getElem_mem c9)
  refine .skip (.seq (.block (.sr ?_)))
  refine .seq ?_
  refine .zac [0,1,2,3,4,5] rfl zz0 ?_
  refine .rn [0,1,2,3,4] _ ?_
  refine .step rfl rfl (.pure rfl rfl rfl hcf (by decide) (hp) (by first|rfl|simp[*]) ?_)
  rintro _ rfl
  refine .done ?_
  refine .cs ?_ ?_<;>intro c16
  ·try simp at c16
   refine .sr ?_
   refine .ret ?_
   refine⟨_,_,zz4,zz4,?_⟩
   rw[← hr,if_pos c16]
  try simp at c16
  refine .skip (.rn ?_)
  refine⟨i+1,⟨zz5,?_⟩,zz5,.pure (by simp[*]) (by simp)⟩
  rw[← hr,if_neg (by simp[c16])]
 try simp at c9
 have:i=l.length:=by omega
 refine .exit (.sr ?_)
 refine .ret ?_
 refine⟨_,_,zz4,zz4,?_⟩
 rw[← hr,this,List.drop_length];rfl
theorem p169 {α:Type}(l:List α)(enc:α→PV)(p:α→Bool)(f:FuncId)(xs ys:List PV)(hl:l.length<4294967296)(he:∀a,(enc a).cells=[enc a])(hx:PV.allF xs=true)(hy:PV.allF ys=true)(hF:∀a,(enc a).isF=true)(hcf:∀cs w,(callFunc f cs).run prog w=.ok (.enter f cs) w)(hp:∀a∈l,zat prog f (xs++[enc a]++ys) fun r=>r=.bool (p a)):zat prog 169 [.vec (l.map enc),.func f xs ys] fun r=>r=.bool (l.any p):=by
 refine .zah func169 rfl rfl ?_
 refine .sr ?_
 refine .seq ?_
 refine .zac [0,1,2,3,4] rfl zz0 ?_
 refine .rn [0,1] _ ?_
 refine .pc rfl rfl rfl rfl rfl call175 (p175 l enc p f xs ys hl he hx hy hF hcf hp) ?_
 refine .rn [3,4] [] ?_
 refine .done (.ret ?_)
 refine⟨_,_,zz4,zz4,?_⟩
 rw[← zlx _ l 0]
structure Wit where
  id:Int
  known:Int
  slips:List Int
  mended:List Int
  models:List Int
  lo:Int
  hi:Int
  deriving DecidableEq
def encW (w:Wit):PV:=.agg [.int .i64 w.id,.int .i64 w.known,ints w.slips,ints w.mended,ints w.models,.int .i64 w.lo,.int .i64 w.hi]
@[simp] theorem z5u (w:Wit):(encW w).cells=[.int .i64 w.id,.int .i64 w.known,ints w.slips,ints w.mended,ints w.models,.int .i64 w.lo,.int .i64 w.hi]:=rfl
@[simp] theorem xbv (w:Wit):(encW w).isF=true:=by simp[encW]
def encS (s:List Wit):PV:=.agg [.vec (s.map encW)]
@[simp] theorem z6e (s:List Wit):(encS s).cells=[.vec (s.map encW)]:=rfl
@[simp] theorem xbq (s:List Wit):(encS s).isF=true:=by simp[encS]
def insU (l:List Int)(n:Int):List Int:=if n∈l then l else l++[n]
def mp (ks:List Int):List (PV×PV):=ks.map fun n=>(.int .i64 n,.bool true)
theorem zpx (n:Int):∀ks:List Int,zh8 .i64 n (mp ks)=some (if n∈ks then some (.bool true) else none)
 |[]=>rfl
 |k::r=>by
  have ih:=zpx n r
  simp only[mp,List.map_cons,zh8] at ih ⊢
  rw[ih]
  by_cases h:k=n
  ·subst h;simp
  by_cases h2:n∈r<;>simp[h,h2,Ne.symm h]
theorem zmk (n:Int):∀ks:List Int,(mp ks).map (qput n (.bool true))=mp ks
 |[]=>rfl
 |k::r=>by
  have ih:=zmk n r
  simp only[mp,List.map_cons,qput] at ih ⊢
  rw[ih]
  cases decide (k=n)<;>rfl
theorem zqg (n:Int)(ks:List Int):zn8 .i64 n (.bool true) (mp ks)=some (mp (insU ks n)):=by
 unfold zn8 insU
 rw[zpx]
 by_cases h:n∈ks
 ·simp[h,zmk]
 simp[h,mp]
theorem zkr {α β:Type}(f:β→α→β)(l:List α)(i:Nat)(h:i<l.length)(a:β):(l.drop i).foldl f a=(l.drop (i+1)).foldl f (f a l[i]):=by
 rw[List.drop_eq_getElem_cons h];rfl
theorem zxt {α:Type}(l:List (List α))(i:Nat)(h:i<l.length):(l.drop i).flatten=l[i]++(l.drop (i+1)).flatten:=by
 rw[List.drop_eq_getElem_cons h];rfl
def setK (ls:List (List Int)):List Int:=ls.flatten.foldl insU []
theorem zp4 (l:List Int)(n m:Int):m∈insU l n↔m∈l∨m=n:=by
 unfold insU
 by_cases h:n∈l
 ·simp only[h,if_true]
  constructor
  ·exact .inl
  rintro (h1|rfl)<;>assumption
 simp[h]
theorem zi4 (m:Int):∀(l a:List Int),m∈l.foldl insU a↔m∈a∨m∈l
 |[],a=>by simp
 |n::r,a=>by
  simp only[List.foldl_cons,zi4 m r,zp4,List.mem_cons]
  constructor
  ·rintro ((h|h)|h)
   ·exact .inl h
   ·exact .inr (.inl h)
   exact .inr (.inr h)
  rintro (h|h|h)
  ·exact .inl (.inl h)
  ·exact .inl (.inr h)
  exact .inr h
theorem zly (m:Int)(ls:List (List Int)):m∈setK ls↔∃l∈ls,m∈l:=by
 unfold setK
 rw[zi4]
 simp
@[simp] theorem z5x (l:List (List Int)):zfu 1 (l.map ints)=true:=zf7 (f:=ints) (n:=1) (fun _=>rfl) l
@[simp] theorem z3l (l:List (List Int)):zdr (l.map ints)=true:=zfi (f:=ints) (fun _=>rfl) l
theorem p115 (ks:List Int)(n:Int):zat prog 115 [.vmap (mp ks),.int .i64 n] fun r=>r=.bool (decide (n∈ks)):=by
 have h1:=zpx n ks
 refine .zah func115 rfl rfl ?_
 by_cases h:n∈ks
 ·
  simp only[h,if_true] at h1
  refine .sr ?_
  refine .sr ?_
  refine .sr ?_
  refine .ret ?_
  refine⟨_,_,zz4,zz4,?_⟩
  simp[h]
 ·
  simp only[h,if_false] at h1
  refine .sr ?_
  refine .sr ?_
  refine .sr ?_
  refine .ret ?_
  refine⟨_,_,zz4,zz4,?_⟩
  simp[h]
theorem p116 (ls:List (List Int))(hl:ls.length<4294967296)(hll:∀l∈ls,l.length<4294967296):zat prog 116 [.vec (ls.map ints)] fun r=>r=.vmap (mp (setK ls)):=by
 refine .zah func116 rfl rfl ?_
 refine .sr ?_
 refine .sr ?_
 refine .seq (.sr ?_)
 refine .block ?_
 refine .zco (fun s:Nat×List Int=>([(3,.mapv 0),(9,.vec (ls.map ints)),(10,.int .i64 ls.length),(11,.int .i64 s.1)],⟨1,[(0,.map (mp s.2))]⟩)) (fun s=>s.1≤ls.length∧(ls.drop s.1).flatten.foldl insU s.2=setK ls) (fun s=>ls.length - s.1) (0,[]) ⟨by simp,by simp[setK]⟩ (.mk [] [] zz2 zz3 rfl rfl rfl) ?_
 rintro⟨i,ks⟩ ⟨hi,hr⟩
 simp only at hi hr ⊢
 refine .sr ?_
 refine .seq ?_
 refine .cs ?_ ?_<;>intro c12
 ·try simp at c12
  have hw2:=wr1 i
  rw[zxt ls i c12,List.foldl_append] at hr
  have hll:=hll ls[i] (List.getElem_mem c12)
  refine .skip (.seq (.block (.sr ?_)))
  refine .sr ?_
  refine .block ?_
  refine .zco (fun s:Nat×List Int=>([(3,.mapv 0),(9,.vec (ls.map ints)),(10,.int .i64 ls.length),(11,.int .i64 i),(15,ints ls[i]),(16,.int .i64 ls[i].length),(17,.int .i64 s.1)],⟨1,[(0,.map (mp s.2))]⟩)) (fun s=>s.1≤ls[i].length∧(ls[i].drop s.1).foldl insU s.2=ls[i].foldl insU ks) (fun s=>ls[i].length - s.1) (0,ks) ⟨by simp,by simp⟩ (.mk [] [] zz2 zz3 rfl rfl rfl) ?_
  rintro⟨j,ks2⟩ ⟨hj,hs⟩
  simp only at hj hs ⊢
  refine .sr ?_
  refine .seq ?_
  refine .cs ?_ ?_<;>intro c18
  ·try simp at c18
   have hw3:=wr1 j
   rw[zkr insU ls[i] j c18] at hs
   have hm:=zqg ls[i][j] ks2
   refine .skip (.seq (.block (.sr ?_)))
   refine .rn ?_
   refine .rn ?_
   refine⟨(j+1,insU ks2 ls[i][j]),⟨zz5,hs⟩,zz5,(.mk [] [] zz2 zz3 rfl rfl rfl)⟩
  try simp at c18
  have:j=ls[i].length:=by omega
  refine .exit (.rn ?_)
  refine⟨(i+1,ks2),⟨zz5,?_⟩,zz5,(.mk [] [] zz2 zz3 rfl rfl rfl)⟩
  rw[← hr,← hs,this,List.drop_length];rfl
 try simp at c12
 have:i=ls.length:=by omega
 refine .exit (.sr ?_)
 refine .ret ?_
 refine⟨_,_,zz4,zz4,?_⟩
 rw[← hr,this,List.drop_length];rfl
@[simp] theorem z2e (k:IntKind)(l:List Int):(l.map (PV.int k)).all PV.one=true:=by simp[PV.one]
def zfd (w:Wit):Bool:=zdn w.slips 0&&(zdn w.mended 0&&(zdn w.models (-1)&&(!(w.models.any fun a=>decide (w.id=a))&&!(w.slips.any fun n=>decide (n∈setK [w.mended])))))
theorem p114 (w:Wit)(h1:w.slips.length<4294967296)(h2:w.mended.length<4294967296)(h3:w.models.length<4294967296):zat prog 114 [encW w] fun r=>r=.bool (zfd w):=by
 refine .zah func114 rfl rfl ?_
 refine .sr ?_
 refine .seq ?_
 refine .zac [0,1,2,3,4] rfl zz0 ?_
 refine .rn [0,1,2] _ ?_
 refine .step rfl rfl (.take rfl rfl rfl call116 (by decide) zz4 (p116 [w.mended] (by simp) (by simpa using h2)) ?_)
 rintro _ rfl
 refine .rn [4] [] ?_
 refine .done (.seq ?_)
 refine .zac [0,1,2,3,4,5,6,7,8,9,10,11,12,13,14,15,16,17,18,19,20,21,22,23,24,25,26,27,28,29] rfl zz0 ?_
 refine .rn [0,1] _ ?_
 refine .pc rfl rfl rfl rfl rfl call168 (p168 w.slips 1 h1 (by omega) (by omega)) ?_
 refine .rn [3] _ ?_
 refine .split (t:=11) rfl (fun c11=>?_) (fun c11=>?_)
 ·rw[c11]
  try simp at c11
  refine .rn [4,5] _ ?_
  refine .pc rfl rfl rfl rfl rfl call168 (p168 w.mended 1 h2 (by omega) (by omega)) ?_
  refine .rn [7,8] _ ?_
  refine .split (t:=16) rfl (fun c16=>?_) (fun c16=>?_)
  ·rw[c16]
   try simp at c16
   refine .rn [9,10] _ ?_
   refine .pc rfl rfl rfl rfl rfl call168 (p168 w.models 0 h3 (by omega) (by omega)) ?_
   refine .rn [12,13] _ ?_
   refine .split (t:=21) rfl (fun c21=>?_) (fun c21=>?_)
   ·rw[c21]
    try simp at c21
    refine .rn [14,15,16,17] _ ?_
    refine .pc rfl rfl rfl rfl rfl call144 (p144 w.models w.id h3) ?_
    refine .rn [19,20,21] _ ?_
    refine .split (t:=29) rfl (fun c29=>?_) (fun c29=>?_)
    ·rw[c29]
     try simp at c29
     refine .rn [22,23,24,25] _ ?_
     refine .pc rfl rfl rfl rfl rfl call169 (p169 w.slips (PV.int .i64) (fun n=>decide (n∈setK [w.mended])) 115 [.vmap (mp (setK [w.mended]))] [] h1 (fun _=>rfl) rfl rfl (fun _=>rfl) call115 (fun n _=>p115 _ n)) ?_
     refine .rn [27,28,29] [] ?_
     refine .done (.ret ?_)
     refine⟨_,_,zz4,zz4,?_⟩
     first|(simp[zfd, *];done)|(simp[zfd, *];intro _;exact c29)|(simp[zfd, *];intro h;exact absurd rfl (h _ c29))
    rw[c29]
    try simp at c29
    refine .rn [22,23,24,25,26,27,28,29] [] ?_
    refine .done (.ret ?_)
    refine⟨_,_,zz4,zz4,?_⟩
    first|(simp[zfd, *];done)|(simp[zfd, *];intro _;exact c29)|(simp[zfd, *];intro h;exact absurd rfl (h _ c29))
   rw[c21]
   try simp at c21
   refine .rn [14,15,16,17,18,19,20,21,22,23,24,25,26,27,28,29] [] ?_
   refine .done (.ret ?_)
   refine⟨_,_,zz4,zz4,?_⟩
   first|(simp[zfd, *];done)|(simp[zfd, *];intro _;exact c29)|(simp[zfd, *];intro h;exact absurd rfl (h _ c29))
  rw[c16]
  try simp at c16
  refine .rn [9,10,11,12,13,14,15,16,17,18,19,20,21,22,23,24,25,26,27,28,29] [] ?_
  refine .done (.ret ?_)
  refine⟨_,_,zz4,zz4,?_⟩
  first|(simp[zfd, *];done)|(simp[zfd, *];intro _;exact c29)|(simp[zfd, *];intro h;exact absurd rfl (h _ c29))
 rw[c11]
 try simp at c11
 refine .rn [4,5,6,7,8,9,10,11,12,13,14,15,16,17,18,19,20,21,22,23,24,25,26,27,28,29] [] ?_
 refine .done (.ret ?_)
 refine⟨_,_,zz4,zz4,?_⟩
 first|(simp[zfd, *];done)|(simp[zfd, *];intro _;exact c29)|(simp[zfd, *];intro h;exact absurd rfl (h _ c29))
def witE (w:Wit):Int:=
 if ¬(1≤w.id∧w.id≤1099511627776) then 1 else if ¬(0≤w.known∧w.known≤730) then 1 else if w.lo<0 then 1 else if w.hi<w.lo then 1 else if 730<w.hi then 1 else
 if 30<w.slips.length then 2 else if 30<w.mended.length then 2 else if 24<w.models.length then 2 else if zfd w then 0 else 1
def zi1:List Wit→List Int→Int
 |[],_=>0
 |w::r,seen=>if witE w=0 then (if w.id∈seen then 6 else zi1 r (insU seen w.id)) else witE w
def zbh (s:List Wit):Int:=if 24<s.length then 2 else zi1 s []
theorem zsj (l:List Wit)(i:Nat)(h:i<l.length)(seen:List Int):zi1 (l.drop i) seen=if witE l[i]=0 then (if l[i].id∈seen then 6 else zi1 (l.drop (i+1)) (insU seen l[i].id)) else witE l[i]:=by
 rw[List.drop_eq_getElem_cons h];rfl
theorem p35 (s:List Wit)(hl:s.length<4294967296):zat prog 35 [encS s] fun r=>r=.int .i64 (zbh s):=by
 refine .zah func35 rfl rfl ?_
 refine .sr ?_
 refine .seq (.sr ?_)
 refine .cs ?_ ?_<;>intro c9
 ·try simp at c9
  refine .sr ?_
  refine .ret ?_
  refine⟨_,_,zz4,zz4,?_⟩
  simp[zbh];omega
 try simp at c9
 have hc:zi1 s []=zbh s:=by unfold zbh;rw[if_neg (by omega)]
 refine .skip (.sr ?_)
 refine .seq (.sr ?_)
 refine .block ?_
 refine .zco (fun st:Nat×List Int=>([(3,.mapv 1),(12,.vec (s.map encW)),(13,.int .i64 s.length),(14,.int .i64 st.1)],⟨2,[(1,.map (mp st.2))]⟩)) (fun st=>st.1≤s.length∧zi1 (s.drop st.1) st.2=zbh s) (fun st=>s.length - st.1) (0,[]) ⟨by simp,by simpa using hc⟩ (.mk [] [] zz2 zz3 rfl rfl rfl) ?_
 rintro⟨i,seen⟩ ⟨hi,hr⟩
 simp only at hi hr ⊢
 refine .sr ?_
 refine .seq ?_
 refine .cs ?_ ?_<;>intro c15
 ·try simp at c15
  have hw2:=wr1 i
  rw[zsj s i c15] at hr
  have hm:=zqg s[i].id seen
  refine .skip (.seq (.block (.sr ?_)))
  refine .seq (.seq ?_)
  refine .zac [0,1,2,3,4,5,6,7,8,9,10,11,12,13,14,15,16,17,18,19,20,21,22,23,24,25,26,27,28,29,30] rfl zz0 ?_
  refine .rn [0,1] _ ?_
  refine .pc rfl rfl rfl rfl rfl call113 (p113 s[i].id 1 1099511627776) ?_
  refine .rn [3,4] _ ?_
  refine .split (t:=22) rfl (fun c22=>?_) (fun c22=>?_)
  ·rw[c22]
   try simp at c22
   refine .rn [5,6,7,8,9,10,11,12,13,14,15,16,17,18,19,20,21,22,23,24,25,26,27,28,29,30] [] ?_
   refine .done (.zey rfl (.sr ?_))
   refine .ret ?_
   refine⟨_,_,zz4,zz4,?_⟩
   have h0:witE s[i]=1:=by unfold witE;(repeat' split)<;>first|rfl|omega|(simp_all;done)
   rw[← hr,if_neg (by rw[h0];decide),h0]
  rw[c22]
  try simp at c22
  refine .rn [5,6] _ ?_
  refine .pc rfl rfl rfl rfl rfl call113 (p113 s[i].known 0 730) ?_
  refine .rn [8,9,10] _ ?_
  refine .split (t:=28) rfl (fun c28=>?_) (fun c28=>?_)
  ·rw[c28]
   try simp at c28
   refine .rn [11,12,13,14,15,16,17,18,19,20,21,22,23,24,25,26,27,28,29,30] [] ?_
   refine .done (.zey rfl (.sr ?_))
   refine .ret ?_
   refine⟨_,_,zz4,zz4,?_⟩
   have h0:witE s[i]=1:=by unfold witE;(repeat' split)<;>first|rfl|omega|(simp_all;done)
   rw[← hr,if_neg (by rw[h0];decide),h0]
  rw[c28]
  try simp at c28
  refine .rn [11,12,13,14,15,16] _ ?_
  refine .split (t:=34) rfl (fun c34=>?_) (fun c34=>?_)
  ·rw[c34]
   try simp at c34
   refine .rn [17,18,19,20,21,22,23,24,25,26,27,28,29,30] [] ?_
   refine .done (.zey rfl (.sr ?_))
   refine .ret ?_
   refine⟨_,_,zz4,zz4,?_⟩
   have h0:witE s[i]=1:=by unfold witE;(repeat' split)<;>first|rfl|omega|(simp_all;done)
   rw[← hr,if_neg (by rw[h0];decide),h0]
  rw[c34]
  try simp at c34
  refine .rn [17,18,19,20,21,22,23,24,25] _ ?_
  refine .split (t:=43) rfl (fun c43=>?_) (fun c43=>?_)
  ·rw[c43]
   try simp at c43
   refine .rn [26,27,28,29,30] [] ?_
   refine .done (.zey rfl (.sr ?_))
   refine .ret ?_
   refine⟨_,_,zz4,zz4,?_⟩
   have h0:witE s[i]=1:=by unfold witE;(repeat' split)<;>first|rfl|omega|(simp_all;done)
   rw[← hr,if_neg (by rw[h0];decide),h0]
  rw[c43]
  try simp at c43
  refine .rn [26,27,28,29,30] [] ?_
  refine .done ?_
  refine .cs ?_ ?_<;>intro c48
  ·try simp at c48
   refine .sr ?_
   refine .ret ?_
   refine⟨_,_,zz4,zz4,?_⟩
   have h0:witE s[i]=1:=by unfold witE;(repeat' split)<;>first|rfl|omega|(simp_all;done)
   rw[← hr,if_neg (by rw[h0];decide),h0]
  try simp at c48
  refine .skip (.seq (.seq ?_))
  refine .zac [0,1,2,3,4,5,6,7,8,9,10,11,12,13,14,15] rfl zz0 ?_
  refine .rn [0,1,2,3,4] _ ?_
  refine .split (t:=53) rfl (fun c53=>?_) (fun c53=>?_)
  ·rw[c53]
   try simp at c53
   refine .rn [5,6,7,8,9,10,11,12,13,14,15] [] ?_
   refine .done (.zey rfl (.sr ?_))
   refine .ret ?_
   refine⟨_,_,zz4,zz4,?_⟩
   have h0:witE s[i]=2:=by unfold witE;(repeat' split)<;>first|rfl|omega|(simp_all;done)
   rw[← hr,if_neg (by rw[h0];decide),h0]
  rw[c53]
  try simp at c53
  refine .rn [5,6,7,8,9,10] _ ?_
  refine .split (t:=59) rfl (fun c59=>?_) (fun c59=>?_)
  ·rw[c59]
   try simp at c59
   refine .rn [11,12,13,14,15] [] ?_
   refine .done (.zey rfl (.sr ?_))
   refine .ret ?_
   refine⟨_,_,zz4,zz4,?_⟩
   have h0:witE s[i]=2:=by unfold witE;(repeat' split)<;>first|rfl|omega|(simp_all;done)
   rw[← hr,if_neg (by rw[h0];decide),h0]
  rw[c59]
  try simp at c59
  refine .rn [11,12,13,14,15] [] ?_
  refine .done ?_
  refine .cs ?_ ?_<;>intro c64
  ·try simp at c64
   refine .sr ?_
   refine .ret ?_
   refine⟨_,_,zz4,zz4,?_⟩
   have h0:witE s[i]=2:=by unfold witE;(repeat' split)<;>first|rfl|omega|(simp_all;done)
   rw[← hr,if_neg (by rw[h0];decide),h0]
  try simp at c64
  refine .skip (.seq (.seq ?_))
  refine .zac [0,1,2] rfl zz0 ?_
  refine .rn [0] _ ?_
  refine .pc rfl rfl rfl rfl rfl call114 (p114 s[i] (by omega) (by omega) (by omega)) ?_
  refine .rn [2] [] ?_
  refine .done ?_
  refine .cs ?_ ?_<;>intro c67
  ·try simp at c67
   refine .sr ?_
   refine .ret ?_
   refine⟨_,_,zz4,zz4,?_⟩
   have h0:witE s[i]=1:=by unfold witE;(repeat' split)<;>first|rfl|omega|(simp_all;done)
   rw[← hr,if_neg (by rw[h0];decide),h0]
  try simp at c67
  have h0:witE s[i]=0:=by unfold witE;(repeat' split)<;>first|rfl|omega|(simp_all;done)
  rw[if_pos h0] at hr
  refine .skip (.seq (.seq ?_))
  refine .zac [0,1,2,3] rfl zz0 ?_
  refine .rn [0,1,2] _ ?_
  refine .step rfl rfl (.borrow rfl rfl rfl call115 (by decide) zz4 (p115 seen s[i].id) (by rintro _ rfl<;>simp) ?_)
  rintro _ rfl
  refine .done ?_
  refine .cs ?_ ?_<;>intro c71
  ·try simp at c71
   refine .sr ?_
   refine .ret ?_
   refine⟨_,_,zz4,zz4,?_⟩
   rw[← hr,if_pos c71]
  try simp at c71
  refine .skip (.rn ?_)
  refine .rn ?_
  rw[if_neg c71] at hr
  refine⟨(i+1,insU seen s[i].id),⟨zz5,hr⟩,zz5,(.mk [] [] zz2 zz3 rfl rfl rfl)⟩
 try simp at c15
 have:i=s.length:=by omega
 refine .exit (.sr ?_)
 refine .ret ?_
 refine⟨_,_,zz4,zz4,?_⟩
 rw[← hr,this,List.drop_length];rfl
@[simp] theorem z5z (s:List Wit):zfu 7 (s.map encW)=true:=zf7 (f:=encW) (n:=7) (fun _=>rfl) s
@[simp] theorem z3b (s:List Wit):zdr (s.map encW)=true:=zfi (f:=encW) (fun _=>by simp[PV.one]) s
theorem zp9 {α β:Type}(f:α→β)(l:List α)(i:Nat)(h:i<l.length):(l.take (i+1)).map f=(l.take i).map f++[f l[i]]:=by
 rw[List.take_succ_eq_append_getElem h,List.map_append];rfl
theorem zlp {α:Type}(p:α→Bool)(l:List α)(i:Nat)(h:i<l.length):(l.take (i+1)).filter p=if p l[i] then (l.take i).filter p++[l[i]] else (l.take i).filter p:=by
 rw[List.take_succ_eq_append_getElem h,List.filter_append]
 by_cases hp:p l[i]<;>simp[hp]
theorem zlv {w:Wit}(h:witE w=0):w.slips.length≤30∧w.mended.length≤30∧w.models.length≤24:=by
 unfold witE at h
 repeat' split at h
 all_goals first|(simp at h;done)|omega
theorem zro:∀ {l:List Wit} {seen:List Int},zi1 l seen=0→∀w∈l,witE w=0
 |[],_,_,w,hw=>by cases hw
 |a::r,seen,h,w,hw=>by
  simp only[zi1] at h
  by_cases h0:witE a=0
  ·rw[if_pos h0] at h
   split at h
   ·simp at h
   rcases List.mem_cons.1 hw with rfl|hw
   ·exact h0
   exact zro h w hw
  rw[if_neg h0] at h;exact absurd h h0
theorem zch {s:List Wit}(h:zbh s=0):s.length≤24∧∀w∈s,witE w=0:=by
 unfold zbh at h
 split at h
 ·simp at h
 exact⟨by omega,zro h⟩
theorem zjf {s:List Wit}(h:zbh s=0):∀w∈s,w.slips.length<4294967296∧w.mended.length<4294967296∧w.models.length<4294967296:=fun w hw=>by
 have:=zlv ((zch h).2 w hw)
 omega
theorem zyl (m:Int)(l:List Int):m∈setK [l]↔m∈l:=by rw[zly];simp
end Go.Am.Ds
end
