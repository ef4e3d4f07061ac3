/-
 What is used in the proof of a statement (part DsD); no condition.
-/
import Derived.Test.YtnablaecbohhmaaGreatDsZ
import Derived.Test.YtnablaecbohhmaaGreatVm2
import Derived.Test.YtnablaecbohhmaaGreatDsT
import Derived.Test.YtnablaecbohhmaaGreatDsC
import Derived.Test.YtnablaecbohhmaaGreatDsS
set_option linter.all false
set_option maxHeartbeats 40000000
set_option maxRecDepth 100000
section
namespace Go.Am.Ds
open Go Go.Am Go.Proofs Tryz
attribute [local simp] vrun zaz zbg vop vopA zb2 zab.back hidI hidF zdh bm Nat.testBit_eq_decide_div_mod_eq za6 zbo zb4 vO zbc vlen zbs zbz zd2 zaq zak zcj vbox zbe zdu zby zdt zcm zau zcn zav zcl zbf zci zbr zbl vbnd zcz vidx zbp zdk zar zbt zct zdj zd9 zd6 vbin vsc vsc1 vscs vscl zbv aint zb3 zdl za8 zcx zd0 pvcV pvc pvcs tput tget zdd zab.get zab.alloc zab.put zab.drop zab.empty zce vput zdi zbb zca zda chunk List.range List.range.loop za0 zbu za1 frz frzL PV.isF PV.allF PV.scal PV.allS retP subT zds PV.one PV.ids PV.idsL zcc beq_eq zbw zbx
def zka (w:Wit):Bool:=decide (8<w.slips.length)||decide (30<w.mended.length)||decide (24<w.models.length)
def zli (s:List Wit):Bool:=!(s.any zka)&&decide (s.length≤12)
def xdx (s:List Wit)(c:Wit)(id:Int):Option Int:=match getW s id with
 |none=>if id=0∧z9g c 0=0 then some (c.slips.length:Int) else none
 |some p=>if (whyP c p).1=0 then some ((ariS c p).length:Int) else none
def desL (s:List Wit)(l:List Int):List (Option Int):=(s.zip l).map fun x=>xdx s x.1 x.2
def desP (s:List Wit)(l:List Int)(k:Nat):Int:=(((desL s l).take k).map (·.getD 0)).sum
def desR (s:List Wit)(l:List Int):Int×Bool:=if l.length=s.length∧(desL s l).all Option.isSome=true then (desP s l s.length,true) else (0,false)
theorem p21 (s:List Wit)(hl:s.length<4611686018427387904):zat prog 21 [encS s] fun r=>r=.bool (zli s):=by
 refine .zah func21 rfl rfl ?_
 refine .sr ?_
 refine .seq (.sr ?_)
 refine .block ?_
 refine .zco (fun i:Nat=>([(1,.ptr 0 0),(3,.int .i64 i)],⟨1,[(0,.box [.vec (s.map encW)])]⟩)) (fun i=>i≤s.length∧(s.take i).any zka=false) (fun i=>s.length - i) 0 (by simp) (.mk [] [] zz14 zz15 rfl rfl rfl) ?_
 rintro i ⟨hi,hr⟩
 simp only at hi hr ⊢
 refine .seq (.sr ?_)
 refine .cs ?_ ?_<;>intro c8
 ·try simp at c8
  have hw2:=wr1 i
  have hA:=zpa zka s i c8
  rw[hr] at hA
  refine .skip (.seq (.block (.seq ?_)))
  refine .zac [0,1,2,3,4,5,6,7,8,9,10,11,12,13,14,15,16,17,18,19,20,21,22,23,24,25,26,27] rfl zz0 ?_
  refine .rn [0,1,2,3,4,5,6,7,8] _ ?_
  refine .split (t:=19) rfl (fun c19=>?_) (fun c19=>?_)
  ·try rw[c19]
   try simp at c19
   refine .rn [9,10,11,12,13,14,15,16,17,18,19,20,21,22,23,24,25,26,27] [] ?_
   refine .done (.zey rfl (.sr ?_))
   refine .ret ?_
   refine⟨_,_,zz4,zz4,?_⟩
   have h:zka s[i]=true:=by unfold zka;simp;omega
   unfold zli;rw[ztd zka s i c8 h];rfl
  try rw[c19]
  try simp at c19
  refine .rn [9,10,11,12,13,14,15,16,17,18] _ ?_
  refine .split (t:=29) rfl (fun c29=>?_) (fun c29=>?_)
  ·try rw[c29]
   try simp at c29
   refine .rn [19,20,21,22,23,24,25,26,27] [] ?_
   refine .done (.zey rfl (.sr ?_))
   refine .ret ?_
   refine⟨_,_,zz4,zz4,?_⟩
   have h:zka s[i]=true:=by unfold zka;simp;omega
   unfold zli;rw[ztd zka s i c8 h];rfl
  try rw[c29]
  try simp at c29
  refine .rn [19,20,21,22,23,24,25,26,27] [] ?_
  refine .done ?_
  refine .cs ?_ ?_<;>intro c38
  ·try simp at c38
   refine .sr ?_
   refine .ret ?_
   refine⟨_,_,zz4,zz4,?_⟩
   have h:zka s[i]=true:=by unfold zka;simp;omega
   unfold zli;rw[ztd zka s i c8 h];rfl
  try simp at c38
  refine .skip (.rn ?_)
  have h:zka s[i]=false:=by unfold zka;simp;omega
  rw[h] at hA
  refine⟨i+1,⟨zz5,by simpa using hA⟩,zz5,(.mk [] [] zz14 zz15 rfl rfl rfl)⟩
 try simp at c8
 have hi2:i=s.length:=by omega
 subst hi2
 rw[List.take_length] at hr
 refine .exit (.sr ?_)
 refine .ret ?_
 refine⟨_,_,zz4,zz4,?_⟩
 unfold zli;rw[hr];simp;omega
end Go.Am.Ds
end
section
namespace Go.Am.Ds
open Go Go.Am Go.Proofs
attribute [local simp] vrun zaz zbg vop vopA zb2 zab.back hidI hidF zdh bm Nat.testBit_eq_decide_div_mod_eq za6 zbo zb4 vO zbc vlen zbs zbz zd2 zaq zak zcj vbox zbe zdu zby zdt zcm zau zcn zav zcl zbf zci zbr zbl vbnd zcz vidx zbp zdk zar zbt zct zdj zd9 zd6 vbin vsc vsc1 vscs vscl zbv aint zb3 zdl za8 zcx zd0 pvcV pvc pvcs tput tget zdd zab.get zab.alloc zab.put zab.drop zab.empty zce vput zdi zbb zca zda chunk List.range List.range.loop za0 zbu za1 frz frzL PV.isF PV.allF PV.scal PV.allS retP subT zds PV.one PV.ids PV.idsL zcc beq_eq zbw zbx
end Go.Am.Ds
end
/-
 Descent: the plain law of DescentOrphans.
-/
section
namespace Go.Am.Ds
open Go Go.Am Go.Proofs
theorem zjt:∀ {s:List Wit},(s.map Wit.id).Nodup→∀ {w:Wit},w∈s→getW s w.id=some w
 |a::r,hn,w,hw=>by
  rw[List.map_cons,List.nodup_cons] at hn
  unfold getW
  rw[List.find?_cons]
  rcases List.mem_cons.1 hw with rfl|hw
  ·simp
  have:a.id≠w.id:=fun h=>hn.1 (h▸List.mem_map_of_mem hw)
  rw[show decide (a.id=w.id)=false from decide_eq_false this]
  exact zjt hn.2 hw
end Go.Am.Ds
end
section
namespace Go.Am.Ds
open Go Go.Am Go.Proofs
attribute [local simp] vrun zaz zbg vop vopA zb2 zab.back hidI hidF zdh bm Nat.testBit_eq_decide_div_mod_eq za6 zbo zb4 vO zbc vlen zbs zbz zd2 zaq zak zcj vbox zbe zdu zby zdt zcm zau zcn zav zcl zbf zci zbr zbl vbnd zcz vidx zbp zdk zar zbt zct zdj zd9 zd6 vbin vsc vsc1 vscs vscl zbv aint zb3 zdl za8 zcx zd0 pvcV pvc pvcs tput tget zdd zab.get zab.alloc zab.put zab.drop zab.empty zce vput zdi zbb zca zda chunk List.range List.range.loop za0 zbu za1 frz frzL PV.isF PV.allF PV.scal PV.allS retP subT zds PV.one PV.ids PV.idsL zcc beq_eq zbw zbx
theorem zvy {s:List Wit}(h:zli s=true):s.length≤12:=by
 unfold zli at h
 simp only[xfr,decide_eq_true_eq] at h
 exact h.2
def encK (x:Int×Int):PV:=.agg [.int .i64 x.1,.int .i64 x.2]
@[simp] theorem z6i (l:List (Int×Int)):zfu 2 (l.map encK)=true:=zf7 (f:=encK) (n:=2) (fun _=>rfl) l
@[simp] theorem z5h (l:List (Int×Int)):zdr (l.map encK)=true:=zfi (f:=encK) (fun _=>rfl) l
end Go.Am.Ds
end
section
namespace Go.Am.Ds
open Go Go.Am Go.Proofs
attribute [local simp] vrun zaz zbg vop vopA zb2 zab.back hidI hidF zdh bm Nat.testBit_eq_decide_div_mod_eq za6 zbo zb4 vO zbc vlen zbs zbz zd2 zaq zak zcj vbox zbe zdu zby zdt zcm zau zcn zav zcl zbf zci zbr zbl vbnd zcz vidx zbp zdk zar zbt zct zdj zd9 zd6 vbin vsc vsc1 vscs vscl zbv aint zb3 zdl za8 zcx zd0 pvcV pvc pvcs tput tget zdd zab.get zab.alloc zab.put zab.drop zab.empty zce vput zdi zbb zca zda chunk List.range List.range.loop za0 zbu za1 frz frzL PV.isF PV.allF PV.scal PV.allS retP subT zds PV.one PV.ids PV.idsL zcc beq_eq zbw zbx
end Go.Am.Ds
end
/-
 Descent: the plain law of DescentChoices (under way).
-/
section
namespace Go.Am.Ds
open Go Go.Am Go.Proofs
end Go.Am.Ds
end
/-
 Descent: the plain law of DescentBests: the program's best parents are the reference's.
-/
section
namespace Go.Am.Ds
open Go Go.Am Go.Proofs
end Go.Am.Ds
end
/-
 Descent: the copies from which a copy descends, in plain Lean.
-/
section
namespace Go.Am.Ds
open Go Go.Am Go.Proofs
end Go.Am.Ds
end
section
namespace Go.Am.Ds
open Go Go.Am Go.Proofs
attribute [local simp] vrun zaz zbg vop vopA zb2 zab.back hidI hidF zdh bm Nat.testBit_eq_decide_div_mod_eq za6 zbo zb4 vO zbc vlen zbs zbz zd2 zaq zak zcj vbox zbe zdu zby zdt zcm zau zcn zav zcl zbf zci zbr zbl vbnd zcz vidx zbp zdk zar zbt zct zdj zd9 zd6 vbin vsc vsc1 vscs vscl zbv aint zb3 zdl za8 zcx zd0 pvcV pvc pvcs tput tget zdd zab.get zab.alloc zab.put zab.drop zab.empty zce vput zdi zbb zca zda chunk List.range List.range.loop za0 zbu za1 frz frzL PV.isF PV.allF PV.scal PV.allS retP subT zds PV.one PV.ids PV.idsL zcc beq_eq zbw zbx
end Go.Am.Ds
end
/-
 Descent: what Can, Why, Models, Made and the choices say of a kin of two copies, in plain Lean.
-/
section
namespace Go.Am.Ds
open Go Go.Am Go.Proofs
end Go.Am.Ds
end
/-
 Descent: the plain law of DescentRests.
-/
section
namespace Go.Am.Ds
open Go Go.Am Go.Proofs
end Go.Am.Ds
end
section
namespace Go.Am.Ds
open Go Go.Am Go.Proofs Tryz
attribute [local simp] vrun zaz zbg vop vopA zb2 zab.back hidI hidF zdh bm Nat.testBit_eq_decide_div_mod_eq za6 zbo zb4 vO zbc vlen zbs zbz zd2 zaq zak zcj vbox zbe zdu zby zdt zcm zau zcn zav zcl zbf zci zbr zbl vbnd zcz vidx zbp zdk zar zbt zct zdj zd9 zd6 vbin vsc vsc1 vscs vscl zbv aint zb3 zdl za8 zcx zd0 pvcV pvc pvcs tput tget zdd zab.get zab.alloc zab.put zab.drop zab.empty zce vput zdi zbb zca zda chunk List.range List.range.loop za0 zbu za1 frz frzL PV.isF PV.allF PV.scal PV.allS retP subT zds PV.one PV.ids PV.idsL zcc beq_eq zbw zbx
attribute [local simp] zW tup2
theorem zkg {n:Int}(h1:0≤n)(h2:n<9223372036854775808):IntKind.u64.wrap n=n:=by
 simp[IntKind.wrap,IntKind.bits,IntKind.signed];omega
theorem p217 (n:Int):zat prog 217 [.int .i64 n] fun r=>r=.bool false:=by
 refine .zah func217 rfl rfl ?_
 refine .sr ?_
 refine .sr ?_
 refine .ret ?_
 refine⟨_,_,zz4,zz4,?_⟩
 first|rfl|(simp[*];done)|(simp_all;done)
theorem p198 (a b:Int):zat prog 198 [.int .i64 a,.int .i64 b] fun r=>r=.bool (decide (a<b)):=by
 refine .zah func198 rfl rfl ?_
 refine .sr ?_
 refine .seq ?_
 refine .zac [0,1,2,3,4,5,6,7,8,9,10,11,12] rfl zz0 ?_
 refine .rn [0] _ ?_
 refine .pc rfl rfl rfl rfl rfl call217 (p217 _) ?_
 refine .rn [2] _ ?_
 refine .split (t:=7) rfl (fun c7=>?_) (fun c7=>?_)
 ·try rw[c7]
  try simp at c7
 try rw[c7]
 try simp at c7
 refine .rn [3,4,5,6,7,8,9,10,11,12] [] ?_
 refine .done (.ret ?_)
 refine⟨_,_,zz4,zz4,?_⟩
 first|rfl|(simp[*];done)|(simp_all;done)
theorem p161 (l:List Int)(t:Int)(p:Nat)(hp:p<l.length)(ht:l[p]=t)(hs:l.Pairwise (·<·))(hl:l.length<4294967296):zat prog 161 [ints l,.int .i64 t] fun r=>r=.tup [.int .i64 p,.bool true]:=by
 have hlt:∀h:Nat,∀hh:h<l.length,(l[h]<t↔h<p):=fun h hh=>by
  rw[List.pairwise_iff_getElem] at hs
  rcases Nat.lt_trichotomy h p with h1|h1|h1
  ·have:=hs h p hh hp h1;exact⟨fun _=>h1,fun _=>by omega⟩
  ·subst h1;omega
  have:=hs p h hp hh h1;omega
 refine .zah func161 rfl rfl ?_
 refine .sr ?_
 refine .sr ?_
 refine .sr ?_
 refine .seq (.block ?_)
 refine .zco (fun st:Nat×Nat=>([(0,ints l),(1,.int .i64 t),(6,.int .i64 l.length),(7,.int .i64 st.1),(8,.int .i64 st.2)],zab.empty)) (fun st=>st.1≤p∧p≤st.2∧st.2≤l.length) (fun st=>st.2 - st.1) (0,l.length) ⟨by simp,by simp;omega,by simp⟩ (.mk [] [] zz14 zz15 rfl rfl rfl) ?_
 rintro⟨i,j⟩ ⟨h1,h2,h3⟩
 simp only at h1 h2 h3 ⊢
 refine .seq (.sr ?_)
 refine .cs ?_ ?_<;>intro c15
 ·try simp at c15
  have hij:i<j:=by omega
  have hw1:IntKind.i64.wrap ((i:Int)+(j:Int))=(i:Int)+(j:Int):=wrap64 (by omega) (by omega)
  have hw2:IntKind.u64.wrap ((i:Int)+(j:Int))=(i:Int)+(j:Int):=zkg (by omega) (by omega)
  have hbits:IntKind.u64.bits=64:=rfl
  obtain⟨m,hm,hm1,hm2⟩:∃m:Nat,((i:Int)+(j:Int)).fdiv 2=(m:Int)∧i≤m∧m<j:=⟨(i+j) / 2,by rw[Int.fdiv_eq_ediv_of_nonneg _ (by omega)];omega,by omega,by omega⟩
  have hh:m<l.length:=by omega
  have hw3:IntKind.i64.wrap (m:Int)=(m:Int):=wrap64 (by omega) (by omega)
  have hw4:=wr1 m
  have hcmp:=hlt m hh
  refine .skip (.block (.sr ?_))
  refine .seq ?_
  refine .zac [0,1,2,3,4,5] rfl zz0 ?_
  refine .rn [0,1,2,3,4] _ ?_
  refine .pc rfl rfl rfl rfl rfl call198 (p198 _ _) ?_
  refine .done ?_
  refine .cs ?_ ?_<;>intro c27
  ·try simp at c27
   refine .rn ?_
   refine⟨(m+1,j),⟨by simp only;omega,h2,h3⟩,by simp only;omega,(.mk [] [] zz14 zz15 rfl rfl rfl)⟩
  try simp at c27
  refine .rn ?_
  refine⟨(i,m),⟨h1,by simp only;omega,by simp only;omega⟩,by simp only;omega,(.mk [] [] zz14 zz15 rfl rfl rfl)⟩
 try simp at c15
 have hip:i=p:=by omega
 subst hip
 refine .exit (.seq ?_)
 refine .zac [0,1,2,3,4,5,6,7,8,9,10,11,12,13,14,15,16,17,18,19,20,21,22,23,24] rfl zz0 ?_
 refine .rn [0,1,2,3,4] _ ?_
 refine .split (t:=35) rfl (fun c35=>?_) (fun c35=>?_)
 ·try rw[c35]
  try simp at c35
  refine .rn [5,6,7,8,9,10,11] _ ?_
  refine .split (t:=42) rfl (fun c42=>?_) (fun c42=>?_)
  ·try rw[c42]
   try simp at c42
   refine .rn [12,13,14,15,16,17,18,19,20,21,22,23,24] [] ?_
   refine .done (.ret ?_)
   refine⟨_,_,zz4,zz4,?_⟩
   first|rfl|(simp[*];done)|(simp_all;done)
  try rw[c42]
  try simp at c42
 try rw[c35]
 try simp at c35
end Go.Am.Ds
end
section
namespace Go.Am.Ds
open Go Go.Am Go.Proofs Tryz
attribute [local simp] vrun zaz zbg vop vopA zb2 zab.back hidI hidF zdh bm Nat.testBit_eq_decide_div_mod_eq za6 zbo zb4 vO zbc vlen zbs zbz zd2 zaq zak zcj vbox zbe zdu zby zdt zcm zau zcn zav zcl zbf zci zbr zbl vbnd zcz vidx zbp zdk zar zbt zct zdj zd9 zd6 vbin vsc vsc1 vscs vscl zbv aint zb3 zdl za8 zcx zd0 pvcV pvc pvcs tput tget zdd zab.get zab.alloc zab.put zab.drop zab.empty zce vput zdi zbb zca zda chunk List.range List.range.loop za0 zbu za1 frz frzL PV.isF PV.allF PV.scal PV.allS retP subT zds PV.one PV.ids PV.idsL zcc beq_eq zbw zbx
attribute [local simp] zW tup2
def kvM (l:List (Int×Int)):List (Int×PV):=l.map fun x=>(x.1,.int .u32 x.2)
def getM (l:List (Int×Int))(n:Int):Option Int:=(l.find? fun x=>decide (x.1=n)).map (·.2)
def setM (l:List (Int×Int))(n v:Int):List (Int×Int):=match getM l n with
 |some _=>l.map fun x=>if x.1=n then (x.1,v) else x
 |none=>l++[(n,v)]
theorem zg5 (n:Int):∀l:List (Int×Int),zh8 .i64 n (kvs (kvM l))=some ((getM l n).map (PV.int .u32))
 |[]=>rfl
 |x::r=>by
  have ih:=zg5 n r
  unfold getM kvM kvs at ih ⊢
  simp only[List.map_cons,zh8,decide_true,xfp]
  rw[ih,List.find?_cons]
  cases h:decide (x.1=n)<;>simp
theorem zlk (n v:Int):∀l:List (Int×Int),(kvs (kvM l)).map (qput n (.int .u32 v))=kvs (kvM (l.map fun x=>if x.1=n then (x.1,v) else x))
 |[]=>rfl
 |x::r=>by
  have ih:=zlk n v r
  unfold kvM kvs at ih ⊢
  simp only[List.map_cons,qput] at ih ⊢
  rw[ih]
  by_cases h:x.1=n<;>simp[h]
theorem zy5 (n v:Int)(l:List (Int×Int)):zn8 .i64 n (.int .u32 v) (kvs (kvM l))=some (kvs (kvM (setM l n v))):=by
 unfold zn8 setM
 rw[zg5]
 cases h:getM l n with
 |none=>simp[kvs,kvM]
 |some y=>simp[zlk]
theorem getM_none {l:List (Int×Int)}{n:Int}(h:getM l n=none):n∉l.map (·.1):=by
 unfold getM at h
 rw[Option.map_eq_none_iff,List.find?_eq_none] at h
 intro h1
 obtain⟨x,hx,rfl⟩:=List.mem_map.1 h1
 exact h x hx (by simp)
theorem zru (l:List (Int×Int))(n v:Int):(setM l n v).map (·.1)=if (getM l n).isSome=true then l.map (·.1) else l.map (·.1)++[n]:=by
 unfold setM
 cases h:getM l n with
 |none=>simp
 |some y=>
  simp only[Option.isSome_some,if_true,List.map_map]
  apply List.map_congr_left
  intro x _
  simp only[Function.comp]
  split<;>rfl
theorem zvo {l:List (Int×Int)}(h:(l.map (·.1)).Nodup)(n v:Int):((setM l n v).map (·.1)).Nodup:=by
 rw[zru]
 cases h1:getM l n with
 |some y=>simpa using h
 |none=>
  simp only[Option.isSome_none,Bool.false_eq_true,if_false]
  exact List.nodup_append.2 ⟨h,by simp,fun a ha b hb hab=>by rw[List.mem_singleton] at hb;subst hab;subst hb;exact getM_none h1 ha⟩
theorem zo4 {l:List (Int×Int)}{n:Int}:(getM l n).isSome=true↔n∈l.map (·.1):=by
 unfold getM
 rw[Option.isSome_map,List.find?_isSome]
 simp
theorem zzt {l:List (Int×Int)}{n v m:Int}:m∈(setM l n v).map (·.1)↔m∈l.map (·.1)∨m=n:=by
 rw[zru]
 split
 ·rename_i h
  rw[zo4] at h
  exact⟨.inl,fun h2=>h2.elim id fun h3=>h3▸h⟩
 simp
def posI (s:List Wit)(id:Int):Nat:=(idsS s).idxOf id
def orV (a b:Int):Int:=IntKind.u32.wrap ((BitVec.ofInt 32 a ||| BitVec.ofInt 32 b).toNat:Int)
def bitV (k:Nat):Int:=IntKind.u32.wrap (2 ^ min k 32)
def orU (a:Int)(k:Nat):Int:=orV a (bitV k)
@[local simp ↓ high] theorem z8m (a b:Int):aint .or .u32 a b=some (.int .u32 (orV a b)):=rfl
@[local simp ↓ high] theorem ashl32 (k:Nat):zb3 .shl .u32 1 (k:Int)=some (.int .u32 (bitV k)):=by
 unfold zb3 bitV
 have h:¬((k:Int)<0):=by omega
 rw[decide_eq_false h,xfq,Int.toNat_natCast,Int.one_mul];rfl
def putM (k:Nat)(es:List (Int×Int))(n:Int):List (Int×Int):=setM es n (orU ((getM es n).getD 0) k)
def zra (s:List Wit)(es:List (Int×Int))(w:Wit):List (Int×Int):=w.slips.foldl (putM (posI s w.id)) es
def zeh (s:List Wit):List (Int×Int):=s.foldl (zra s) []
theorem zi5 {s:List Wit}{w:Wit}(hw:w∈s):∃h:posI s w.id<(idsS s).length,(idsS s)[posI s w.id]=w.id:=by
 have h1:posI s w.id<(idsS s).length:=List.idxOf_lt_length_iff.2 (zpk.2 ⟨w,hw,rfl⟩)
 exact⟨h1,List.getElem_idxOf h1⟩
theorem p94 (s:List Wit)(h:zbh s=0):zat prog 94 [encS s] fun r=>r=.vmap (kvs (kvM (zeh s))):=by
 have hl24:=(zch h).1
 have hidl:=zhh s
 have hso:=znq (zdf h)
 refine .zah func94 rfl rfl ?_
 refine .sr ?_
 refine .seq ?_
 refine .zac [0,1,2,3,4] rfl zz0 ?_
 refine .rn [0,1] _ ?_
 refine .pc rfl rfl rfl rfl rfl call99 (p99' s (by omega)) ?_
 refine .rn [3,4] [] ?_
 refine .done (.seq (.sr ?_))
 refine .block ?_
 refine .zco (fun st:Nat×List (Int×Int)=>([(3,.mapv 1),(4,ints (idsS s)),(15,.vec (s.map encW)),(16,.int .i64 s.length),(17,.int .i64 st.1)],⟨2,[(1,.map (kvs (kvM st.2))),(0,.box [.vec (s.map encW)])]⟩)) (fun st=>st.1≤s.length∧(s.drop st.1).foldl (zra s) st.2=zeh s) (fun st=>s.length - st.1) (0,[]) ⟨by simp,by simp[zeh]⟩ (.mk [] [] zz14 zz15 rfl rfl rfl) ?_
 rintro⟨i,es⟩ ⟨hi,hr⟩
 simp only at hi hr ⊢
 refine .sr ?_
 refine .seq ?_
 refine .cs ?_ ?_<;>intro c18
 ·try simp at c18
  have hw2:=wr1 i
  have hE:encW s[i]=.agg [.int .i64 s[i].id,.int .i64 s[i].known,ints s[i].slips,ints s[i].mended,ints s[i].models,.int .i64 s[i].lo,.int .i64 s[i].hi]:=rfl
  rw[zkr (zra s) s i c18] at hr
  obtain⟨hp1,hp2⟩:=zi5 (List.getElem_mem c18)
  have hsl:=((zjf h) s[i] (List.getElem_mem c18)).1
  obtain⟨p,hp⟩:∃p,posI s s[i].id=p:=⟨_,rfl⟩
  have hp24:p<24:=by omega
  refine .skip (.seq (.block (.sr ?_)))
  refine .seq ?_
  refine .zac [0,1,2,3,4,5,6,7,8] rfl zz0 ?_
  refine .rn [0,1,2] _ ?_
  refine .pc rfl rfl rfl rfl rfl call161 ((by have h:=p161 (idsS s) s[i].id (posI s s[i].id) hp1 hp2 hso (by omega);rw[hp] at h;exact h)) ?_
  refine .rn [4,5,6,7,8] [] ?_
  refine .done (.sr ?_)
  refine .block ?_
  refine .zco (fun st:Nat×List (Int×Int)=>([(3,.mapv 1),(4,ints (idsS s)),(7,.int .i64 p),(15,.vec (s.map encW)),(16,.int .i64 s.length),(17,.int .i64 i),(29,ints s[i].slips),(30,.int .i64 s[i].slips.length),(31,.int .i64 st.1)],⟨2,[(1,.map (kvs (kvM st.2))),(0,.box [.vec (s.map encW)])]⟩)) (fun st=>st.1≤s[i].slips.length∧(s[i].slips.drop st.1).foldl (putM p) st.2=s[i].slips.foldl (putM p) es) (fun st=>s[i].slips.length - st.1) (0,es) ⟨by simp,by simp⟩ (.mk [] [] zz14 zz15 rfl rfl rfl) ?_
  rintro⟨j,es2⟩ ⟨hj,hs⟩
  simp only at hj hs ⊢
  refine .sr ?_
  refine .seq ?_
  refine .cs ?_ ?_<;>intro c32
  ·try simp at c32
   have hw3:=wr1 j
   rw[zkr (putM p) s[i].slips j c32] at hs
   have hpf:=zg5 s[i].slips[j] es2
   have hpm:=fun v=>zy5 s[i].slips[j] v es2
   rcases hgm:getM es2 s[i].slips[j] with _|v0<;>rw[hgm] at hpf<;>simp only[Option.map] at hpf
   ·skip
    refine .skip (.seq (.block (.sr ?_)))
    refine .drawn (ms:=[0,0,3,0,8,31,63]) (W:=[6]) (items:=[.op 0,.op 1,.op 2,.op 3,.op 4,.op 5,.op 6]) rfl zz0 zz0 zz0 ?_
    iterate 6 refine .rx ?_
    refine .wv ?_
    refine .done (.rn ?_)
    have hpu:putM p es2 s[i].slips[j]=setM es2 s[i].slips[j] (orV 0 (bitV p)):=by unfold putM;rw[hgm];rfl
    refine⟨(j+1,putM p es2 s[i].slips[j]),⟨zz5,hs⟩,zz5,(.mk [] [] zz14 zz15 rfl rfl rfl)⟩
   skip
   refine .skip (.seq (.block (.sr ?_)))
   refine .drawn (ms:=[0,0,3,0,8,31,63]) (W:=[6]) (items:=[.op 0,.op 1,.op 2,.op 3,.op 4,.op 5,.op 6]) rfl zz0 zz0 zz0 ?_
   iterate 6 refine .rx ?_
   refine .wv ?_
   refine .done (.rn ?_)
   have hpu:putM p es2 s[i].slips[j]=setM es2 s[i].slips[j] (orV v0 (bitV p)):=by unfold putM;rw[hgm];rfl
   refine⟨(j+1,putM p es2 s[i].slips[j]),⟨zz5,hs⟩,zz5,(.mk [] [] zz14 zz15 rfl rfl rfl)⟩
  try simp at c32
  have hj2:j=s[i].slips.length:=by omega
  refine .exit (.rn ?_)
  refine⟨(i+1,es2),⟨zz5,?_⟩,zz5,(.mk [] [] zz14 zz15 rfl rfl rfl)⟩
  rw[← hr,zra,hp,← hs,hj2,List.drop_length];rfl
 try simp at c18
 have hi2:i=s.length:=by omega
 refine .exit (.sr ?_)
 refine .ret ?_
 refine⟨_,_,zz4,zz4,?_⟩
 rw[← hr,hi2,List.drop_length];rfl
end Go.Am.Ds
end
/-
 Descent: the slips of a stock, and that at least as many arise as there are.
-/
section
namespace Go.Am.Ds
open Go Go.Am Go.Proofs
theorem zqx:∀ {l m:List Int},l.Nodup→(∀x∈l,x∈m)→l.length≤m.length
 |[],_,_,_=>Nat.zero_le _
 |a::r,m,hn,h=>by
  rw[List.nodup_cons] at hn
  have ha:=h a List.mem_cons_self
  have ih:=zqx (l:=r) (m:=m.erase a) hn.2 fun x hx=>(List.mem_erase_of_ne (by rintro rfl;exact hn.1 hx)).2 (h x (List.mem_cons_of_mem _ hx))
  rw[List.length_erase_of_mem ha] at ih
  have:=List.length_pos_iff.2 (List.ne_nil_of_mem ha)
  rw[List.length_cons];omega
theorem zrq (k:Nat):∀(l:List Int) (es:List (Int×Int)) (n:Int),n∈(l.foldl (putM k) es).map (·.1)↔n∈es.map (·.1)∨n∈l
 |[],es,n=>by simp
 |a::r,es,n=>by
  rw[List.foldl_cons,zrq k r,putM,zzt,List.mem_cons]
  constructor
  ·rintro ((h|h)|h)
   ·exact .inl h
   ·exact .inr (.inl h)
   exact .inr (.inr h)
  rintro (h|h|h)
  ·exact .inl (.inl h)
  ·exact .inl (.inr h)
  exact .inr h
theorem zl8 (k:Nat):∀(l:List Int) (es:List (Int×Int)),(es.map (·.1)).Nodup→((l.foldl (putM k) es).map (·.1)).Nodup
 |[],_,h=>h
 |a::r,es,h=>by rw[List.foldl_cons];exact zl8 k r _ (zvo h _ _)
theorem zg0 {s:List Wit}{n:Int}:n∈(zeh s).map (·.1)↔∃w∈s,n∈w.slips:=by
 have:∀(l:List Wit) (es:List (Int×Int)),n∈(l.foldl (zra s) es).map (·.1)↔n∈es.map (·.1)∨∃w∈l,n∈w.slips:=by
  intro l
  induction l with
  |nil=>intro es;simp
  |cons a r ih=>
   intro es
   rw[List.foldl_cons,ih,zra,zrq]
   constructor
   ·rintro ((h|h)|⟨w,h1,h2⟩)
    ·exact .inl h
    ·exact .inr ⟨a,List.mem_cons_self,h⟩
    exact .inr ⟨w,List.mem_cons_of_mem _ h1,h2⟩
   rintro (h|⟨w,h1,h2⟩)
   ·exact .inl (.inl h)
   rcases List.mem_cons.1 h1 with rfl|h1
   ·exact .inl (.inr h2)
   exact .inr ⟨w,h1,h2⟩
 unfold zeh
 rw[this];simp
theorem zjc (s:List Wit):((zeh s).map (·.1)).Nodup:=by
 have:∀(l:List Wit) (es:List (Int×Int)),(es.map (·.1)).Nodup→((l.foldl (zra s) es).map (·.1)).Nodup:=by
  intro l
  induction l with
  |nil=>intro es h;exact h
  |cons a r ih=>intro es h;exact ih _ (zl8 _ _ _ h)
 exact this s [] (by simp)
theorem zyg {s:List Wit}(h:zbh s=0):(zeh s).length≤24*30:=by
 obtain⟨h1,h2⟩:=zch h
 have e1:((zeh s).map (·.1)).length≤(s.flatMap Wit.slips).length:=zqx (zjc s) fun x hx=>by
  obtain⟨w,hw,hx⟩:=zg0.1 hx
  exact List.mem_flatMap.2 ⟨w,hw,hx⟩
 have e2:∀l:List Wit,(∀w∈l,w.slips.length≤30)→(l.flatMap Wit.slips).length≤l.length*30:=by
  intro l
  induction l with
  |nil=>intro _;simp
  |cons a r ih=>
   intro h3
   have:=ih fun w hw=>h3 w (List.mem_cons_of_mem _ hw)
   have:=h3 a List.mem_cons_self
   rw[List.flatMap_cons,List.length_append,List.length_cons];omega
 have e3:=e2 s fun w hw=>(zlv (h2 w hw)).1
 have e4:s.length*30≤24*30:=Nat.mul_le_mul_right 30 h1
 rw[List.length_map] at e1;omega
def zfq (s:List Wit):List Int:=((zeh s).map (·.1)).mergeSort fun x y=>decide (x≤y)
theorem zvg (s:List Wit):(zfq s).length=(zeh s).length:=by simp[zfq]
theorem zet {s:List Wit}{n:Int}:n∈zfq s↔∃w∈s,n∈w.slips:=by
 unfold zfq;rw[List.mem_mergeSort,zg0]
theorem zqe (l:List (Int×Int)):(kvM l).map (·.1)=l.map (·.1):=by unfold kvM;rw[List.map_map];rfl
end Go.Am.Ds
end
