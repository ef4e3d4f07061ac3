/-
 What is used in the proof of a statement (part DsC); no condition.
-/
import Derived.Test.YtnablaecbohhmaaGreatDsZ
import Derived.Test.YtnablaecbohhmaaGreatVm2
import Derived.Test.YtnablaecbohhmaaGreatDsT
import Derived.Test.YtnablaecbohhmaaGreatDsB
set_option linter.all false
set_option maxHeartbeats 40000000
set_option maxRecDepth 100000
section
namespace Go.Am.Ds
open Go Go.Am Go.Proofs
attribute [local simp] vrun zaz zbg vop vopA zb2 zab.back hidI hidF zdh bm Nat.testBit_eq_decide_div_mod_eq za6 zbo zb4 vO zbc vlen zbs zbz zd2 zaq zak zcj vbox zbe zdu zby zdt zcm zau zcn zav zcl zbf zci zbr zbl vbnd zcz vidx zbp zdk zar zbt zct zdj zd9 zd6 vbin vsc vsc1 vscs vscl zbv aint zb3 zdl za8 zcx zd0 pvcV pvc pvcs tput tget zdd zab.get zab.alloc zab.put zab.drop zab.empty zce vput zdi zbb zca zda chunk List.range List.range.loop za0 zbu za1 frz frzL PV.isF PV.allF PV.scal PV.allS retP subT zds PV.one PV.ids PV.idsL zcc beq_eq zbw zbx
attribute [local simp] zW tup2
def encC (x:List Int×Int):PV:=.agg [ints x.1,.int .i64 x.2]
@[simp] theorem z5t (l:List (List Int×Int)):zfu 2 (l.map encC)=true:=zf7 (f:=encC) (n:=2) (fun _=>rfl) l
@[simp] theorem z4e (l:List (List Int×Int)):zdr (l.map encC)=true:=zfi (f:=encC) (fun _=>rfl) l
end Go.Am.Ds
end
section
namespace Go.Am.Ds
open Go Go.Am Go.Proofs
attribute [local simp] vrun zaz zbg vop vopA zb2 zab.back hidI hidF zdh bm Nat.testBit_eq_decide_div_mod_eq za6 zbo zb4 vO zbc vlen zbs zbz zd2 zaq zak zcj vbox zbe zdu zby zdt zcm zau zcn zav zcl zbf zci zbr zbl vbnd zcz vidx zbp zdk zar zbt zct zdj zd9 zd6 vbin vsc vsc1 vscs vscl zbv aint zb3 zdl za8 zcx zd0 pvcV pvc pvcs tput tget zdd zab.get zab.alloc zab.put zab.drop zab.empty zce vput zdi zbb zca zda chunk List.range List.range.loop za0 zbu za1 frz frzL PV.isF PV.allF PV.scal PV.allS retP subT zds PV.one PV.ids PV.idsL zcc beq_eq zbw zbx
attribute [local simp] zW tup2
end Go.Am.Ds
end
/-
 Descent: what the program says of models is what the reference says.
-/
section
namespace Go.Am.Ds
open Go Go.Am Go.Proofs
theorem zlc:∀ {l:List Wit} {seen:List Int},zi1 l seen=0→(l.map Wit.id).Nodup∧∀w∈l,w.id∉seen
 |[],_,_=>⟨.nil,fun w hw=>by cases hw⟩
 |a::r,seen,h=>by
  simp only[zi1] at h
  split at h
  ·split at h
   ·simp at h
   rename_i hn
   obtain⟨h1,h2⟩:=zlc h
   refine⟨?_,fun w hw=>?_⟩
   ·rw[List.map_cons,List.nodup_cons]
    refine⟨fun hm=>?_,h1⟩
    obtain⟨w,hw,he⟩:=List.mem_map.1 hm
    exact h2 w hw ((zp4 _ _ _).2 (.inr he))
   rcases List.mem_cons.1 hw with rfl|hw
   ·exact hn
   exact fun hs=>h2 w hw ((zp4 _ _ _).2 (.inl hs))
  rename_i h0;exact absurd h h0
theorem zdf {s:List Wit}(h:zbh s=0):(s.map Wit.id).Nodup:=by
 unfold zbh at h
 split at h
 ·simp at h
 exact(zlc h).1
theorem znq {s:List Wit}(h:(s.map Wit.id).Nodup):(idsS s).Pairwise (·<·):=by
 unfold idsS
 have h1:=List.pairwise_mergeSort (le:=fun x y:Int=>decide (x≤y)) (fun a b c h1 h2=>by simp only[decide_eq_true_eq] at *;omega) (fun a b=>by simp only[Bool.or_eq_true,decide_eq_true_eq];omega) (s.map Wit.id)
 have h2:((s.map Wit.id).mergeSort fun x y=>decide (x≤y)).Nodup:=(List.mergeSort_perm _ _).nodup_iff.2 h
 have h3:=h1.and h2
 exact h3.imp fun⟨h4,h5⟩=>by
  simp only[decide_eq_true_eq] at h4
  rcases Int.lt_or_eq_of_le h4 with h6|h6
  ·exact h6
  exact absurd h6 h5
end Go.Am.Ds
end
