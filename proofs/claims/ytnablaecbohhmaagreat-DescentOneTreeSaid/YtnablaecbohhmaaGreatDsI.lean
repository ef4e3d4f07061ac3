/-
 What is used in the proof of a statement (part DsI); no condition.
-/
import Derived.Test.YtnablaecbohhmaaGreatDsD
import Derived.Test.YtnablaecbohhmaaGreatDsF
import Derived.Test.YtnablaecbohhmaaGreatDsZ
import Derived.Test.YtnablaecbohhmaaGreatVm2
import Derived.Test.YtnablaecbohhmaaGreatDsT
import Derived.Test.YtnablaecbohhmaaGreatDsS
set_option linter.all false
set_option maxHeartbeats 40000000
set_option maxRecDepth 100000
/-
 Descent: copies that were truly made from each other (plain law of True).
-/
section
namespace Go.Am.Ds
open Go Go.Am Go.Proofs
theorem zf0:∀ {l:List Int} {a:Int},zdn l a=true↔(l.Pairwise (·<·)∧∀n∈l,a<n∧n≤1099511627776)
 |[],a=>by simp[zdn]
 |n::r,a=>by
  unfold zdn
  have ih:=zf0 (l:=r) (a:=n)
  split
  ·rename_i h
   constructor
   ·intro h2;cases h2
   rintro⟨_,h2⟩
   have:=h2 n List.mem_cons_self
   omega
  rename_i h
  rw[ih,List.pairwise_cons]
  constructor
  ·rintro⟨h1,h2⟩
   refine⟨⟨fun x hx=>(h2 x hx).1,h1⟩,fun x hx=>?_⟩
   rcases List.mem_cons.1 hx with rfl|hx
   ·omega
   have:=h2 x hx;omega
  rintro⟨⟨h1,h2⟩,h3⟩
  exact⟨h2,fun x hx=>⟨h1 x hx,(h3 x (List.mem_cons_of_mem _ hx)).2⟩⟩
end Go.Am.Ds
end
/-
 Descent: the fewest slips that are left out (plain law of Drops).
-/
section
namespace Go.Am.Ds
open Go Go.Am Go.Proofs
def hM (s:List Wit)(D:List Int):List (Int×Int):=(zeh s).filter fun x=>!decide (x.1∈D)
end Go.Am.Ds
end
section
namespace Go.Am.Ds
open Go Go.Am Go.Proofs
attribute [local simp] vrun zaz zbg vop vopA zb2 zab.back hidI hidF zdh bm Nat.testBit_eq_decide_div_mod_eq za6 zbo zb4 vO zbc vlen zbs zbz zd2 zaq zak zcj vbox zbe zdu zby zdt zcm zau zcn zav zcl zbf zci zbr zbl vbnd zcz vidx zbp zdk zar zbt zct zdj zd9 zd6 vbin vsc vsc1 vscs vscl zbv aint zb3 zdl za8 zcx zd0 pvcV pvc pvcs tput tget zdd zab.get zab.alloc zab.put zab.drop zab.empty zce vput zdi zbb zca zda chunk List.range List.range.loop za0 zbu za1 frz frzL PV.isF PV.allF PV.scal PV.allS retP subT zds PV.one PV.ids PV.idsL zcc beq_eq zbw zbx
attribute [local simp] zW tup2
end Go.Am.Ds
end
/-
 Descent: the reference's Drop is the program's (plain law of Trees).
-/
section
namespace Go.Am.Ds
open Go Go.Am Go.Proofs
end Go.Am.Ds
end
