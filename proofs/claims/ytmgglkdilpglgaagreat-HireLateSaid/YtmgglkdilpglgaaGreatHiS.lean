/-
 What is used in the proof of a statement (part HiS); no condition.
-/
import Derived.Test.YtmgglkdilpglgaaGreatHiP1
import Derived.Test.YtmgglkdilpglgaaGreatHiP2
import Derived.Test.YtmgglkdilpglgaaGreatVm2
set_option linter.all false
set_option maxHeartbeats 40000000
set_option maxRecDepth 100000
section
namespace Go.Am.Hi
open Go Go.Am Go.Proofs Tryz
def allP:List zgw:=[pc0,pc1,pc2,pc3,pc4,pc5,pc6,pc7,pc8,pc9]
theorem topB:(match (zz6 prog 0 (zog tabL) spc 100000 (orcP allP orc0)).call 15 [] zaa.empty with
 |some (.bool c,_)=>c==true
 |_=>false)=true:=by decide +kernel
theorem zyp (hS:zqo prog 0 spc):zao prog 15 [] fun r=>r=.bool true:=by
 have h0:zje prog 0 orc0:=z1r mixed (zpu zr2) hS 100000 60
 refine .of_closed (zxc (zpf mixed (zpu zr2) hS 100000 (z3t (ps:=allP) ?_ h0)) topB)
 exact zad (zda h0 pcB0) (zad (zda h0 pcB1) (zad (zda h0 pcB2) (zad (zda h0 pcB3) (zad (zda h0 pcB4) (zad (zda h0 pcB5) (zad (zda h0 pcB6) (zad (zda h0 pcB7) (zad (zda h0 pcB8) (zad (zda h0 pcB9) (z1v))))))))))
theorem p15:zao prog 15 [] fun r=>r=.bool true:=zyp z6p
end Go.Am.Hi
end
