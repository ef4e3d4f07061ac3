/-
 What is used in the proof of a statement (part HiS); no condition.
-/
import Derived.Test.YtmgglkdilpglgaaGreatHiP1
import Derived.Test.YtmgglkdilpglgaaGreatHiP2
import Derived.Test.YtmgglkdilpglgaaGreatVm2
set_option linter.all false
set_option maxHeartbeats 40000000
set_option maxRecDepth 100000
section
namespace Go.Am.Hi
open Go Go.Am Go.Proofs
def allP:List Piece:=[pc0,pc1,pc2,pc3,pc4,pc5,pc6,pc7,pc8,pc9]
theorem topB:(match (stepK Tryz.prog 0 (lookFE tabL) spc 100000 (orcP allP orc0)).call 15 [] AHeap.empty with
  |some (.bool c,_)=>c==true
  |_=>false)=true:=by decide +kernel
theorem sanity_of (hS:SpecOK Tryz.prog 0 spc):VPure Tryz.prog 15 [] fun r=>r=.bool true:=by
 have h0:OrcOK Tryz.prog 0 orc0:=evK_ok mixed (tabOK_of tabL_ok) hS 100000 60
 refine .of_closed (closed_of (stepK_ok mixed (tabOK_of tabL_ok) hS 100000 (orcP_ok (ps:=allP) ?_ h0)) topB)
 exact allCons (pieceOK_of h0 pcB0) (allCons (pieceOK_of h0 pcB1) (allCons (pieceOK_of h0 pcB2) (allCons (pieceOK_of h0 pcB3) (allCons (pieceOK_of h0 pcB4) (allCons (pieceOK_of h0 pcB5) (allCons (pieceOK_of h0 pcB6) (allCons (pieceOK_of h0 pcB7) (allCons (pieceOK_of h0 pcB8) (allCons (pieceOK_of h0 pcB9) (allNil))))))))))
theorem p15:VPure Tryz.prog 15 [] fun r=>r=.bool true:=sanity_of specOK
end Go.Am.Hi
end
