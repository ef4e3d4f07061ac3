/-
 What is used in the proof of a statement (part SlM15); no condition.
-/
import Derived.Test.YthnmgbgmlhackaaGreatDoorRows
import Derived.JoinedOf
import Derived.ProofKit
set_option linter.all false
section
namespace Go.Am.Sl
open Go Go.Proofs Go.Proofs.YthnmgbgmlhackaaGreatDoor
set_option maxRecDepth 100000
theorem j7 {a b:Bool}(h:a=true)(g:b=true):(a&&b)=true:=by rw[h,g];rfl
theorem xfg:(Rows.slipBetweenRow.wf (OpenSpec.ofChange Rows.slipBetweenSpec))=true:=by kernel_rfl
theorem xcc:(laidOutB Tryz.prog)=true:=by kernel_rfl
theorem xdx:(mapsRowed Tryz.prog)=true:=by kernel_rfl
theorem xd8:(Tryz.f15.params.all (Tryz.prog.readableRec ·))=true:=by kernel_rfl
theorem xe8:(namedTie Tryz.prog Rows.slipBetweenRow.named Rows.slipBetweenSpec.vars)=true:=by kernel_rfl
theorem xer:((Rows.slipBetweenRow.stops==[]))=true:=by kernel_rfl
theorem xd1:((Tryz.prog.stops==[]))=true:=by kernel_rfl
theorem xdh:((Rows.slipBetweenRow.knobs==[]))=true:=by kernel_rfl
theorem xd2:((Tryz.prog.stopKnobs==[]))=true:=by kernel_rfl
theorem xd9:((Rows.slipBetweenRow.inPlace==Tryz.prog.inPlace 15))=true:=by kernel_rfl
theorem z7b:((Rows.slipBetweenRow.unfollowed==Tryz.prog.unfollowed 15))=true:=by kernel_rfl
theorem z8h:((Rows.slipBetweenRow.recurses==Tryz.prog.recurses 15))=true:=by kernel_rfl
theorem z7e:((Rows.slipBetweenRow.named==Tryz.prog.varsNamed 15))=true:=by kernel_rfl
theorem z7s:((Rows.slipBetweenRow.maps==(Tryz.f15.params.toList++Rows.slipBetweenSpec.plain.varTypes Tryz.prog).any (Tryz.prog.mapsRec ·)))=true:=by kernel_rfl
theorem xbn:((Rows.slipBetweenRow.ifaces==(Tryz.f15.params.toList++Rows.slipBetweenSpec.plain.varTypes Tryz.prog).any (Tryz.prog.ifacesRec ·)))=true:=by kernel_rfl
theorem xay:((Rows.slipBetweenRow.mapsOut==Tryz.prog.mapsAmong Tryz.f15.resultTypes.toList))=true:=by kernel_rfl
theorem xab:((Rows.slipBetweenRow.loops==(Tryz.f15.params.toList++Rows.slipBetweenSpec.plain.varTypes Tryz.prog).any (Tryz.prog.loopsFrom ·)))=true:=by kernel_rfl
theorem z9k:((Rows.slipBetweenRow.wideKeys==(Tryz.f15.params.toList++Rows.slipBetweenSpec.plain.varTypes Tryz.prog++Tryz.f15.resultTypes.toList).any (Tryz.prog.wideKeysFrom ·)))=true:=by kernel_rfl
theorem z9y:(Rows.slipBetweenSpec.vars.all (Tryz.prog.varReadable ·))=true:=by kernel_rfl
theorem z8g:(Tryz.f15.resultTypes.all (fun t=>Tryz.prog.readableRec t&&decide (t<Tryz.prog.types.size)))=true:=by kernel_rfl
theorem z9e:((Rows.slipBetweenRow.ifacesOut==Tryz.f15.resultTypes.toList.any (Tryz.prog.ifacesRec ·)))=true:=by kernel_rfl
theorem z6p:((Rows.slipBetweenRow.loopsOut==Tryz.f15.resultTypes.toList.any (Tryz.prog.loopsFrom ·)))=true:=by kernel_rfl
theorem xbe:((Rows.slipBetweenRow.plainKeys==Tryz.prog.plainKeys))=true:=by kernel_rfl
theorem z9b:(Rows.slipBetweenRow.shortTexts.isNone)=true:=by kernel_rfl
theorem xbi:(Tryz.prog.stopsHeard)=true:=by kernel_rfl
theorem xbl:(Tryz.prog.mayEnter)=true:=by kernel_rfl
theorem z9h:((Rows.slipBetweenRow.lifted==Tryz.prog.liftsFinal))=true:=by kernel_rfl
theorem z9g:((Tryz.prog.make==some Rows.slipBetweenRow.make))=true:=by kernel_rfl
theorem xae:((Rows.slipBetweenRow.kinds==(if Rows.slipBetweenRow.domain.isEmpty then [] else Tryz.f15.params.toList.map fun t=>match Tryz.prog.underlying t with|some (.int k)=>some k|_=>none)))=true:=by kernel_rfl
theorem xbd:((Rows.slipBetweenRow.pinned==Rows.slipBetweenRow.pinnedBy))=true:=by kernel_rfl
theorem z8u:((Rows.slipBetweenRow.veiled==(Tryz.f15.params.toList++Rows.slipBetweenSpec.plain.varTypes Tryz.prog++Tryz.f15.resultTypes.toList).any (Tryz.prog.veiledRec ·)))=true:=by kernel_rfl
theorem z8n:(Rows.slipBetweenRow.veiledFits Tryz.prog Tryz.f15.params.toList (Tryz.f15.params.toList++Rows.slipBetweenSpec.plain.varTypes Tryz.prog++Tryz.f15.resultTypes.toList))=true:=by kernel_rfl
theorem zpf:joinedFacts Tryz.prog 15 Tryz.f15 Rows.slipBetweenSpec Rows.slipBetweenRow=true:=j7 (j7 (j7 (j7 (j7 (j7 (j7 (j7 (j7 (j7 (j7 (j7 (j7 (j7 (j7 (j7 (j7 (j7 (j7 (j7 (j7 (j7 (j7 (j7 (j7 (j7 (j7 (j7 (j7 (j7 (j7 (xfg) xcc) xdx) xd8) xe8) xer) xd1) xdh) xd2) xd9) z7b) z8h) z7e) z7s) xbn) xay) xab) z9k) z9y) z8g) z9e) z6p) xbe) z9b) xbi) xbl) z9h) z9g) xae) xbd) z8u) z8n
end Go.Am.Sl
end
