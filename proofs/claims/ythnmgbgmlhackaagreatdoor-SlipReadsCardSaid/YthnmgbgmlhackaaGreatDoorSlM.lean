/-
 What is used in the proof of a statement (part SlM); no condition.
-/
import Derived.Test.YthnmgbgmlhackaaGreatDoorRows
import Derived.JoinedOf
import Derived.ProofKit
set_option linter.all false
section
namespace Go.Am.Sl
open Go Go.Proofs Go.Proofs.YthnmgbgmlhackaaGreatDoor
set_option maxRecDepth 100000
theorem js {a b:Bool}(h:a=true)(g:b=true):(a&&b)=true:=by rw[h,g];rfl
theorem z7r:(Rows.slipReadsRow.wf (OpenSpec.ofChange Rows.slipReadsSpec))=true:=by kernel_rfl
theorem xak:(laidOutB Tryz.prog)=true:=by kernel_rfl
theorem xan:(mapsRowed Tryz.prog)=true:=by kernel_rfl
theorem z9e:(Tryz.f16.params.all (Tryz.prog.readableRec ·))=true:=by kernel_rfl
theorem z8v:(namedTie Tryz.prog Rows.slipReadsRow.named Rows.slipReadsSpec.vars)=true:=by kernel_rfl
theorem z7y:((Rows.slipReadsRow.stops==[]))=true:=by kernel_rfl
theorem xal:((Tryz.prog.stops==[]))=true:=by kernel_rfl
theorem z8o:((Rows.slipReadsRow.knobs==[]))=true:=by kernel_rfl
theorem z9v:((Tryz.prog.stopKnobs==[]))=true:=by kernel_rfl
theorem z9f:((Rows.slipReadsRow.inPlace==Tryz.prog.inPlace 16))=true:=by kernel_rfl
theorem z6l:((Rows.slipReadsRow.unfollowed==Tryz.prog.unfollowed 16))=true:=by kernel_rfl
theorem z3a:((Rows.slipReadsRow.recurses==Tryz.prog.recurses 16))=true:=by kernel_rfl
theorem z3f:((Rows.slipReadsRow.named==Tryz.prog.varsNamed 16))=true:=by kernel_rfl
theorem z5c:((Rows.slipReadsRow.maps==(Tryz.f16.params.toList++Rows.slipReadsSpec.plain.varTypes Tryz.prog).any (Tryz.prog.mapsRec ·)))=true:=by kernel_rfl
theorem z3y:((Rows.slipReadsRow.ifaces==(Tryz.f16.params.toList++Rows.slipReadsSpec.plain.varTypes Tryz.prog).any (Tryz.prog.ifacesRec ·)))=true:=by kernel_rfl
theorem z5m:((Rows.slipReadsRow.mapsOut==Tryz.prog.mapsAmong Tryz.f16.resultTypes.toList))=true:=by kernel_rfl
theorem z7a:((Rows.slipReadsRow.loops==(Tryz.f16.params.toList++Rows.slipReadsSpec.plain.varTypes Tryz.prog).any (Tryz.prog.loopsFrom ·)))=true:=by kernel_rfl
theorem z5z:((Rows.slipReadsRow.wideKeys==(Tryz.f16.params.toList++Rows.slipReadsSpec.plain.varTypes Tryz.prog++Tryz.f16.resultTypes.toList).any (Tryz.prog.wideKeysFrom ·)))=true:=by kernel_rfl
theorem z4u:(Rows.slipReadsSpec.vars.all (Tryz.prog.varReadable ·))=true:=by kernel_rfl
theorem z4k:(Tryz.f16.resultTypes.all (fun t=>Tryz.prog.readableRec t&&decide (t<Tryz.prog.types.size)))=true:=by kernel_rfl
theorem z3d:((Rows.slipReadsRow.ifacesOut==Tryz.f16.resultTypes.toList.any (Tryz.prog.ifacesRec ·)))=true:=by kernel_rfl
theorem z4e:((Rows.slipReadsRow.loopsOut==Tryz.f16.resultTypes.toList.any (Tryz.prog.loopsFrom ·)))=true:=by kernel_rfl
theorem z4o:((Rows.slipReadsRow.plainKeys==Tryz.prog.plainKeys))=true:=by kernel_rfl
theorem z2v:(Rows.slipReadsRow.shortTexts.isNone)=true:=by kernel_rfl
theorem z6y:(Tryz.prog.stopsHeard)=true:=by kernel_rfl
theorem z2u:(Tryz.prog.mayEnter)=true:=by kernel_rfl
theorem z4p:((Rows.slipReadsRow.lifted==Tryz.prog.liftsFinal))=true:=by kernel_rfl
theorem z5f:((Tryz.prog.make==some Rows.slipReadsRow.make))=true:=by kernel_rfl
theorem z5j:((Rows.slipReadsRow.kinds==(if Rows.slipReadsRow.domain.isEmpty then [] else Tryz.f16.params.toList.map fun t=>match Tryz.prog.underlying t with|some (.int k)=>some k|_=>none)))=true:=by kernel_rfl
theorem z4i:((Rows.slipReadsRow.pinned==Rows.slipReadsRow.pinnedBy))=true:=by kernel_rfl
theorem z4r:((Rows.slipReadsRow.veiled==(Tryz.f16.params.toList++Rows.slipReadsSpec.plain.varTypes Tryz.prog++Tryz.f16.resultTypes.toList).any (Tryz.prog.veiledRec ·)))=true:=by kernel_rfl
theorem z5i:(Rows.slipReadsRow.veiledFits Tryz.prog Tryz.f16.params.toList (Tryz.f16.params.toList++Rows.slipReadsSpec.plain.varTypes Tryz.prog++Tryz.f16.resultTypes.toList))=true:=by kernel_rfl
theorem zre:joinedFacts Tryz.prog 16 Tryz.f16 Rows.slipReadsSpec Rows.slipReadsRow=true:=js (js (js (js (js (js (js (js (js (js (js (js (js (js (js (js (js (js (js (js (js (js (js (js (js (js (js (js (js (js (js (z7r) xak) xan) z9e) z8v) z7y) xal) z8o) z9v) z9f) z6l) z3a) z3f) z5c) z3y) z5m) z7a) z5z) z4u) z4k) z3d) z4e) z4o) z2v) z6y) z2u) z4p) z5f) z5j) z4i) z4r) z5i
end Go.Am.Sl
end
