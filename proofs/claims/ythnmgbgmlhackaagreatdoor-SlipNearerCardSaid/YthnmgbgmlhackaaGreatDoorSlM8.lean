/-
 What is used in the proof of a statement (part SlM8); no condition.
-/
import Derived.Test.YthnmgbgmlhackaaGreatDoorRows
import Derived.JoinedOf
import Derived.ProofKit
set_option linter.all false
section
namespace Go.Am.Sl
open Go Go.Proofs Go.Proofs.YthnmgbgmlhackaaGreatDoor
set_option maxRecDepth 100000
theorem j8 {a b:Bool}(h:a=true)(g:b=true):(a&&b)=true:=by rw[h,g];rfl
theorem xgh:(Rows.slipNearerRow.wf (OpenSpec.ofChange Rows.slipNearerSpec))=true:=by kernel_rfl
theorem xgu:(laidOutB Tryz.prog)=true:=by kernel_rfl
theorem xgx:(mapsRowed Tryz.prog)=true:=by kernel_rfl
theorem xhf:(Tryz.f8.params.all (Tryz.prog.readableRec ·))=true:=by kernel_rfl
theorem xgp:(namedTie Tryz.prog Rows.slipNearerRow.named Rows.slipNearerSpec.vars)=true:=by kernel_rfl
theorem xhs:((Rows.slipNearerRow.stops==[]))=true:=by kernel_rfl
theorem xhw:((Tryz.prog.stops==[]))=true:=by kernel_rfl
theorem xhm:((Rows.slipNearerRow.knobs==[]))=true:=by kernel_rfl
theorem xg9:((Tryz.prog.stopKnobs==[]))=true:=by kernel_rfl
theorem xf7:((Rows.slipNearerRow.inPlace==Tryz.prog.inPlace 8))=true:=by kernel_rfl
theorem xdo:((Rows.slipNearerRow.unfollowed==Tryz.prog.unfollowed 8))=true:=by kernel_rfl
theorem xfe:((Rows.slipNearerRow.recurses==Tryz.prog.recurses 8))=true:=by kernel_rfl
theorem xes:((Rows.slipNearerRow.named==Tryz.prog.varsNamed 8))=true:=by kernel_rfl
theorem xci:((Rows.slipNearerRow.maps==(Tryz.f8.params.toList++Rows.slipNearerSpec.plain.varTypes Tryz.prog).any (Tryz.prog.mapsRec ·)))=true:=by kernel_rfl
theorem xc0:((Rows.slipNearerRow.ifaces==(Tryz.f8.params.toList++Rows.slipNearerSpec.plain.varTypes Tryz.prog).any (Tryz.prog.ifacesRec ·)))=true:=by kernel_rfl
theorem xdt:((Rows.slipNearerRow.mapsOut==Tryz.prog.mapsAmong Tryz.f8.resultTypes.toList))=true:=by kernel_rfl
theorem xc6:((Rows.slipNearerRow.loops==(Tryz.f8.params.toList++Rows.slipNearerSpec.plain.varTypes Tryz.prog).any (Tryz.prog.loopsFrom ·)))=true:=by kernel_rfl
theorem xfj:((Rows.slipNearerRow.wideKeys==(Tryz.f8.params.toList++Rows.slipNearerSpec.plain.varTypes Tryz.prog++Tryz.f8.resultTypes.toList).any (Tryz.prog.wideKeysFrom ·)))=true:=by kernel_rfl
theorem xcd:(Rows.slipNearerSpec.vars.all (Tryz.prog.varReadable ·))=true:=by kernel_rfl
theorem xcj:(Tryz.f8.resultTypes.all (fun t=>Tryz.prog.readableRec t&&decide (t<Tryz.prog.types.size)))=true:=by kernel_rfl
theorem xcg:((Rows.slipNearerRow.ifacesOut==Tryz.f8.resultTypes.toList.any (Tryz.prog.ifacesRec ·)))=true:=by kernel_rfl
theorem xdd:((Rows.slipNearerRow.loopsOut==Tryz.f8.resultTypes.toList.any (Tryz.prog.loopsFrom ·)))=true:=by kernel_rfl
theorem xdc:((Rows.slipNearerRow.plainKeys==Tryz.prog.plainKeys))=true:=by kernel_rfl
theorem xd4:(Rows.slipNearerRow.shortTexts.isNone)=true:=by kernel_rfl
theorem xe1:(Tryz.prog.stopsHeard)=true:=by kernel_rfl
theorem xc8:(Tryz.prog.mayEnter)=true:=by kernel_rfl
theorem xde:((Rows.slipNearerRow.lifted==Tryz.prog.liftsFinal))=true:=by kernel_rfl
theorem xdl:((Tryz.prog.make==some Rows.slipNearerRow.make))=true:=by kernel_rfl
theorem xch:((Rows.slipNearerRow.kinds==(if Rows.slipNearerRow.domain.isEmpty then [] else Tryz.f8.params.toList.map fun t=>match Tryz.prog.underlying t with|some (.int k)=>some k|_=>none)))=true:=by kernel_rfl
theorem xem:((Rows.slipNearerRow.pinned==Rows.slipNearerRow.pinnedBy))=true:=by kernel_rfl
theorem xcu:((Rows.slipNearerRow.veiled==(Tryz.f8.params.toList++Rows.slipNearerSpec.plain.varTypes Tryz.prog++Tryz.f8.resultTypes.toList).any (Tryz.prog.veiledRec ·)))=true:=by kernel_rfl
theorem xep:(Rows.slipNearerRow.veiledFits Tryz.prog Tryz.f8.params.toList (Tryz.f8.params.toList++Rows.slipNearerSpec.plain.varTypes Tryz.prog++Tryz.f8.resultTypes.toList))=true:=by kernel_rfl
theorem zrl:joinedFacts Tryz.prog 8 Tryz.f8 Rows.slipNearerSpec Rows.slipNearerRow=true:=j8 (j8 (j8 (j8 (j8 (j8 (j8 (j8 (j8 (j8 (j8 (j8 (j8 (j8 (j8 (j8 (j8 (j8 (j8 (j8 (j8 (j8 (j8 (j8 (j8 (j8 (j8 (j8 (j8 (j8 (j8 (xgh) xgu) xgx) xhf) xgp) xhs) xhw) xhm) xg9) xf7) xdo) xfe) xes) xci) xc0) xdt) xc6) xfj) xcd) xcj) xcg) xdd) xdc) xd4) xe1) xc8) xde) xdl) xch) xem) xcu) xep
end Go.Am.Sl
end
