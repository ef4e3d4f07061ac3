/-
 What is used in the proof of a statement (part SlM10); no condition.
-/
import Derived.Test.YthnmgbgmlhackaaGreatDoorRows
import Derived.JoinedOf
import Derived.ProofKit
set_option linter.all false
section
namespace Go.Am.Sl
open Go Go.Proofs Go.Proofs.YthnmgbgmlhackaaGreatDoor
set_option maxRecDepth 100000
theorem mj {a b:Bool}(h:a=true)(g:b=true):(a&&b)=true:=by rw[h,g];rfl
theorem xgm:(Rows.slipMendedRow.wf (OpenSpec.ofChange Rows.slipMendedSpec))=true:=by kernel_rfl
theorem xg6:(laidOutB Tryz.prog)=true:=by kernel_rfl
theorem xfd:(mapsRowed Tryz.prog)=true:=by kernel_rfl
theorem xee:(Tryz.f10.params.all (Tryz.prog.readableRec ·))=true:=by kernel_rfl
theorem xil:(namedTie Tryz.prog Rows.slipMendedRow.named Rows.slipMendedSpec.vars)=true:=by kernel_rfl
theorem xhx:((Rows.slipMendedRow.stops==[]))=true:=by kernel_rfl
theorem xfj:((Tryz.prog.stops==[]))=true:=by kernel_rfl
theorem xek:((Rows.slipMendedRow.knobs==[]))=true:=by kernel_rfl
theorem xhe:((Tryz.prog.stopKnobs==[]))=true:=by kernel_rfl
theorem xfy:((Rows.slipMendedRow.inPlace==Tryz.prog.inPlace 10))=true:=by kernel_rfl
theorem xa5:((Rows.slipMendedRow.unfollowed==Tryz.prog.unfollowed 10))=true:=by kernel_rfl
theorem xcm:((Rows.slipMendedRow.recurses==Tryz.prog.recurses 10))=true:=by kernel_rfl
theorem xaq:((Rows.slipMendedRow.named==Tryz.prog.varsNamed 10))=true:=by kernel_rfl
theorem xap:((Rows.slipMendedRow.maps==(Tryz.f10.params.toList++Rows.slipMendedSpec.plain.varTypes Tryz.prog).any (Tryz.prog.mapsRec ·)))=true:=by kernel_rfl
theorem xdj:((Rows.slipMendedRow.ifaces==(Tryz.f10.params.toList++Rows.slipMendedSpec.plain.varTypes Tryz.prog).any (Tryz.prog.ifacesRec ·)))=true:=by kernel_rfl
theorem xdd:((Rows.slipMendedRow.mapsOut==Tryz.prog.mapsAmong Tryz.f10.resultTypes.toList))=true:=by kernel_rfl
theorem xdo:((Rows.slipMendedRow.loops==(Tryz.f10.params.toList++Rows.slipMendedSpec.plain.varTypes Tryz.prog).any (Tryz.prog.loopsFrom ·)))=true:=by kernel_rfl
theorem xbu:((Rows.slipMendedRow.wideKeys==(Tryz.f10.params.toList++Rows.slipMendedSpec.plain.varTypes Tryz.prog++Tryz.f10.resultTypes.toList).any (Tryz.prog.wideKeysFrom ·)))=true:=by kernel_rfl
theorem xca:(Rows.slipMendedSpec.vars.all (Tryz.prog.varReadable ·))=true:=by kernel_rfl
theorem xaf:(Tryz.f10.resultTypes.all (fun t=>Tryz.prog.readableRec t&&decide (t<Tryz.prog.types.size)))=true:=by kernel_rfl
theorem xdk:((Rows.slipMendedRow.ifacesOut==Tryz.f10.resultTypes.toList.any (Tryz.prog.ifacesRec ·)))=true:=by kernel_rfl
theorem xck:((Rows.slipMendedRow.loopsOut==Tryz.f10.resultTypes.toList.any (Tryz.prog.loopsFrom ·)))=true:=by kernel_rfl
theorem xay:((Rows.slipMendedRow.plainKeys==Tryz.prog.plainKeys))=true:=by kernel_rfl
theorem xal:(Rows.slipMendedRow.shortTexts.isNone)=true:=by kernel_rfl
theorem xcx:(Tryz.prog.stopsHeard)=true:=by kernel_rfl
theorem xc3:(Tryz.prog.mayEnter)=true:=by kernel_rfl
theorem xbh:((Rows.slipMendedRow.lifted==Tryz.prog.liftsFinal))=true:=by kernel_rfl
theorem xaj:((Tryz.prog.make==some Rows.slipMendedRow.make))=true:=by kernel_rfl
theorem xam:((Rows.slipMendedRow.kinds==(if Rows.slipMendedRow.domain.isEmpty then [] else Tryz.f10.params.toList.map fun t=>match Tryz.prog.underlying t with|some (.int k)=>some k|_=>none)))=true:=by kernel_rfl
theorem xad:((Rows.slipMendedRow.pinned==Rows.slipMendedRow.pinnedBy))=true:=by kernel_rfl
theorem xa0:((Rows.slipMendedRow.veiled==(Tryz.f10.params.toList++Rows.slipMendedSpec.plain.varTypes Tryz.prog++Tryz.f10.resultTypes.toList).any (Tryz.prog.veiledRec ·)))=true:=by kernel_rfl
theorem xcb:(Rows.slipMendedRow.veiledFits Tryz.prog Tryz.f10.params.toList (Tryz.f10.params.toList++Rows.slipMendedSpec.plain.varTypes Tryz.prog++Tryz.f10.resultTypes.toList))=true:=by kernel_rfl
theorem ztb:joinedFacts Tryz.prog 10 Tryz.f10 Rows.slipMendedSpec Rows.slipMendedRow=true:=mj (mj (mj (mj (mj (mj (mj (mj (mj (mj (mj (mj (mj (mj (mj (mj (mj (mj (mj (mj (mj (mj (mj (mj (mj (mj (mj (mj (mj (mj (mj (xgm) xg6) xfd) xee) xil) xhx) xfj) xek) xhe) xfy) xa5) xcm) xaq) xap) xdj) xdd) xdo) xbu) xca) xaf) xdk) xck) xay) xal) xcx) xc3) xbh) xaj) xam) xad) xa0) xcb
end Go.Am.Sl
end
