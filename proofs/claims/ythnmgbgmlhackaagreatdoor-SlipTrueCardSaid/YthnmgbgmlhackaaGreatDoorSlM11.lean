/-
 What is used in the proof of a statement (part SlM11); no condition.
-/
import Derived.Test.YthnmgbgmlhackaaGreatDoorRows
import Derived.JoinedOf
import Derived.ProofKit
set_option linter.all false
section
namespace Go.Am.Sl
open Go Go.Proofs Go.Proofs.YthnmgbgmlhackaaGreatDoor
set_option maxRecDepth 100000
theorem j6 {a b:Bool}(h:a=true)(g:b=true):(a&&b)=true:=by rw[h,g];rfl
theorem xek:(Rows.slipTrueRow.wf (OpenSpec.ofChange Rows.slipTrueSpec))=true:=by kernel_rfl
theorem xe0:(laidOutB Tryz.prog)=true:=by kernel_rfl
theorem xfi:(mapsRowed Tryz.prog)=true:=by kernel_rfl
theorem xet:(Tryz.f11.params.all (Tryz.prog.readableRec ·))=true:=by kernel_rfl
theorem xcf:(namedTie Tryz.prog Rows.slipTrueRow.named Rows.slipTrueSpec.vars)=true:=by kernel_rfl
theorem xef:((Rows.slipTrueRow.stops==[]))=true:=by kernel_rfl
theorem xdm:((Tryz.prog.stops==[]))=true:=by kernel_rfl
theorem xc5:((Rows.slipTrueRow.knobs==[]))=true:=by kernel_rfl
theorem xc9:((Tryz.prog.stopKnobs==[]))=true:=by kernel_rfl
theorem xew:((Rows.slipTrueRow.inPlace==Tryz.prog.inPlace 11))=true:=by kernel_rfl
theorem xak:((Rows.slipTrueRow.unfollowed==Tryz.prog.unfollowed 11))=true:=by kernel_rfl
theorem z6q:((Rows.slipTrueRow.recurses==Tryz.prog.recurses 11))=true:=by kernel_rfl
theorem z6z:((Rows.slipTrueRow.named==Tryz.prog.varsNamed 11))=true:=by kernel_rfl
theorem xao:((Rows.slipTrueRow.maps==(Tryz.f11.params.toList++Rows.slipTrueSpec.plain.varTypes Tryz.prog).any (Tryz.prog.mapsRec ·)))=true:=by kernel_rfl
theorem z6x:((Rows.slipTrueRow.ifaces==(Tryz.f11.params.toList++Rows.slipTrueSpec.plain.varTypes Tryz.prog).any (Tryz.prog.ifacesRec ·)))=true:=by kernel_rfl
theorem xap:((Rows.slipTrueRow.mapsOut==Tryz.prog.mapsAmong Tryz.f11.resultTypes.toList))=true:=by kernel_rfl
theorem z7w:((Rows.slipTrueRow.loops==(Tryz.f11.params.toList++Rows.slipTrueSpec.plain.varTypes Tryz.prog).any (Tryz.prog.loopsFrom ·)))=true:=by kernel_rfl
theorem z7x:((Rows.slipTrueRow.wideKeys==(Tryz.f11.params.toList++Rows.slipTrueSpec.plain.varTypes Tryz.prog++Tryz.f11.resultTypes.toList).any (Tryz.prog.wideKeysFrom ·)))=true:=by kernel_rfl
theorem z7o:(Rows.slipTrueSpec.vars.all (Tryz.prog.varReadable ·))=true:=by kernel_rfl
theorem xaj:(Tryz.f11.resultTypes.all (fun t=>Tryz.prog.readableRec t&&decide (t<Tryz.prog.types.size)))=true:=by kernel_rfl
theorem z8i:((Rows.slipTrueRow.ifacesOut==Tryz.f11.resultTypes.toList.any (Tryz.prog.ifacesRec ·)))=true:=by kernel_rfl
theorem xac:((Rows.slipTrueRow.loopsOut==Tryz.f11.resultTypes.toList.any (Tryz.prog.loopsFrom ·)))=true:=by kernel_rfl
theorem xbt:((Rows.slipTrueRow.plainKeys==Tryz.prog.plainKeys))=true:=by kernel_rfl
theorem z7f:(Rows.slipTrueRow.shortTexts.isNone)=true:=by kernel_rfl
theorem z7a:(Tryz.prog.stopsHeard)=true:=by kernel_rfl
theorem z8o:(Tryz.prog.mayEnter)=true:=by kernel_rfl
theorem xbj:((Rows.slipTrueRow.lifted==Tryz.prog.liftsFinal))=true:=by kernel_rfl
theorem z7d:((Tryz.prog.make==some Rows.slipTrueRow.make))=true:=by kernel_rfl
theorem z9o:((Rows.slipTrueRow.kinds==(if Rows.slipTrueRow.domain.isEmpty then [] else Tryz.f11.params.toList.map fun t=>match Tryz.prog.underlying t with|some (.int k)=>some k|_=>none)))=true:=by kernel_rfl
theorem xaf:((Rows.slipTrueRow.pinned==Rows.slipTrueRow.pinnedBy))=true:=by kernel_rfl
theorem z9v:((Rows.slipTrueRow.veiled==(Tryz.f11.params.toList++Rows.slipTrueSpec.plain.varTypes Tryz.prog++Tryz.f11.resultTypes.toList).any (Tryz.prog.veiledRec ·)))=true:=by kernel_rfl
theorem z9d:(Rows.slipTrueRow.veiledFits Tryz.prog Tryz.f11.params.toList (Tryz.f11.params.toList++Rows.slipTrueSpec.plain.varTypes Tryz.prog++Tryz.f11.resultTypes.toList))=true:=by kernel_rfl
theorem zxh:joinedFacts Tryz.prog 11 Tryz.f11 Rows.slipTrueSpec Rows.slipTrueRow=true:=j6 (j6 (j6 (j6 (j6 (j6 (j6 (j6 (j6 (j6 (j6 (j6 (j6 (j6 (j6 (j6 (j6 (j6 (j6 (j6 (j6 (j6 (j6 (j6 (j6 (j6 (j6 (j6 (j6 (j6 (j6 (xek) xe0) xfi) xet) xcf) xef) xdm) xc5) xc9) xew) xak) z6q) z6z) xao) z6x) xap) z7w) z7x) z7o) xaj) z8i) xac) xbt) z7f) z7a) z8o) xbj) z7d) z9o) xaf) z9v) z9d
end Go.Am.Sl
end
