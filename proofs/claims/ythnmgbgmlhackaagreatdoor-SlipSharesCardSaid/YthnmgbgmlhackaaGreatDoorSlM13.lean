/-
 What is used in the proof of a statement (part SlM13); no condition.
-/
import Derived.Test.YthnmgbgmlhackaaGreatDoorRows
import Derived.JoinedOf
import Derived.ProofKit
set_option linter.all false
section
namespace Go.Am.Sl
open Go Go.Proofs Go.Proofs.YthnmgbgmlhackaaGreatDoor
set_option maxRecDepth 100000
theorem jn {a b:Bool}(h:a=true)(g:b=true):(a&&b)=true:=by rw[h,g];rfl
theorem xak:(Rows.slipSharesRow.wf (OpenSpec.ofChange Rows.slipSharesSpec))=true:=by kernel_rfl
theorem z8w:(laidOutB Tryz.prog)=true:=by kernel_rfl
theorem xad:(mapsRowed Tryz.prog)=true:=by kernel_rfl
theorem z8g:(Tryz.f13.params.all (Tryz.prog.readableRec ·))=true:=by kernel_rfl
theorem z8i:(namedTie Tryz.prog Rows.slipSharesRow.named Rows.slipSharesSpec.vars)=true:=by kernel_rfl
theorem xab:((Rows.slipSharesRow.stops==[]))=true:=by kernel_rfl
theorem z7p:((Tryz.prog.stops==[]))=true:=by kernel_rfl
theorem z8a:((Rows.slipSharesRow.knobs==[]))=true:=by kernel_rfl
theorem z8o:((Tryz.prog.stopKnobs==[]))=true:=by kernel_rfl
theorem xai:((Rows.slipSharesRow.inPlace==Tryz.prog.inPlace 13))=true:=by kernel_rfl
theorem z5h:((Rows.slipSharesRow.unfollowed==Tryz.prog.unfollowed 13))=true:=by kernel_rfl
theorem z3g:((Rows.slipSharesRow.recurses==Tryz.prog.recurses 13))=true:=by kernel_rfl
theorem z6u:((Rows.slipSharesRow.named==Tryz.prog.varsNamed 13))=true:=by kernel_rfl
theorem z3m:((Rows.slipSharesRow.maps==(Tryz.f13.params.toList++Rows.slipSharesSpec.plain.varTypes Tryz.prog).any (Tryz.prog.mapsRec ·)))=true:=by kernel_rfl
theorem z6m:((Rows.slipSharesRow.ifaces==(Tryz.f13.params.toList++Rows.slipSharesSpec.plain.varTypes Tryz.prog).any (Tryz.prog.ifacesRec ·)))=true:=by kernel_rfl
theorem z5c:((Rows.slipSharesRow.mapsOut==Tryz.prog.mapsAmong Tryz.f13.resultTypes.toList))=true:=by kernel_rfl
theorem z4r:((Rows.slipSharesRow.loops==(Tryz.f13.params.toList++Rows.slipSharesSpec.plain.varTypes Tryz.prog).any (Tryz.prog.loopsFrom ·)))=true:=by kernel_rfl
theorem z5x:((Rows.slipSharesRow.wideKeys==(Tryz.f13.params.toList++Rows.slipSharesSpec.plain.varTypes Tryz.prog++Tryz.f13.resultTypes.toList).any (Tryz.prog.wideKeysFrom ·)))=true:=by kernel_rfl
theorem z6o:(Rows.slipSharesSpec.vars.all (Tryz.prog.varReadable ·))=true:=by kernel_rfl
theorem z3u:(Tryz.f13.resultTypes.all (fun t=>Tryz.prog.readableRec t&&decide (t<Tryz.prog.types.size)))=true:=by kernel_rfl
theorem z4s:((Rows.slipSharesRow.ifacesOut==Tryz.f13.resultTypes.toList.any (Tryz.prog.ifacesRec ·)))=true:=by kernel_rfl
theorem z4f:((Rows.slipSharesRow.loopsOut==Tryz.f13.resultTypes.toList.any (Tryz.prog.loopsFrom ·)))=true:=by kernel_rfl
theorem z3e:((Rows.slipSharesRow.plainKeys==Tryz.prog.plainKeys))=true:=by kernel_rfl
theorem z6g:(Rows.slipSharesRow.shortTexts.isNone)=true:=by kernel_rfl
theorem z5g:(Tryz.prog.stopsHeard)=true:=by kernel_rfl
theorem z4a:(Tryz.prog.mayEnter)=true:=by kernel_rfl
theorem z3p:((Rows.slipSharesRow.lifted==Tryz.prog.liftsFinal))=true:=by kernel_rfl
theorem z5n:((Tryz.prog.make==some Rows.slipSharesRow.make))=true:=by kernel_rfl
theorem z4g:((Rows.slipSharesRow.kinds==(if Rows.slipSharesRow.domain.isEmpty then [] else Tryz.f13.params.toList.map fun t=>match Tryz.prog.underlying t with|some (.int k)=>some k|_=>none)))=true:=by kernel_rfl
theorem z5p:((Rows.slipSharesRow.pinned==Rows.slipSharesRow.pinnedBy))=true:=by kernel_rfl
theorem z3k:((Rows.slipSharesRow.veiled==(Tryz.f13.params.toList++Rows.slipSharesSpec.plain.varTypes Tryz.prog++Tryz.f13.resultTypes.toList).any (Tryz.prog.veiledRec ·)))=true:=by kernel_rfl
theorem z5i:(Rows.slipSharesRow.veiledFits Tryz.prog Tryz.f13.params.toList (Tryz.f13.params.toList++Rows.slipSharesSpec.plain.varTypes Tryz.prog++Tryz.f13.resultTypes.toList))=true:=by kernel_rfl
theorem zp7:joinedFacts Tryz.prog 13 Tryz.f13 Rows.slipSharesSpec Rows.slipSharesRow=true:=jn (jn (jn (jn (jn (jn (jn (jn (jn (jn (jn (jn (jn (jn (jn (jn (jn (jn (jn (jn (jn (jn (jn (jn (jn (jn (jn (jn (jn (jn (jn (xak) z8w) xad) z8g) z8i) xab) z7p) z8a) z8o) xai) z5h) z3g) z6u) z3m) z6m) z5c) z4r) z5x) z6o) z3u) z4s) z4f) z3e) z6g) z5g) z4a) z3p) z5n) z4g) z5p) z3k) z5i
end Go.Am.Sl
end
