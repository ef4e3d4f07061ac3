/-
 What is used in the proof of a statement (part DsM); no condition.
-/
import Derived.Test.YtnablaecbohhmaaGreatRows
import Derived.JoinedOf
import Derived.ProofKit
set_option linter.all false
/-
 Descent: the closed facts of DescentOneTree' row, limb by limb (in one piece they pass the kernel's memory).
-/
section
namespace Go.Am.Ds
open Go Go.Proofs Go.Proofs.YtnablaecbohhmaaGreat
set_option maxRecDepth 100000
theorem zb0 {a b:Bool}(h:a=true)(g:b=true):(a&&b)=true:=by rw[h,g];rfl
theorem z6r:(Rows.descentOneTreeRow.wf (OpenSpec.ofChange Rows.descentOneTreeSpec))=true:=by kernel_rfl
theorem z6j:(laidOutB Tryz.prog)=true:=by kernel_rfl
theorem xah:(mapsRowed Tryz.prog)=true:=by kernel_rfl
theorem xag:(Tryz.f19.params.all (Tryz.prog.readableRec ·))=true:=by kernel_rfl
theorem z7b:(namedTie Tryz.prog Rows.descentOneTreeRow.named Rows.descentOneTreeSpec.vars)=true:=by kernel_rfl
theorem xa8:((Rows.descentOneTreeRow.stops==[]))=true:=by kernel_rfl
theorem z7c:((Tryz.prog.stops==[]))=true:=by kernel_rfl
theorem z8b:((Rows.descentOneTreeRow.knobs==[]))=true:=by kernel_rfl
theorem xav:((Tryz.prog.stopKnobs==[]))=true:=by kernel_rfl
theorem xad:((Rows.descentOneTreeRow.inPlace==Tryz.prog.inPlace 19))=true:=by kernel_rfl
theorem z3m:((Rows.descentOneTreeRow.unfollowed==Tryz.prog.unfollowed 19))=true:=by kernel_rfl
theorem z5e:((Rows.descentOneTreeRow.recurses==Tryz.prog.recurses 19))=true:=by kernel_rfl
theorem z2x:((Rows.descentOneTreeRow.named==Tryz.prog.varsNamed 19))=true:=by kernel_rfl
theorem z3q:((Rows.descentOneTreeRow.maps==(Tryz.f19.params.toList++Rows.descentOneTreeSpec.plain.varTypes Tryz.prog).any (Tryz.prog.mapsRec ·)))=true:=by kernel_rfl
theorem z4g:((Rows.descentOneTreeRow.ifaces==(Tryz.f19.params.toList++Rows.descentOneTreeSpec.plain.varTypes Tryz.prog).any (Tryz.prog.ifacesRec ·)))=true:=by kernel_rfl
theorem z4c:((Rows.descentOneTreeRow.mapsOut==Tryz.prog.mapsAmong Tryz.f19.resultTypes.toList))=true:=by kernel_rfl
theorem z3k:((Rows.descentOneTreeRow.loops==(Tryz.f19.params.toList++Rows.descentOneTreeSpec.plain.varTypes Tryz.prog).any (Tryz.prog.loopsFrom ·)))=true:=by kernel_rfl
theorem z5c:((Rows.descentOneTreeRow.wideKeys==(Tryz.f19.params.toList++Rows.descentOneTreeSpec.plain.varTypes Tryz.prog++Tryz.f19.resultTypes.toList).any (Tryz.prog.wideKeysFrom ·)))=true:=by kernel_rfl
theorem z2g:(Rows.descentOneTreeSpec.vars.all (Tryz.prog.varReadable ·))=true:=by kernel_rfl
theorem z2m:(Tryz.f19.resultTypes.all (fun t=>Tryz.prog.readableRec t&&decide (t<Tryz.prog.types.size)))=true:=by kernel_rfl
theorem z2l:((Rows.descentOneTreeRow.ifacesOut==Tryz.f19.resultTypes.toList.any (Tryz.prog.ifacesRec ·)))=true:=by kernel_rfl
theorem z4n:((Rows.descentOneTreeRow.loopsOut==Tryz.f19.resultTypes.toList.any (Tryz.prog.loopsFrom ·)))=true:=by kernel_rfl
theorem z3e:((Rows.descentOneTreeRow.plainKeys==Tryz.prog.plainKeys))=true:=by kernel_rfl
theorem z4h:(Rows.descentOneTreeRow.shortTexts.isNone)=true:=by kernel_rfl
theorem z3h:(Tryz.prog.stopsHeard)=true:=by kernel_rfl
theorem z4o:(Tryz.prog.mayEnter)=true:=by kernel_rfl
theorem z3j:((Rows.descentOneTreeRow.lifted==Tryz.prog.liftsFinal))=true:=by kernel_rfl
theorem z2o:((Tryz.prog.make==some Rows.descentOneTreeRow.make))=true:=by kernel_rfl
theorem z4u:((Rows.descentOneTreeRow.kinds==(if Rows.descentOneTreeRow.domain.isEmpty then [] else Tryz.f19.params.toList.map fun t=>match Tryz.prog.underlying t with|some (.int k)=>some k|_=>none)))=true:=by kernel_rfl
theorem z4a:((Rows.descentOneTreeRow.pinned==Rows.descentOneTreeRow.pinnedBy))=true:=by kernel_rfl
theorem z5d:((Rows.descentOneTreeRow.veiled==(Tryz.f19.params.toList++Rows.descentOneTreeSpec.plain.varTypes Tryz.prog++Tryz.f19.resultTypes.toList).any (Tryz.prog.veiledRec ·)))=true:=by kernel_rfl
theorem z5b:(Rows.descentOneTreeRow.veiledFits Tryz.prog Tryz.f19.params.toList (Tryz.f19.params.toList++Rows.descentOneTreeSpec.plain.varTypes Tryz.prog++Tryz.f19.resultTypes.toList))=true:=by kernel_rfl
theorem zqf:joinedFacts Tryz.prog 19 Tryz.f19 Rows.descentOneTreeSpec Rows.descentOneTreeRow=true:=zb0 (zb0 (zb0 (zb0 (zb0 (zb0 (zb0 (zb0 (zb0 (zb0 (zb0 (zb0 (zb0 (zb0 (zb0 (zb0 (zb0 (zb0 (zb0 (zb0 (zb0 (zb0 (zb0 (zb0 (zb0 (zb0 (zb0 (zb0 (zb0 (zb0 (zb0 (z6r) z6j) xah) xag) z7b) xa8) z7c) z8b) xav) xad) z3m) z5e) z2x) z3q) z4g) z4c) z3k) z5c) z2g) z2m) z2l) z4n) z3e) z4h) z3h) z4o) z3j) z2o) z4u) z4a) z5d) z5b
end Go.Am.Ds
end
