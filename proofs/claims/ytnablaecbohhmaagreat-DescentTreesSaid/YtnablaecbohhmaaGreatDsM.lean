/-
 What is used in the proof of a statement (part DsM); no condition.
-/
import Derived.Test.YtnablaecbohhmaaGreatRows
import Derived.JoinedOf
import Derived.ProofKit
set_option linter.all false
/-
 Descent: the closed facts of DescentTrees' row, limb by limb (in one piece they pass the kernel's memory).
-/
section
namespace Go.Am.Ds
open Go Go.Proofs Go.Proofs.YtnablaecbohhmaaGreat
set_option maxRecDepth 100000
theorem zbs {a b:Bool}(h:a=true)(g:b=true):(a&&b)=true:=by rw[h,g];rfl
theorem xej:(Rows.descentTreesRow.wf (OpenSpec.ofChange Rows.descentTreesSpec))=true:=by kernel_rfl
theorem xe2:(laidOutB Tryz.prog)=true:=by kernel_rfl
theorem xe5:(mapsRowed Tryz.prog)=true:=by kernel_rfl
theorem xeo:(Tryz.f18.params.all (Tryz.prog.readableRec ·))=true:=by kernel_rfl
theorem xdi:(namedTie Tryz.prog Rows.descentTreesRow.named Rows.descentTreesSpec.vars)=true:=by kernel_rfl
theorem xeh:((Rows.descentTreesRow.stops==[]))=true:=by kernel_rfl
theorem xbs:((Tryz.prog.stops==[]))=true:=by kernel_rfl
theorem xcb:((Rows.descentTreesRow.knobs==[]))=true:=by kernel_rfl
theorem xb7:((Tryz.prog.stopKnobs==[]))=true:=by kernel_rfl
theorem xd0:((Rows.descentTreesRow.inPlace==Tryz.prog.inPlace 18))=true:=by kernel_rfl
theorem z8d:((Rows.descentTreesRow.unfollowed==Tryz.prog.unfollowed 18))=true:=by kernel_rfl
theorem z7w:((Rows.descentTreesRow.recurses==Tryz.prog.recurses 18))=true:=by kernel_rfl
theorem z9i:((Rows.descentTreesRow.named==Tryz.prog.varsNamed 18))=true:=by kernel_rfl
theorem z7p:((Rows.descentTreesRow.maps==(Tryz.f18.params.toList++Rows.descentTreesSpec.plain.varTypes Tryz.prog).any (Tryz.prog.mapsRec ·)))=true:=by kernel_rfl
theorem xab:((Rows.descentTreesRow.ifaces==(Tryz.f18.params.toList++Rows.descentTreesSpec.plain.varTypes Tryz.prog).any (Tryz.prog.ifacesRec ·)))=true:=by kernel_rfl
theorem z8t:((Rows.descentTreesRow.mapsOut==Tryz.prog.mapsAmong Tryz.f18.resultTypes.toList))=true:=by kernel_rfl
theorem z7i:((Rows.descentTreesRow.loops==(Tryz.f18.params.toList++Rows.descentTreesSpec.plain.varTypes Tryz.prog).any (Tryz.prog.loopsFrom ·)))=true:=by kernel_rfl
theorem z7s:((Rows.descentTreesRow.wideKeys==(Tryz.f18.params.toList++Rows.descentTreesSpec.plain.varTypes Tryz.prog++Tryz.f18.resultTypes.toList).any (Tryz.prog.wideKeysFrom ·)))=true:=by kernel_rfl
theorem z8s:(Rows.descentTreesSpec.vars.all (Tryz.prog.varReadable ·))=true:=by kernel_rfl
theorem z7n:(Tryz.f18.resultTypes.all (fun t=>Tryz.prog.readableRec t&&decide (t<Tryz.prog.types.size)))=true:=by kernel_rfl
theorem z9m:((Rows.descentTreesRow.ifacesOut==Tryz.f18.resultTypes.toList.any (Tryz.prog.ifacesRec ·)))=true:=by kernel_rfl
theorem z9q:((Rows.descentTreesRow.loopsOut==Tryz.f18.resultTypes.toList.any (Tryz.prog.loopsFrom ·)))=true:=by kernel_rfl
theorem xaj:((Rows.descentTreesRow.plainKeys==Tryz.prog.plainKeys))=true:=by kernel_rfl
theorem z7u:(Rows.descentTreesRow.shortTexts.isNone)=true:=by kernel_rfl
theorem z8b:(Tryz.prog.stopsHeard)=true:=by kernel_rfl
theorem z8v:(Tryz.prog.mayEnter)=true:=by kernel_rfl
theorem z8m:((Rows.descentTreesRow.lifted==Tryz.prog.liftsFinal))=true:=by kernel_rfl
theorem z9g:((Tryz.prog.make==some Rows.descentTreesRow.make))=true:=by kernel_rfl
theorem z8i:((Rows.descentTreesRow.kinds==(if Rows.descentTreesRow.domain.isEmpty then [] else Tryz.f18.params.toList.map fun t=>match Tryz.prog.underlying t with|some (.int k)=>some k|_=>none)))=true:=by kernel_rfl
theorem xao:((Rows.descentTreesRow.pinned==Rows.descentTreesRow.pinnedBy))=true:=by kernel_rfl
theorem z9o:((Rows.descentTreesRow.veiled==(Tryz.f18.params.toList++Rows.descentTreesSpec.plain.varTypes Tryz.prog++Tryz.f18.resultTypes.toList).any (Tryz.prog.veiledRec ·)))=true:=by kernel_rfl
theorem z9d:(Rows.descentTreesRow.veiledFits Tryz.prog Tryz.f18.params.toList (Tryz.f18.params.toList++Rows.descentTreesSpec.plain.varTypes Tryz.prog++Tryz.f18.resultTypes.toList))=true:=by kernel_rfl
theorem zuf:joinedFacts Tryz.prog 18 Tryz.f18 Rows.descentTreesSpec Rows.descentTreesRow=true:=zbs (zbs (zbs (zbs (zbs (zbs (zbs (zbs (zbs (zbs (zbs (zbs (zbs (zbs (zbs (zbs (zbs (zbs (zbs (zbs (zbs (zbs (zbs (zbs (zbs (zbs (zbs (zbs (zbs (zbs (zbs (xej) xe2) xe5) xeo) xdi) xeh) xbs) xcb) xb7) xd0) z8d) z7w) z9i) z7p) xab) z8t) z7i) z7s) z8s) z7n) z9m) z9q) xaj) z7u) z8b) z8v) z8m) z9g) z8i) xao) z9o) z9d
end Go.Am.Ds
end
