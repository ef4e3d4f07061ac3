/-
 What is used in the proof of a statement (part SlM9); no condition.
-/
import Derived.Test.YthnmgbgmlhackaaGreatDoorRows
import Derived.JoinedOf
import Derived.ProofKit
set_option linter.all false
section
namespace Go.Am.Sl
open Go Go.Proofs Go.Proofs.YthnmgbgmlhackaaGreatDoor
set_option maxRecDepth 100000
theorem mr {a b:Bool}(h:a=true)(g:b=true):(a&&b)=true:=by rw[h,g];rfl
theorem xko:(Rows.slipProvesRow.wf (OpenSpec.ofChange Rows.slipProvesSpec))=true:=by kernel_rfl
theorem xno:(laidOutB Tryz.prog)=true:=by kernel_rfl
theorem xm5:(mapsRowed Tryz.prog)=true:=by kernel_rfl
theorem xj7:(Tryz.f9.params.all (Tryz.prog.readableRec ·))=true:=by kernel_rfl
theorem xlv:(namedTie Tryz.prog Rows.slipProvesRow.named Rows.slipProvesSpec.vars)=true:=by kernel_rfl
theorem xl1:((Rows.slipProvesRow.stops==[]))=true:=by kernel_rfl
theorem xmr:((Tryz.prog.stops==[]))=true:=by kernel_rfl
theorem xne:((Rows.slipProvesRow.knobs==[]))=true:=by kernel_rfl
theorem xl5:((Tryz.prog.stopKnobs==[]))=true:=by kernel_rfl
theorem xmo:((Rows.slipProvesRow.inPlace==Tryz.prog.inPlace 9))=true:=by kernel_rfl
theorem xhl:((Rows.slipProvesRow.unfollowed==Tryz.prog.unfollowed 9))=true:=by kernel_rfl
theorem xiv:((Rows.slipProvesRow.recurses==Tryz.prog.recurses 9))=true:=by kernel_rfl
theorem xjr:((Rows.slipProvesRow.named==Tryz.prog.varsNamed 9))=true:=by kernel_rfl
theorem xhy:((Rows.slipProvesRow.maps==(Tryz.f9.params.toList++Rows.slipProvesSpec.plain.varTypes Tryz.prog).any (Tryz.prog.mapsRec ·)))=true:=by kernel_rfl
theorem xf4:((Rows.slipProvesRow.ifaces==(Tryz.f9.params.toList++Rows.slipProvesSpec.plain.varTypes Tryz.prog).any (Tryz.prog.ifacesRec ·)))=true:=by kernel_rfl
theorem xgx:((Rows.slipProvesRow.mapsOut==Tryz.prog.mapsAmong Tryz.f9.resultTypes.toList))=true:=by kernel_rfl
theorem xig:((Rows.slipProvesRow.loops==(Tryz.f9.params.toList++Rows.slipProvesSpec.plain.varTypes Tryz.prog).any (Tryz.prog.loopsFrom ·)))=true:=by kernel_rfl
theorem xij:((Rows.slipProvesRow.wideKeys==(Tryz.f9.params.toList++Rows.slipProvesSpec.plain.varTypes Tryz.prog++Tryz.f9.resultTypes.toList).any (Tryz.prog.wideKeysFrom ·)))=true:=by kernel_rfl
theorem xez:(Rows.slipProvesSpec.vars.all (Tryz.prog.varReadable ·))=true:=by kernel_rfl
theorem xjk:(Tryz.f9.resultTypes.all (fun t=>Tryz.prog.readableRec t&&decide (t<Tryz.prog.types.size)))=true:=by kernel_rfl
theorem xiq:((Rows.slipProvesRow.ifacesOut==Tryz.f9.resultTypes.toList.any (Tryz.prog.ifacesRec ·)))=true:=by kernel_rfl
theorem xfw:((Rows.slipProvesRow.loopsOut==Tryz.f9.resultTypes.toList.any (Tryz.prog.loopsFrom ·)))=true:=by kernel_rfl
theorem xet:((Rows.slipProvesRow.plainKeys==Tryz.prog.plainKeys))=true:=by kernel_rfl
theorem xfh:(Rows.slipProvesRow.shortTexts.isNone)=true:=by kernel_rfl
theorem xgg:(Tryz.prog.stopsHeard)=true:=by kernel_rfl
theorem xeh:(Tryz.prog.mayEnter)=true:=by kernel_rfl
theorem xej:((Rows.slipProvesRow.lifted==Tryz.prog.liftsFinal))=true:=by kernel_rfl
theorem xic:((Tryz.prog.make==some Rows.slipProvesRow.make))=true:=by kernel_rfl
theorem xhh:((Rows.slipProvesRow.kinds==(if Rows.slipProvesRow.domain.isEmpty then [] else Tryz.f9.params.toList.map fun t=>match Tryz.prog.underlying t with|some (.int k)=>some k|_=>none)))=true:=by kernel_rfl
theorem xje:((Rows.slipProvesRow.pinned==Rows.slipProvesRow.pinnedBy))=true:=by kernel_rfl
theorem xem:((Rows.slipProvesRow.veiled==(Tryz.f9.params.toList++Rows.slipProvesSpec.plain.varTypes Tryz.prog++Tryz.f9.resultTypes.toList).any (Tryz.prog.veiledRec ·)))=true:=by kernel_rfl
theorem xf7:(Rows.slipProvesRow.veiledFits Tryz.prog Tryz.f9.params.toList (Tryz.f9.params.toList++Rows.slipProvesSpec.plain.varTypes Tryz.prog++Tryz.f9.resultTypes.toList))=true:=by kernel_rfl
theorem zsu:joinedFacts Tryz.prog 9 Tryz.f9 Rows.slipProvesSpec Rows.slipProvesRow=true:=mr (mr (mr (mr (mr (mr (mr (mr (mr (mr (mr (mr (mr (mr (mr (mr (mr (mr (mr (mr (mr (mr (mr (mr (mr (mr (mr (mr (mr (mr (mr (xko) xno) xm5) xj7) xlv) xl1) xmr) xne) xl5) xmo) xhl) xiv) xjr) xhy) xf4) xgx) xig) xij) xez) xjk) xiq) xfw) xet) xfh) xgg) xeh) xej) xic) xhh) xje) xem) xf7
end Go.Am.Sl
end
