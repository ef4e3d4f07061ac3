/-
 What is used in the proof of a statement (part HiM); no condition.
-/
import Derived.Test.YtmgglkdilpglgaaGreatRows
import Derived.JoinedOf
import Derived.ProofKit
set_option linter.all false
/-
 Hire: the closed facts of HireLate' row, limb by limb (in one piece they pass the kernel's memory).
-/
section
namespace Go.Am.Hi
open Go Go.Proofs Go.Proofs.YtmgglkdilpglgaaGreat
set_option maxRecDepth 100000
theorem zeb {a b:Bool}(h:a=true)(g:b=true):(a&&b)=true:=by rw[h,g];rfl
theorem jf_0:(Rows.hireLateRow.wf (OpenSpec.ofChange Rows.hireLateSpec))=true:=by kernel_rfl
theorem jf_1:(laidOutB Tryz.prog)=true:=by kernel_rfl
theorem jf_2:(mapsRowed Tryz.prog)=true:=by kernel_rfl
theorem jf_3:(Tryz.f10.params.all (Tryz.prog.readableRec ·))=true:=by kernel_rfl
theorem jf_4:(namedTie Tryz.prog Rows.hireLateRow.named Rows.hireLateSpec.vars)=true:=by kernel_rfl
theorem jf_5:((Rows.hireLateRow.stops==[]))=true:=by kernel_rfl
theorem jf_6:((Tryz.prog.stops==[]))=true:=by kernel_rfl
theorem jf_7:((Rows.hireLateRow.knobs==[]))=true:=by kernel_rfl
theorem jf_8:((Tryz.prog.stopKnobs==[]))=true:=by kernel_rfl
theorem jf_9:((Rows.hireLateRow.inPlace==Tryz.prog.inPlace 10))=true:=by kernel_rfl
theorem xei:((Rows.hireLateRow.unfollowed==Tryz.prog.unfollowed 10))=true:=by kernel_rfl
theorem xb0:((Rows.hireLateRow.recurses==Tryz.prog.recurses 10))=true:=by kernel_rfl
theorem xb5:((Rows.hireLateRow.named==Tryz.prog.varsNamed 10))=true:=by kernel_rfl
theorem xc0:((Rows.hireLateRow.maps==(Tryz.f10.params.toList++Rows.hireLateSpec.plain.varTypes Tryz.prog).any (Tryz.prog.mapsRec ·)))=true:=by kernel_rfl
theorem xci:((Rows.hireLateRow.ifaces==(Tryz.f10.params.toList++Rows.hireLateSpec.plain.varTypes Tryz.prog).any (Tryz.prog.ifacesRec ·)))=true:=by kernel_rfl
theorem xby:((Rows.hireLateRow.mapsOut==Tryz.prog.mapsAmong Tryz.f10.resultTypes.toList))=true:=by kernel_rfl
theorem xdo:((Rows.hireLateRow.loops==(Tryz.f10.params.toList++Rows.hireLateSpec.plain.varTypes Tryz.prog).any (Tryz.prog.loopsFrom ·)))=true:=by kernel_rfl
theorem xbu:((Rows.hireLateRow.wideKeys==(Tryz.f10.params.toList++Rows.hireLateSpec.plain.varTypes Tryz.prog++Tryz.f10.resultTypes.toList).any (Tryz.prog.wideKeysFrom ·)))=true:=by kernel_rfl
theorem xb6:(Rows.hireLateSpec.vars.all (Tryz.prog.varReadable ·))=true:=by kernel_rfl
theorem xdd:(Tryz.f10.resultTypes.all (fun t=>Tryz.prog.readableRec t&&decide (t<Tryz.prog.types.size)))=true:=by kernel_rfl
theorem xcp:((Rows.hireLateRow.ifacesOut==Tryz.f10.resultTypes.toList.any (Tryz.prog.ifacesRec ·)))=true:=by kernel_rfl
theorem xdc:((Rows.hireLateRow.loopsOut==Tryz.f10.resultTypes.toList.any (Tryz.prog.loopsFrom ·)))=true:=by kernel_rfl
theorem xbr:((Rows.hireLateRow.plainKeys==Tryz.prog.plainKeys))=true:=by kernel_rfl
theorem xbn:(Rows.hireLateRow.shortTexts.isNone)=true:=by kernel_rfl
theorem xbj:(Tryz.prog.stopsHeard)=true:=by kernel_rfl
theorem xe2:(Tryz.prog.mayEnter)=true:=by kernel_rfl
theorem xdp:((Rows.hireLateRow.lifted==Tryz.prog.liftsFinal))=true:=by kernel_rfl
theorem xfm:((Tryz.prog.make==some Rows.hireLateRow.make))=true:=by kernel_rfl
theorem xeb:((Rows.hireLateRow.kinds==(if Rows.hireLateRow.domain.isEmpty then [] else Tryz.f10.params.toList.map fun t=>match Tryz.prog.underlying t with|some (.int k)=>some k|_=>none)))=true:=by kernel_rfl
theorem xb4:((Rows.hireLateRow.pinned==Rows.hireLateRow.pinnedBy))=true:=by kernel_rfl
theorem xdu:((Rows.hireLateRow.veiled==(Tryz.f10.params.toList++Rows.hireLateSpec.plain.varTypes Tryz.prog++Tryz.f10.resultTypes.toList).any (Tryz.prog.veiledRec ·)))=true:=by kernel_rfl
theorem xcs:(Rows.hireLateRow.veiledFits Tryz.prog Tryz.f10.params.toList (Tryz.f10.params.toList++Rows.hireLateSpec.plain.varTypes Tryz.prog++Tryz.f10.resultTypes.toList))=true:=by kernel_rfl
theorem zv3:joinedFacts Tryz.prog 10 Tryz.f10 Rows.hireLateSpec Rows.hireLateRow=true:=zeb (zeb (zeb (zeb (zeb (zeb (zeb (zeb (zeb (zeb (zeb (zeb (zeb (zeb (zeb (zeb (zeb (zeb (zeb (zeb (zeb (zeb (zeb (zeb (zeb (zeb (zeb (zeb (zeb (zeb (zeb (jf_0) jf_1) jf_2) jf_3) jf_4) jf_5) jf_6) jf_7) jf_8) jf_9) xei) xb0) xb5) xc0) xci) xby) xdo) xbu) xb6) xdd) xcp) xdc) xbr) xbn) xbj) xe2) xdp) xfm) xeb) xb4) xdu) xcs
end Go.Am.Hi
end
