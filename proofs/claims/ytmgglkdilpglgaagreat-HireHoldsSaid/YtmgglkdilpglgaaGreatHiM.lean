/-
 What is used in the proof of a statement (part HiM); no condition.
-/
import Derived.Test.YtmgglkdilpglgaaGreatRows
import Derived.JoinedOf
import Derived.ProofKit
set_option linter.all false
/-
 Hire: the closed facts of HireHolds' row, limb by limb (in one piece they pass the kernel's memory).
-/
section
namespace Go.Am.Hi
open Go Go.Proofs Go.Proofs.YtmgglkdilpglgaaGreat
set_option maxRecDepth 100000
theorem and_t {a b:Bool} (h:a=true) (g:b=true):(a&&b)=true:=by rw[h,g];rfl
theorem jf_0:(Rows.hireHoldsRow.wf (OpenSpec.ofChange Rows.hireHoldsSpec))=true:=by kernel_rfl
theorem jf_1:(laidOutB Tryz.prog)=true:=by kernel_rfl
theorem jf_2:(mapsRowed Tryz.prog)=true:=by kernel_rfl
theorem jf_3:(Tryz.f3.params.all (Tryz.prog.readableRec ·))=true:=by kernel_rfl
theorem jf_4:(namedTie Tryz.prog Rows.hireHoldsRow.named Rows.hireHoldsSpec.vars)=true:=by kernel_rfl
theorem jf_5:((Rows.hireHoldsRow.stops==[]))=true:=by kernel_rfl
theorem jf_6:((Tryz.prog.stops==[]))=true:=by kernel_rfl
theorem jf_7:((Rows.hireHoldsRow.knobs==[]))=true:=by kernel_rfl
theorem jf_8:((Tryz.prog.stopKnobs==[]))=true:=by kernel_rfl
theorem jf_9:((Rows.hireHoldsRow.inPlace==Tryz.prog.inPlace 3))=true:=by kernel_rfl
theorem jf_10:((Rows.hireHoldsRow.unfollowed==Tryz.prog.unfollowed 3))=true:=by kernel_rfl
theorem jf_11:((Rows.hireHoldsRow.recurses==Tryz.prog.recurses 3))=true:=by kernel_rfl
theorem jf_12:((Rows.hireHoldsRow.named==Tryz.prog.varsNamed 3))=true:=by kernel_rfl
theorem jf_13:((Rows.hireHoldsRow.maps==(Tryz.f3.params.toList++Rows.hireHoldsSpec.plain.varTypes Tryz.prog).any (Tryz.prog.mapsRec ·)))=true:=by kernel_rfl
theorem jf_14:((Rows.hireHoldsRow.ifaces==(Tryz.f3.params.toList++Rows.hireHoldsSpec.plain.varTypes Tryz.prog).any (Tryz.prog.ifacesRec ·)))=true:=by kernel_rfl
theorem jf_15:((Rows.hireHoldsRow.mapsOut==Tryz.prog.mapsAmong Tryz.f3.resultTypes.toList))=true:=by kernel_rfl
theorem jf_16:((Rows.hireHoldsRow.loops==(Tryz.f3.params.toList++Rows.hireHoldsSpec.plain.varTypes Tryz.prog).any (Tryz.prog.loopsFrom ·)))=true:=by kernel_rfl
theorem jf_17:((Rows.hireHoldsRow.wideKeys==(Tryz.f3.params.toList++Rows.hireHoldsSpec.plain.varTypes Tryz.prog++Tryz.f3.resultTypes.toList).any (Tryz.prog.wideKeysFrom ·)))=true:=by kernel_rfl
theorem jf_18:(Rows.hireHoldsSpec.vars.all (Tryz.prog.varReadable ·))=true:=by kernel_rfl
theorem jf_19:(Tryz.f3.resultTypes.all (fun t=>Tryz.prog.readableRec t&&decide (t<Tryz.prog.types.size)))=true:=by kernel_rfl
theorem jf_20:((Rows.hireHoldsRow.ifacesOut==Tryz.f3.resultTypes.toList.any (Tryz.prog.ifacesRec ·)))=true:=by kernel_rfl
theorem jf_21:((Rows.hireHoldsRow.loopsOut==Tryz.f3.resultTypes.toList.any (Tryz.prog.loopsFrom ·)))=true:=by kernel_rfl
theorem jf_22:((Rows.hireHoldsRow.plainKeys==Tryz.prog.plainKeys))=true:=by kernel_rfl
theorem jf_23:(Rows.hireHoldsRow.shortTexts.isNone)=true:=by kernel_rfl
theorem jf_24:(Tryz.prog.stopsHeard)=true:=by kernel_rfl
theorem jf_25:(Tryz.prog.mayEnter)=true:=by kernel_rfl
theorem jf_26:((Rows.hireHoldsRow.lifted==Tryz.prog.liftsFinal))=true:=by kernel_rfl
theorem jf_27:((Tryz.prog.make==some Rows.hireHoldsRow.make))=true:=by kernel_rfl
theorem jf_28:((Rows.hireHoldsRow.kinds==(if Rows.hireHoldsRow.domain.isEmpty then [] else Tryz.f3.params.toList.map fun t=>match Tryz.prog.underlying t with|some (.int k)=>some k|_=>none)))=true:=by kernel_rfl
theorem jf_29:((Rows.hireHoldsRow.pinned==Rows.hireHoldsRow.pinnedBy))=true:=by kernel_rfl
theorem jf_30:((Rows.hireHoldsRow.veiled==(Tryz.f3.params.toList++Rows.hireHoldsSpec.plain.varTypes Tryz.prog++Tryz.f3.resultTypes.toList).any (Tryz.prog.veiledRec ·)))=true:=by kernel_rfl
theorem jf_31:(Rows.hireHoldsRow.veiledFits Tryz.prog Tryz.f3.params.toList (Tryz.f3.params.toList++Rows.hireHoldsSpec.plain.varTypes Tryz.prog++Tryz.f3.resultTypes.toList))=true:=by kernel_rfl
theorem holdsClosed:joinedFacts Tryz.prog 3 Tryz.f3 Rows.hireHoldsSpec Rows.hireHoldsRow=true:=and_t (and_t (and_t (and_t (and_t (and_t (and_t (and_t (and_t (and_t (and_t (and_t (and_t (and_t (and_t (and_t (and_t (and_t (and_t (and_t (and_t (and_t (and_t (and_t (and_t (and_t (and_t (and_t (and_t (and_t (and_t (jf_0) jf_1) jf_2) jf_3) jf_4) jf_5) jf_6) jf_7) jf_8) jf_9) jf_10) jf_11) jf_12) jf_13) jf_14) jf_15) jf_16) jf_17) jf_18) jf_19) jf_20) jf_21) jf_22) jf_23) jf_24) jf_25) jf_26) jf_27) jf_28) jf_29) jf_30) jf_31
end Go.Am.Hi
end
