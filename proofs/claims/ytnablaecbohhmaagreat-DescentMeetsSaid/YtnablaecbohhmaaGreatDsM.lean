/-
  What is used in the proof of a statement (part DsM); no condition.
-/
import Derived.Test.YtnablaecbohhmaaGreatRows
import Derived.JoinedOf
import Derived.ProofKit
set_option linter.all false
namespace Go.Am.Ds
open Go Go.Proofs Go.Proofs.YtnablaecbohhmaaGreat
set_option maxRecDepth 100000
theorem and_t17 {a b : Bool} (h : a = true) (g : b = true) : (a && b) = true := by rw [h, g]; rfl
theorem jf17_0 : (Rows.descentMeetsRow.wf (OpenSpec.ofChange Rows.descentMeetsSpec)) = true := by kernel_rfl
theorem jf17_1 : (laidOutB Tryz.prog) = true := by kernel_rfl
theorem jf17_2 : (mapsRowed Tryz.prog) = true := by kernel_rfl
theorem jf17_3 : (Tryz.f17.params.all (Tryz.prog.readableRec ·)) = true := by kernel_rfl
theorem jf17_4 : (namedTie Tryz.prog Rows.descentMeetsRow.named Rows.descentMeetsSpec.vars) = true := by kernel_rfl
theorem jf17_5 : ((Rows.descentMeetsRow.stops == [])) = true := by kernel_rfl
theorem jf17_6 : ((Tryz.prog.stops == [])) = true := by kernel_rfl
theorem jf17_7 : ((Rows.descentMeetsRow.knobs == [])) = true := by kernel_rfl
theorem jf17_8 : ((Tryz.prog.stopKnobs == [])) = true := by kernel_rfl
theorem jf17_9 : ((Rows.descentMeetsRow.inPlace == Tryz.prog.inPlace 17)) = true := by kernel_rfl
theorem jf17_10 : ((Rows.descentMeetsRow.unfollowed == Tryz.prog.unfollowed 17)) = true := by kernel_rfl
theorem jf17_11 : ((Rows.descentMeetsRow.recurses == Tryz.prog.recurses 17)) = true := by kernel_rfl
theorem jf17_12 : ((Rows.descentMeetsRow.named == Tryz.prog.varsNamed 17)) = true := by kernel_rfl
theorem jf17_13 : ((Rows.descentMeetsRow.maps == (Tryz.f17.params.toList ++ Rows.descentMeetsSpec.plain.varTypes Tryz.prog).any (Tryz.prog.mapsRec ·))) = true := by kernel_rfl
theorem jf17_14 : ((Rows.descentMeetsRow.ifaces == (Tryz.f17.params.toList ++ Rows.descentMeetsSpec.plain.varTypes Tryz.prog).any (Tryz.prog.ifacesRec ·))) = true := by kernel_rfl
theorem jf17_15 : ((Rows.descentMeetsRow.mapsOut == Tryz.prog.mapsAmong Tryz.f17.resultTypes.toList)) = true := by kernel_rfl
theorem jf17_16 : ((Rows.descentMeetsRow.loops == (Tryz.f17.params.toList ++ Rows.descentMeetsSpec.plain.varTypes Tryz.prog).any (Tryz.prog.loopsFrom ·))) = true := by kernel_rfl
theorem jf17_17 : ((Rows.descentMeetsRow.wideKeys == (Tryz.f17.params.toList ++ Rows.descentMeetsSpec.plain.varTypes Tryz.prog ++ Tryz.f17.resultTypes.toList).any (Tryz.prog.wideKeysFrom ·))) = true := by kernel_rfl
theorem jf17_18 : (Rows.descentMeetsSpec.vars.all (Tryz.prog.varReadable ·)) = true := by kernel_rfl
theorem jf17_19 : (Tryz.f17.resultTypes.all (fun t => Tryz.prog.readableRec t && decide (t < Tryz.prog.types.size))) = true := by kernel_rfl
theorem jf17_20 : ((Rows.descentMeetsRow.ifacesOut == Tryz.f17.resultTypes.toList.any (Tryz.prog.ifacesRec ·))) = true := by kernel_rfl
theorem jf17_21 : ((Rows.descentMeetsRow.loopsOut == Tryz.f17.resultTypes.toList.any (Tryz.prog.loopsFrom ·))) = true := by kernel_rfl
theorem jf17_22 : ((Rows.descentMeetsRow.plainKeys == Tryz.prog.plainKeys)) = true := by kernel_rfl
theorem jf17_23 : (Rows.descentMeetsRow.shortTexts.isNone) = true := by kernel_rfl
theorem jf17_24 : (Tryz.prog.stopsHeard) = true := by kernel_rfl
theorem jf17_25 : (Tryz.prog.mayEnter) = true := by kernel_rfl
theorem jf17_26 : ((Rows.descentMeetsRow.lifted == Tryz.prog.liftsFinal)) = true := by kernel_rfl
theorem jf17_27 : ((Tryz.prog.make == some Rows.descentMeetsRow.make)) = true := by kernel_rfl
theorem jf17_28 : ((Rows.descentMeetsRow.kinds == (if Rows.descentMeetsRow.domain.isEmpty then [] else Tryz.f17.params.toList.map fun t => match Tryz.prog.underlying t with | some (.int k) => some k | _ => none))) = true := by kernel_rfl
theorem jf17_29 : ((Rows.descentMeetsRow.pinned == Rows.descentMeetsRow.pinnedBy)) = true := by kernel_rfl
theorem jf17_30 : ((Rows.descentMeetsRow.veiled == (Tryz.f17.params.toList ++ Rows.descentMeetsSpec.plain.varTypes Tryz.prog ++ Tryz.f17.resultTypes.toList).any (Tryz.prog.veiledRec ·))) = true := by kernel_rfl
theorem jf17_31 : (Rows.descentMeetsRow.veiledFits Tryz.prog Tryz.f17.params.toList (Tryz.f17.params.toList ++ Rows.descentMeetsSpec.plain.varTypes Tryz.prog ++ Tryz.f17.resultTypes.toList)) = true := by kernel_rfl
theorem meetsClosed : joinedFacts Tryz.prog 17 Tryz.f17 Rows.descentMeetsSpec Rows.descentMeetsRow = true := and_t17 (and_t17 (and_t17 (and_t17 (and_t17 (and_t17 (and_t17 (and_t17 (and_t17 (and_t17 (and_t17 (and_t17 (and_t17 (and_t17 (and_t17 (and_t17 (and_t17 (and_t17 (and_t17 (and_t17 (and_t17 (and_t17 (and_t17 (and_t17 (and_t17 (and_t17 (and_t17 (and_t17 (and_t17 (and_t17 (and_t17 (jf17_0) jf17_1) jf17_2) jf17_3) jf17_4) jf17_5) jf17_6) jf17_7) jf17_8) jf17_9) jf17_10) jf17_11) jf17_12) jf17_13) jf17_14) jf17_15) jf17_16) jf17_17) jf17_18) jf17_19) jf17_20) jf17_21) jf17_22) jf17_23) jf17_24) jf17_25) jf17_26) jf17_27) jf17_28) jf17_29) jf17_30) jf17_31
end Go.Am.Ds
