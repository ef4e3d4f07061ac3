/-
  What is used in the proof of a statement (part DsM); no condition.
-/
import Derived.Test.YtnablaecbohhmaaGreatRows
import Derived.JoinedOf
import Derived.ProofKit
set_option linter.all false
namespace Go.Am.Ds
open Go Go.Proofs Go.Proofs.YtnablaecbohhmaaGreat
set_option maxRecDepth 100000
theorem and_t8 {a b : Bool} (h : a = true) (g : b = true) : (a && b) = true := by rw [h, g]; rfl
theorem jf8_0 : (Rows.descentSetsRow.wf (OpenSpec.ofChange Rows.descentSetsSpec)) = true := by kernel_rfl
theorem jf8_1 : (laidOutB Tryz.prog) = true := by kernel_rfl
theorem jf8_2 : (mapsRowed Tryz.prog) = true := by kernel_rfl
theorem jf8_3 : (Tryz.f8.params.all (Tryz.prog.readableRec ·)) = true := by kernel_rfl
theorem jf8_4 : (namedTie Tryz.prog Rows.descentSetsRow.named Rows.descentSetsSpec.vars) = true := by kernel_rfl
theorem jf8_5 : ((Rows.descentSetsRow.stops == [])) = true := by kernel_rfl
theorem jf8_6 : ((Tryz.prog.stops == [])) = true := by kernel_rfl
theorem jf8_7 : ((Rows.descentSetsRow.knobs == [])) = true := by kernel_rfl
theorem jf8_8 : ((Tryz.prog.stopKnobs == [])) = true := by kernel_rfl
theorem jf8_9 : ((Rows.descentSetsRow.inPlace == Tryz.prog.inPlace 8)) = true := by kernel_rfl
theorem jf8_10 : ((Rows.descentSetsRow.unfollowed == Tryz.prog.unfollowed 8)) = true := by kernel_rfl
theorem jf8_11 : ((Rows.descentSetsRow.recurses == Tryz.prog.recurses 8)) = true := by kernel_rfl
theorem jf8_12 : ((Rows.descentSetsRow.named == Tryz.prog.varsNamed 8)) = true := by kernel_rfl
theorem jf8_13 : ((Rows.descentSetsRow.maps == (Tryz.f8.params.toList ++ Rows.descentSetsSpec.plain.varTypes Tryz.prog).any (Tryz.prog.mapsRec ·))) = true := by kernel_rfl
theorem jf8_14 : ((Rows.descentSetsRow.ifaces == (Tryz.f8.params.toList ++ Rows.descentSetsSpec.plain.varTypes Tryz.prog).any (Tryz.prog.ifacesRec ·))) = true := by kernel_rfl
theorem jf8_15 : ((Rows.descentSetsRow.mapsOut == Tryz.prog.mapsAmong Tryz.f8.resultTypes.toList)) = true := by kernel_rfl
theorem jf8_16 : ((Rows.descentSetsRow.loops == (Tryz.f8.params.toList ++ Rows.descentSetsSpec.plain.varTypes Tryz.prog).any (Tryz.prog.loopsFrom ·))) = true := by kernel_rfl
theorem jf8_17 : ((Rows.descentSetsRow.wideKeys == (Tryz.f8.params.toList ++ Rows.descentSetsSpec.plain.varTypes Tryz.prog ++ Tryz.f8.resultTypes.toList).any (Tryz.prog.wideKeysFrom ·))) = true := by kernel_rfl
theorem jf8_18 : (Rows.descentSetsSpec.vars.all (Tryz.prog.varReadable ·)) = true := by kernel_rfl
theorem jf8_19 : (Tryz.f8.resultTypes.all (fun t => Tryz.prog.readableRec t && decide (t < Tryz.prog.types.size))) = true := by kernel_rfl
theorem jf8_20 : ((Rows.descentSetsRow.ifacesOut == Tryz.f8.resultTypes.toList.any (Tryz.prog.ifacesRec ·))) = true := by kernel_rfl
theorem jf8_21 : ((Rows.descentSetsRow.loopsOut == Tryz.f8.resultTypes.toList.any (Tryz.prog.loopsFrom ·))) = true := by kernel_rfl
theorem jf8_22 : ((Rows.descentSetsRow.plainKeys == Tryz.prog.plainKeys)) = true := by kernel_rfl
theorem jf8_23 : (Rows.descentSetsRow.shortTexts.isNone) = true := by kernel_rfl
theorem jf8_24 : (Tryz.prog.stopsHeard) = true := by kernel_rfl
theorem jf8_25 : (Tryz.prog.mayEnter) = true := by kernel_rfl
theorem jf8_26 : ((Rows.descentSetsRow.lifted == Tryz.prog.liftsFinal)) = true := by kernel_rfl
theorem jf8_27 : ((Tryz.prog.make == some Rows.descentSetsRow.make)) = true := by kernel_rfl
theorem jf8_28 : ((Rows.descentSetsRow.kinds == (if Rows.descentSetsRow.domain.isEmpty then [] else Tryz.f8.params.toList.map fun t => match Tryz.prog.underlying t with | some (.int k) => some k | _ => none))) = true := by kernel_rfl
theorem jf8_29 : ((Rows.descentSetsRow.pinned == Rows.descentSetsRow.pinnedBy)) = true := by kernel_rfl
theorem jf8_30 : ((Rows.descentSetsRow.veiled == (Tryz.f8.params.toList ++ Rows.descentSetsSpec.plain.varTypes Tryz.prog ++ Tryz.f8.resultTypes.toList).any (Tryz.prog.veiledRec ·))) = true := by kernel_rfl
theorem jf8_31 : (Rows.descentSetsRow.veiledFits Tryz.prog Tryz.f8.params.toList (Tryz.f8.params.toList ++ Rows.descentSetsSpec.plain.varTypes Tryz.prog ++ Tryz.f8.resultTypes.toList)) = true := by kernel_rfl
theorem setsClosed : joinedFacts Tryz.prog 8 Tryz.f8 Rows.descentSetsSpec Rows.descentSetsRow = true := and_t8 (and_t8 (and_t8 (and_t8 (and_t8 (and_t8 (and_t8 (and_t8 (and_t8 (and_t8 (and_t8 (and_t8 (and_t8 (and_t8 (and_t8 (and_t8 (and_t8 (and_t8 (and_t8 (and_t8 (and_t8 (and_t8 (and_t8 (and_t8 (and_t8 (and_t8 (and_t8 (and_t8 (and_t8 (and_t8 (and_t8 (jf8_0) jf8_1) jf8_2) jf8_3) jf8_4) jf8_5) jf8_6) jf8_7) jf8_8) jf8_9) jf8_10) jf8_11) jf8_12) jf8_13) jf8_14) jf8_15) jf8_16) jf8_17) jf8_18) jf8_19) jf8_20) jf8_21) jf8_22) jf8_23) jf8_24) jf8_25) jf8_26) jf8_27) jf8_28) jf8_29) jf8_30) jf8_31
end Go.Am.Ds
