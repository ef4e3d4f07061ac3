/-
  What is used in the proof of a statement (part DsM); no condition.
-/
import Derived.Test.YtnablaecbohhmaaGreatRows
import Derived.JoinedOf
import Derived.ProofKit
set_option linter.all false
namespace Go.Am.Ds
open Go Go.Proofs Go.Proofs.YtnablaecbohhmaaGreat
set_option maxRecDepth 100000
theorem and_t16 {a b : Bool} (h : a = true) (g : b = true) : (a && b) = true := by rw [h, g]; rfl
theorem jf16_0 : (Rows.descentPathsRow.wf (OpenSpec.ofChange Rows.descentPathsSpec)) = true := by kernel_rfl
theorem jf16_1 : (laidOutB Tryz.prog) = true := by kernel_rfl
theorem jf16_2 : (mapsRowed Tryz.prog) = true := by kernel_rfl
theorem jf16_3 : (Tryz.f16.params.all (Tryz.prog.readableRec ·)) = true := by kernel_rfl
theorem jf16_4 : (namedTie Tryz.prog Rows.descentPathsRow.named Rows.descentPathsSpec.vars) = true := by kernel_rfl
theorem jf16_5 : ((Rows.descentPathsRow.stops == [])) = true := by kernel_rfl
theorem jf16_6 : ((Tryz.prog.stops == [])) = true := by kernel_rfl
theorem jf16_7 : ((Rows.descentPathsRow.knobs == [])) = true := by kernel_rfl
theorem jf16_8 : ((Tryz.prog.stopKnobs == [])) = true := by kernel_rfl
theorem jf16_9 : ((Rows.descentPathsRow.inPlace == Tryz.prog.inPlace 16)) = true := by kernel_rfl
theorem jf16_10 : ((Rows.descentPathsRow.unfollowed == Tryz.prog.unfollowed 16)) = true := by kernel_rfl
theorem jf16_11 : ((Rows.descentPathsRow.recurses == Tryz.prog.recurses 16)) = true := by kernel_rfl
theorem jf16_12 : ((Rows.descentPathsRow.named == Tryz.prog.varsNamed 16)) = true := by kernel_rfl
theorem jf16_13 : ((Rows.descentPathsRow.maps == (Tryz.f16.params.toList ++ Rows.descentPathsSpec.plain.varTypes Tryz.prog).any (Tryz.prog.mapsRec ·))) = true := by kernel_rfl
theorem jf16_14 : ((Rows.descentPathsRow.ifaces == (Tryz.f16.params.toList ++ Rows.descentPathsSpec.plain.varTypes Tryz.prog).any (Tryz.prog.ifacesRec ·))) = true := by kernel_rfl
theorem jf16_15 : ((Rows.descentPathsRow.mapsOut == Tryz.prog.mapsAmong Tryz.f16.resultTypes.toList)) = true := by kernel_rfl
theorem jf16_16 : ((Rows.descentPathsRow.loops == (Tryz.f16.params.toList ++ Rows.descentPathsSpec.plain.varTypes Tryz.prog).any (Tryz.prog.loopsFrom ·))) = true := by kernel_rfl
theorem jf16_17 : ((Rows.descentPathsRow.wideKeys == (Tryz.f16.params.toList ++ Rows.descentPathsSpec.plain.varTypes Tryz.prog ++ Tryz.f16.resultTypes.toList).any (Tryz.prog.wideKeysFrom ·))) = true := by kernel_rfl
theorem jf16_18 : (Rows.descentPathsSpec.vars.all (Tryz.prog.varReadable ·)) = true := by kernel_rfl
theorem jf16_19 : (Tryz.f16.resultTypes.all (fun t => Tryz.prog.readableRec t && decide (t < Tryz.prog.types.size))) = true := by kernel_rfl
theorem jf16_20 : ((Rows.descentPathsRow.ifacesOut == Tryz.f16.resultTypes.toList.any (Tryz.prog.ifacesRec ·))) = true := by kernel_rfl
theorem jf16_21 : ((Rows.descentPathsRow.loopsOut == Tryz.f16.resultTypes.toList.any (Tryz.prog.loopsFrom ·))) = true := by kernel_rfl
theorem jf16_22 : ((Rows.descentPathsRow.plainKeys == Tryz.prog.plainKeys)) = true := by kernel_rfl
theorem jf16_23 : (Rows.descentPathsRow.shortTexts.isNone) = true := by kernel_rfl
theorem jf16_24 : (Tryz.prog.stopsHeard) = true := by kernel_rfl
theorem jf16_25 : (Tryz.prog.mayEnter) = true := by kernel_rfl
theorem jf16_26 : ((Rows.descentPathsRow.lifted == Tryz.prog.liftsFinal)) = true := by kernel_rfl
theorem jf16_27 : ((Tryz.prog.make == some Rows.descentPathsRow.make)) = true := by kernel_rfl
theorem jf16_28 : ((Rows.descentPathsRow.kinds == (if Rows.descentPathsRow.domain.isEmpty then [] else Tryz.f16.params.toList.map fun t => match Tryz.prog.underlying t with | some (.int k) => some k | _ => none))) = true := by kernel_rfl
theorem jf16_29 : ((Rows.descentPathsRow.pinned == Rows.descentPathsRow.pinnedBy)) = true := by kernel_rfl
theorem jf16_30 : ((Rows.descentPathsRow.veiled == (Tryz.f16.params.toList ++ Rows.descentPathsSpec.plain.varTypes Tryz.prog ++ Tryz.f16.resultTypes.toList).any (Tryz.prog.veiledRec ·))) = true := by kernel_rfl
theorem jf16_31 : (Rows.descentPathsRow.veiledFits Tryz.prog Tryz.f16.params.toList (Tryz.f16.params.toList ++ Rows.descentPathsSpec.plain.varTypes Tryz.prog ++ Tryz.f16.resultTypes.toList)) = true := by kernel_rfl
theorem pathsClosed : joinedFacts Tryz.prog 16 Tryz.f16 Rows.descentPathsSpec Rows.descentPathsRow = true := and_t16 (and_t16 (and_t16 (and_t16 (and_t16 (and_t16 (and_t16 (and_t16 (and_t16 (and_t16 (and_t16 (and_t16 (and_t16 (and_t16 (and_t16 (and_t16 (and_t16 (and_t16 (and_t16 (and_t16 (and_t16 (and_t16 (and_t16 (and_t16 (and_t16 (and_t16 (and_t16 (and_t16 (and_t16 (and_t16 (and_t16 (jf16_0) jf16_1) jf16_2) jf16_3) jf16_4) jf16_5) jf16_6) jf16_7) jf16_8) jf16_9) jf16_10) jf16_11) jf16_12) jf16_13) jf16_14) jf16_15) jf16_16) jf16_17) jf16_18) jf16_19) jf16_20) jf16_21) jf16_22) jf16_23) jf16_24) jf16_25) jf16_26) jf16_27) jf16_28) jf16_29) jf16_30) jf16_31
end Go.Am.Ds
