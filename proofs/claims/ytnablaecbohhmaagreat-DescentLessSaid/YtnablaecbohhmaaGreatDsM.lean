/-
  What is used in the proof of a statement (part DsM); no condition.
-/
import Derived.Test.YtnablaecbohhmaaGreatRows
import Derived.JoinedOf
import Derived.ProofKit
set_option linter.all false
namespace Go.Am.Ds
open Go Go.Proofs Go.Proofs.YtnablaecbohhmaaGreat
set_option maxRecDepth 100000
theorem and_t5 {a b : Bool} (h : a = true) (g : b = true) : (a && b) = true := by rw [h, g]; rfl
theorem jf5_0 : (Rows.descentLessRow.wf (OpenSpec.ofChange Rows.descentLessSpec)) = true := by kernel_rfl
theorem jf5_1 : (laidOutB Tryz.prog) = true := by kernel_rfl
theorem jf5_2 : (mapsRowed Tryz.prog) = true := by kernel_rfl
theorem jf5_3 : (Tryz.f5.params.all (Tryz.prog.readableRec ·)) = true := by kernel_rfl
theorem jf5_4 : (namedTie Tryz.prog Rows.descentLessRow.named Rows.descentLessSpec.vars) = true := by kernel_rfl
theorem jf5_5 : ((Rows.descentLessRow.stops == [])) = true := by kernel_rfl
theorem jf5_6 : ((Tryz.prog.stops == [])) = true := by kernel_rfl
theorem jf5_7 : ((Rows.descentLessRow.knobs == [])) = true := by kernel_rfl
theorem jf5_8 : ((Tryz.prog.stopKnobs == [])) = true := by kernel_rfl
theorem jf5_9 : ((Rows.descentLessRow.inPlace == Tryz.prog.inPlace 5)) = true := by kernel_rfl
theorem jf5_10 : ((Rows.descentLessRow.unfollowed == Tryz.prog.unfollowed 5)) = true := by kernel_rfl
theorem jf5_11 : ((Rows.descentLessRow.recurses == Tryz.prog.recurses 5)) = true := by kernel_rfl
theorem jf5_12 : ((Rows.descentLessRow.named == Tryz.prog.varsNamed 5)) = true := by kernel_rfl
theorem jf5_13 : ((Rows.descentLessRow.maps == (Tryz.f5.params.toList ++ Rows.descentLessSpec.plain.varTypes Tryz.prog).any (Tryz.prog.mapsRec ·))) = true := by kernel_rfl
theorem jf5_14 : ((Rows.descentLessRow.ifaces == (Tryz.f5.params.toList ++ Rows.descentLessSpec.plain.varTypes Tryz.prog).any (Tryz.prog.ifacesRec ·))) = true := by kernel_rfl
theorem jf5_15 : ((Rows.descentLessRow.mapsOut == Tryz.prog.mapsAmong Tryz.f5.resultTypes.toList)) = true := by kernel_rfl
theorem jf5_16 : ((Rows.descentLessRow.loops == (Tryz.f5.params.toList ++ Rows.descentLessSpec.plain.varTypes Tryz.prog).any (Tryz.prog.loopsFrom ·))) = true := by kernel_rfl
theorem jf5_17 : ((Rows.descentLessRow.wideKeys == (Tryz.f5.params.toList ++ Rows.descentLessSpec.plain.varTypes Tryz.prog ++ Tryz.f5.resultTypes.toList).any (Tryz.prog.wideKeysFrom ·))) = true := by kernel_rfl
theorem jf5_18 : (Rows.descentLessSpec.vars.all (Tryz.prog.varReadable ·)) = true := by kernel_rfl
theorem jf5_19 : (Tryz.f5.resultTypes.all (fun t => Tryz.prog.readableRec t && decide (t < Tryz.prog.types.size))) = true := by kernel_rfl
theorem jf5_20 : ((Rows.descentLessRow.ifacesOut == Tryz.f5.resultTypes.toList.any (Tryz.prog.ifacesRec ·))) = true := by kernel_rfl
theorem jf5_21 : ((Rows.descentLessRow.loopsOut == Tryz.f5.resultTypes.toList.any (Tryz.prog.loopsFrom ·))) = true := by kernel_rfl
theorem jf5_22 : ((Rows.descentLessRow.plainKeys == Tryz.prog.plainKeys)) = true := by kernel_rfl
theorem jf5_23 : (Rows.descentLessRow.shortTexts.isNone) = true := by kernel_rfl
theorem jf5_24 : (Tryz.prog.stopsHeard) = true := by kernel_rfl
theorem jf5_25 : (Tryz.prog.mayEnter) = true := by kernel_rfl
theorem jf5_26 : ((Rows.descentLessRow.lifted == Tryz.prog.liftsFinal)) = true := by kernel_rfl
theorem jf5_27 : ((Tryz.prog.make == some Rows.descentLessRow.make)) = true := by kernel_rfl
theorem jf5_28 : ((Rows.descentLessRow.kinds == (if Rows.descentLessRow.domain.isEmpty then [] else Tryz.f5.params.toList.map fun t => match Tryz.prog.underlying t with | some (.int k) => some k | _ => none))) = true := by kernel_rfl
theorem jf5_29 : ((Rows.descentLessRow.pinned == Rows.descentLessRow.pinnedBy)) = true := by kernel_rfl
theorem jf5_30 : ((Rows.descentLessRow.veiled == (Tryz.f5.params.toList ++ Rows.descentLessSpec.plain.varTypes Tryz.prog ++ Tryz.f5.resultTypes.toList).any (Tryz.prog.veiledRec ·))) = true := by kernel_rfl
theorem jf5_31 : (Rows.descentLessRow.veiledFits Tryz.prog Tryz.f5.params.toList (Tryz.f5.params.toList ++ Rows.descentLessSpec.plain.varTypes Tryz.prog ++ Tryz.f5.resultTypes.toList)) = true := by kernel_rfl
theorem lessClosed : joinedFacts Tryz.prog 5 Tryz.f5 Rows.descentLessSpec Rows.descentLessRow = true := and_t5 (and_t5 (and_t5 (and_t5 (and_t5 (and_t5 (and_t5 (and_t5 (and_t5 (and_t5 (and_t5 (and_t5 (and_t5 (and_t5 (and_t5 (and_t5 (and_t5 (and_t5 (and_t5 (and_t5 (and_t5 (and_t5 (and_t5 (and_t5 (and_t5 (and_t5 (and_t5 (and_t5 (and_t5 (and_t5 (and_t5 (jf5_0) jf5_1) jf5_2) jf5_3) jf5_4) jf5_5) jf5_6) jf5_7) jf5_8) jf5_9) jf5_10) jf5_11) jf5_12) jf5_13) jf5_14) jf5_15) jf5_16) jf5_17) jf5_18) jf5_19) jf5_20) jf5_21) jf5_22) jf5_23) jf5_24) jf5_25) jf5_26) jf5_27) jf5_28) jf5_29) jf5_30) jf5_31
end Go.Am.Ds
