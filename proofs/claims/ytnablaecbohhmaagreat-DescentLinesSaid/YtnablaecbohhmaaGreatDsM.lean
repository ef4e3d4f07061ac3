/-
  What is used in the proof of a statement (part DsM); no condition.
-/
import Derived.Test.YtnablaecbohhmaaGreatRows
import Derived.JoinedOf
import Derived.ProofKit
set_option linter.all false
namespace Go.Am.Ds
open Go Go.Proofs Go.Proofs.YtnablaecbohhmaaGreat
set_option maxRecDepth 100000
theorem and_t15 {a b : Bool} (h : a = true) (g : b = true) : (a && b) = true := by rw [h, g]; rfl
theorem jf15_0 : (Rows.descentLinesRow.wf (OpenSpec.ofChange Rows.descentLinesSpec)) = true := by kernel_rfl
theorem jf15_1 : (laidOutB Tryz.prog) = true := by kernel_rfl
theorem jf15_2 : (mapsRowed Tryz.prog) = true := by kernel_rfl
theorem jf15_3 : (Tryz.f15.params.all (Tryz.prog.readableRec ·)) = true := by kernel_rfl
theorem jf15_4 : (namedTie Tryz.prog Rows.descentLinesRow.named Rows.descentLinesSpec.vars) = true := by kernel_rfl
theorem jf15_5 : ((Rows.descentLinesRow.stops == [])) = true := by kernel_rfl
theorem jf15_6 : ((Tryz.prog.stops == [])) = true := by kernel_rfl
theorem jf15_7 : ((Rows.descentLinesRow.knobs == [])) = true := by kernel_rfl
theorem jf15_8 : ((Tryz.prog.stopKnobs == [])) = true := by kernel_rfl
theorem jf15_9 : ((Rows.descentLinesRow.inPlace == Tryz.prog.inPlace 15)) = true := by kernel_rfl
theorem jf15_10 : ((Rows.descentLinesRow.unfollowed == Tryz.prog.unfollowed 15)) = true := by kernel_rfl
theorem jf15_11 : ((Rows.descentLinesRow.recurses == Tryz.prog.recurses 15)) = true := by kernel_rfl
theorem jf15_12 : ((Rows.descentLinesRow.named == Tryz.prog.varsNamed 15)) = true := by kernel_rfl
theorem jf15_13 : ((Rows.descentLinesRow.maps == (Tryz.f15.params.toList ++ Rows.descentLinesSpec.plain.varTypes Tryz.prog).any (Tryz.prog.mapsRec ·))) = true := by kernel_rfl
theorem jf15_14 : ((Rows.descentLinesRow.ifaces == (Tryz.f15.params.toList ++ Rows.descentLinesSpec.plain.varTypes Tryz.prog).any (Tryz.prog.ifacesRec ·))) = true := by kernel_rfl
theorem jf15_15 : ((Rows.descentLinesRow.mapsOut == Tryz.prog.mapsAmong Tryz.f15.resultTypes.toList)) = true := by kernel_rfl
theorem jf15_16 : ((Rows.descentLinesRow.loops == (Tryz.f15.params.toList ++ Rows.descentLinesSpec.plain.varTypes Tryz.prog).any (Tryz.prog.loopsFrom ·))) = true := by kernel_rfl
theorem jf15_17 : ((Rows.descentLinesRow.wideKeys == (Tryz.f15.params.toList ++ Rows.descentLinesSpec.plain.varTypes Tryz.prog ++ Tryz.f15.resultTypes.toList).any (Tryz.prog.wideKeysFrom ·))) = true := by kernel_rfl
theorem jf15_18 : (Rows.descentLinesSpec.vars.all (Tryz.prog.varReadable ·)) = true := by kernel_rfl
theorem jf15_19 : (Tryz.f15.resultTypes.all (fun t => Tryz.prog.readableRec t && decide (t < Tryz.prog.types.size))) = true := by kernel_rfl
theorem jf15_20 : ((Rows.descentLinesRow.ifacesOut == Tryz.f15.resultTypes.toList.any (Tryz.prog.ifacesRec ·))) = true := by kernel_rfl
theorem jf15_21 : ((Rows.descentLinesRow.loopsOut == Tryz.f15.resultTypes.toList.any (Tryz.prog.loopsFrom ·))) = true := by kernel_rfl
theorem jf15_22 : ((Rows.descentLinesRow.plainKeys == Tryz.prog.plainKeys)) = true := by kernel_rfl
theorem jf15_23 : (Rows.descentLinesRow.shortTexts.isNone) = true := by kernel_rfl
theorem jf15_24 : (Tryz.prog.stopsHeard) = true := by kernel_rfl
theorem jf15_25 : (Tryz.prog.mayEnter) = true := by kernel_rfl
theorem jf15_26 : ((Rows.descentLinesRow.lifted == Tryz.prog.liftsFinal)) = true := by kernel_rfl
theorem jf15_27 : ((Tryz.prog.make == some Rows.descentLinesRow.make)) = true := by kernel_rfl
theorem jf15_28 : ((Rows.descentLinesRow.kinds == (if Rows.descentLinesRow.domain.isEmpty then [] else Tryz.f15.params.toList.map fun t => match Tryz.prog.underlying t with | some (.int k) => some k | _ => none))) = true := by kernel_rfl
theorem jf15_29 : ((Rows.descentLinesRow.pinned == Rows.descentLinesRow.pinnedBy)) = true := by kernel_rfl
theorem jf15_30 : ((Rows.descentLinesRow.veiled == (Tryz.f15.params.toList ++ Rows.descentLinesSpec.plain.varTypes Tryz.prog ++ Tryz.f15.resultTypes.toList).any (Tryz.prog.veiledRec ·))) = true := by kernel_rfl
theorem jf15_31 : (Rows.descentLinesRow.veiledFits Tryz.prog Tryz.f15.params.toList (Tryz.f15.params.toList ++ Rows.descentLinesSpec.plain.varTypes Tryz.prog ++ Tryz.f15.resultTypes.toList)) = true := by kernel_rfl
theorem linesClosed : joinedFacts Tryz.prog 15 Tryz.f15 Rows.descentLinesSpec Rows.descentLinesRow = true := and_t15 (and_t15 (and_t15 (and_t15 (and_t15 (and_t15 (and_t15 (and_t15 (and_t15 (and_t15 (and_t15 (and_t15 (and_t15 (and_t15 (and_t15 (and_t15 (and_t15 (and_t15 (and_t15 (and_t15 (and_t15 (and_t15 (and_t15 (and_t15 (and_t15 (and_t15 (and_t15 (and_t15 (and_t15 (and_t15 (and_t15 (jf15_0) jf15_1) jf15_2) jf15_3) jf15_4) jf15_5) jf15_6) jf15_7) jf15_8) jf15_9) jf15_10) jf15_11) jf15_12) jf15_13) jf15_14) jf15_15) jf15_16) jf15_17) jf15_18) jf15_19) jf15_20) jf15_21) jf15_22) jf15_23) jf15_24) jf15_25) jf15_26) jf15_27) jf15_28) jf15_29) jf15_30) jf15_31
end Go.Am.Ds
