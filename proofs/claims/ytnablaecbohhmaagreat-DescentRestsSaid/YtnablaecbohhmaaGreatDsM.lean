/-
  What is used in the proof of a statement (part DsM); no condition.
-/
import Derived.Test.YtnablaecbohhmaaGreatRows
import Derived.JoinedOf
import Derived.ProofKit
set_option linter.all false
namespace Go.Am.Ds
open Go Go.Proofs Go.Proofs.YtnablaecbohhmaaGreat
set_option maxRecDepth 100000
theorem and_t10 {a b : Bool} (h : a = true) (g : b = true) : (a && b) = true := by rw [h, g]; rfl
theorem jf10_0 : (Rows.descentRestsRow.wf (OpenSpec.ofChange Rows.descentRestsSpec)) = true := by kernel_rfl
theorem jf10_1 : (laidOutB Tryz.prog) = true := by kernel_rfl
theorem jf10_2 : (mapsRowed Tryz.prog) = true := by kernel_rfl
theorem jf10_3 : (Tryz.f10.params.all (Tryz.prog.readableRec ·)) = true := by kernel_rfl
theorem jf10_4 : (namedTie Tryz.prog Rows.descentRestsRow.named Rows.descentRestsSpec.vars) = true := by kernel_rfl
theorem jf10_5 : ((Rows.descentRestsRow.stops == [])) = true := by kernel_rfl
theorem jf10_6 : ((Tryz.prog.stops == [])) = true := by kernel_rfl
theorem jf10_7 : ((Rows.descentRestsRow.knobs == [])) = true := by kernel_rfl
theorem jf10_8 : ((Tryz.prog.stopKnobs == [])) = true := by kernel_rfl
theorem jf10_9 : ((Rows.descentRestsRow.inPlace == Tryz.prog.inPlace 10)) = true := by kernel_rfl
theorem jf10_10 : ((Rows.descentRestsRow.unfollowed == Tryz.prog.unfollowed 10)) = true := by kernel_rfl
theorem jf10_11 : ((Rows.descentRestsRow.recurses == Tryz.prog.recurses 10)) = true := by kernel_rfl
theorem jf10_12 : ((Rows.descentRestsRow.named == Tryz.prog.varsNamed 10)) = true := by kernel_rfl
theorem jf10_13 : ((Rows.descentRestsRow.maps == (Tryz.f10.params.toList ++ Rows.descentRestsSpec.plain.varTypes Tryz.prog).any (Tryz.prog.mapsRec ·))) = true := by kernel_rfl
theorem jf10_14 : ((Rows.descentRestsRow.ifaces == (Tryz.f10.params.toList ++ Rows.descentRestsSpec.plain.varTypes Tryz.prog).any (Tryz.prog.ifacesRec ·))) = true := by kernel_rfl
theorem jf10_15 : ((Rows.descentRestsRow.mapsOut == Tryz.prog.mapsAmong Tryz.f10.resultTypes.toList)) = true := by kernel_rfl
theorem jf10_16 : ((Rows.descentRestsRow.loops == (Tryz.f10.params.toList ++ Rows.descentRestsSpec.plain.varTypes Tryz.prog).any (Tryz.prog.loopsFrom ·))) = true := by kernel_rfl
theorem jf10_17 : ((Rows.descentRestsRow.wideKeys == (Tryz.f10.params.toList ++ Rows.descentRestsSpec.plain.varTypes Tryz.prog ++ Tryz.f10.resultTypes.toList).any (Tryz.prog.wideKeysFrom ·))) = true := by kernel_rfl
theorem jf10_18 : (Rows.descentRestsSpec.vars.all (Tryz.prog.varReadable ·)) = true := by kernel_rfl
theorem jf10_19 : (Tryz.f10.resultTypes.all (fun t => Tryz.prog.readableRec t && decide (t < Tryz.prog.types.size))) = true := by kernel_rfl
theorem jf10_20 : ((Rows.descentRestsRow.ifacesOut == Tryz.f10.resultTypes.toList.any (Tryz.prog.ifacesRec ·))) = true := by kernel_rfl
theorem jf10_21 : ((Rows.descentRestsRow.loopsOut == Tryz.f10.resultTypes.toList.any (Tryz.prog.loopsFrom ·))) = true := by kernel_rfl
theorem jf10_22 : ((Rows.descentRestsRow.plainKeys == Tryz.prog.plainKeys)) = true := by kernel_rfl
theorem jf10_23 : (Rows.descentRestsRow.shortTexts.isNone) = true := by kernel_rfl
theorem jf10_24 : (Tryz.prog.stopsHeard) = true := by kernel_rfl
theorem jf10_25 : (Tryz.prog.mayEnter) = true := by kernel_rfl
theorem jf10_26 : ((Rows.descentRestsRow.lifted == Tryz.prog.liftsFinal)) = true := by kernel_rfl
theorem jf10_27 : ((Tryz.prog.make == some Rows.descentRestsRow.make)) = true := by kernel_rfl
theorem jf10_28 : ((Rows.descentRestsRow.kinds == (if Rows.descentRestsRow.domain.isEmpty then [] else Tryz.f10.params.toList.map fun t => match Tryz.prog.underlying t with | some (.int k) => some k | _ => none))) = true := by kernel_rfl
theorem jf10_29 : ((Rows.descentRestsRow.pinned == Rows.descentRestsRow.pinnedBy)) = true := by kernel_rfl
theorem jf10_30 : ((Rows.descentRestsRow.veiled == (Tryz.f10.params.toList ++ Rows.descentRestsSpec.plain.varTypes Tryz.prog ++ Tryz.f10.resultTypes.toList).any (Tryz.prog.veiledRec ·))) = true := by kernel_rfl
theorem jf10_31 : (Rows.descentRestsRow.veiledFits Tryz.prog Tryz.f10.params.toList (Tryz.f10.params.toList ++ Rows.descentRestsSpec.plain.varTypes Tryz.prog ++ Tryz.f10.resultTypes.toList)) = true := by kernel_rfl
theorem restsClosed : joinedFacts Tryz.prog 10 Tryz.f10 Rows.descentRestsSpec Rows.descentRestsRow = true := and_t10 (and_t10 (and_t10 (and_t10 (and_t10 (and_t10 (and_t10 (and_t10 (and_t10 (and_t10 (and_t10 (and_t10 (and_t10 (and_t10 (and_t10 (and_t10 (and_t10 (and_t10 (and_t10 (and_t10 (and_t10 (and_t10 (and_t10 (and_t10 (and_t10 (and_t10 (and_t10 (and_t10 (and_t10 (and_t10 (and_t10 (jf10_0) jf10_1) jf10_2) jf10_3) jf10_4) jf10_5) jf10_6) jf10_7) jf10_8) jf10_9) jf10_10) jf10_11) jf10_12) jf10_13) jf10_14) jf10_15) jf10_16) jf10_17) jf10_18) jf10_19) jf10_20) jf10_21) jf10_22) jf10_23) jf10_24) jf10_25) jf10_26) jf10_27) jf10_28) jf10_29) jf10_30) jf10_31
end Go.Am.Ds
