/-
  What is used in the proof of a statement (part DsM); no condition.
-/
import Derived.Test.YtnablaecbohhmaaGreatRows
import Derived.JoinedOf
import Derived.ProofKit
set_option linter.all false
namespace Go.Am.Ds
open Go Go.Proofs Go.Proofs.YtnablaecbohhmaaGreat
set_option maxRecDepth 100000
theorem and_t7 {a b : Bool} (h : a = true) (g : b = true) : (a && b) = true := by rw [h, g]; rfl
theorem jf7_0 : (Rows.descentChoicesRow.wf (OpenSpec.ofChange Rows.descentChoicesSpec)) = true := by kernel_rfl
theorem jf7_1 : (laidOutB Tryz.prog) = true := by kernel_rfl
theorem jf7_2 : (mapsRowed Tryz.prog) = true := by kernel_rfl
theorem jf7_3 : (Tryz.f7.params.all (Tryz.prog.readableRec ·)) = true := by kernel_rfl
theorem jf7_4 : (namedTie Tryz.prog Rows.descentChoicesRow.named Rows.descentChoicesSpec.vars) = true := by kernel_rfl
theorem jf7_5 : ((Rows.descentChoicesRow.stops == [])) = true := by kernel_rfl
theorem jf7_6 : ((Tryz.prog.stops == [])) = true := by kernel_rfl
theorem jf7_7 : ((Rows.descentChoicesRow.knobs == [])) = true := by kernel_rfl
theorem jf7_8 : ((Tryz.prog.stopKnobs == [])) = true := by kernel_rfl
theorem jf7_9 : ((Rows.descentChoicesRow.inPlace == Tryz.prog.inPlace 7)) = true := by kernel_rfl
theorem jf7_10 : ((Rows.descentChoicesRow.unfollowed == Tryz.prog.unfollowed 7)) = true := by kernel_rfl
theorem jf7_11 : ((Rows.descentChoicesRow.recurses == Tryz.prog.recurses 7)) = true := by kernel_rfl
theorem jf7_12 : ((Rows.descentChoicesRow.named == Tryz.prog.varsNamed 7)) = true := by kernel_rfl
theorem jf7_13 : ((Rows.descentChoicesRow.maps == (Tryz.f7.params.toList ++ Rows.descentChoicesSpec.plain.varTypes Tryz.prog).any (Tryz.prog.mapsRec ·))) = true := by kernel_rfl
theorem jf7_14 : ((Rows.descentChoicesRow.ifaces == (Tryz.f7.params.toList ++ Rows.descentChoicesSpec.plain.varTypes Tryz.prog).any (Tryz.prog.ifacesRec ·))) = true := by kernel_rfl
theorem jf7_15 : ((Rows.descentChoicesRow.mapsOut == Tryz.prog.mapsAmong Tryz.f7.resultTypes.toList)) = true := by kernel_rfl
theorem jf7_16 : ((Rows.descentChoicesRow.loops == (Tryz.f7.params.toList ++ Rows.descentChoicesSpec.plain.varTypes Tryz.prog).any (Tryz.prog.loopsFrom ·))) = true := by kernel_rfl
theorem jf7_17 : ((Rows.descentChoicesRow.wideKeys == (Tryz.f7.params.toList ++ Rows.descentChoicesSpec.plain.varTypes Tryz.prog ++ Tryz.f7.resultTypes.toList).any (Tryz.prog.wideKeysFrom ·))) = true := by kernel_rfl
theorem jf7_18 : (Rows.descentChoicesSpec.vars.all (Tryz.prog.varReadable ·)) = true := by kernel_rfl
theorem jf7_19 : (Tryz.f7.resultTypes.all (fun t => Tryz.prog.readableRec t && decide (t < Tryz.prog.types.size))) = true := by kernel_rfl
theorem jf7_20 : ((Rows.descentChoicesRow.ifacesOut == Tryz.f7.resultTypes.toList.any (Tryz.prog.ifacesRec ·))) = true := by kernel_rfl
theorem jf7_21 : ((Rows.descentChoicesRow.loopsOut == Tryz.f7.resultTypes.toList.any (Tryz.prog.loopsFrom ·))) = true := by kernel_rfl
theorem jf7_22 : ((Rows.descentChoicesRow.plainKeys == Tryz.prog.plainKeys)) = true := by kernel_rfl
theorem jf7_23 : (Rows.descentChoicesRow.shortTexts.isNone) = true := by kernel_rfl
theorem jf7_24 : (Tryz.prog.stopsHeard) = true := by kernel_rfl
theorem jf7_25 : (Tryz.prog.mayEnter) = true := by kernel_rfl
theorem jf7_26 : ((Rows.descentChoicesRow.lifted == Tryz.prog.liftsFinal)) = true := by kernel_rfl
theorem jf7_27 : ((Tryz.prog.make == some Rows.descentChoicesRow.make)) = true := by kernel_rfl
theorem jf7_28 : ((Rows.descentChoicesRow.kinds == (if Rows.descentChoicesRow.domain.isEmpty then [] else Tryz.f7.params.toList.map fun t => match Tryz.prog.underlying t with | some (.int k) => some k | _ => none))) = true := by kernel_rfl
theorem jf7_29 : ((Rows.descentChoicesRow.pinned == Rows.descentChoicesRow.pinnedBy)) = true := by kernel_rfl
theorem jf7_30 : ((Rows.descentChoicesRow.veiled == (Tryz.f7.params.toList ++ Rows.descentChoicesSpec.plain.varTypes Tryz.prog ++ Tryz.f7.resultTypes.toList).any (Tryz.prog.veiledRec ·))) = true := by kernel_rfl
theorem jf7_31 : (Rows.descentChoicesRow.veiledFits Tryz.prog Tryz.f7.params.toList (Tryz.f7.params.toList ++ Rows.descentChoicesSpec.plain.varTypes Tryz.prog ++ Tryz.f7.resultTypes.toList)) = true := by kernel_rfl
theorem choicesClosed : joinedFacts Tryz.prog 7 Tryz.f7 Rows.descentChoicesSpec Rows.descentChoicesRow = true := and_t7 (and_t7 (and_t7 (and_t7 (and_t7 (and_t7 (and_t7 (and_t7 (and_t7 (and_t7 (and_t7 (and_t7 (and_t7 (and_t7 (and_t7 (and_t7 (and_t7 (and_t7 (and_t7 (and_t7 (and_t7 (and_t7 (and_t7 (and_t7 (and_t7 (and_t7 (and_t7 (and_t7 (and_t7 (and_t7 (and_t7 (jf7_0) jf7_1) jf7_2) jf7_3) jf7_4) jf7_5) jf7_6) jf7_7) jf7_8) jf7_9) jf7_10) jf7_11) jf7_12) jf7_13) jf7_14) jf7_15) jf7_16) jf7_17) jf7_18) jf7_19) jf7_20) jf7_21) jf7_22) jf7_23) jf7_24) jf7_25) jf7_26) jf7_27) jf7_28) jf7_29) jf7_30) jf7_31
end Go.Am.Ds
