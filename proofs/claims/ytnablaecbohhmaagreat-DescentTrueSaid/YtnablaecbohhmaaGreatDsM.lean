/-
  What is used in the proof of a statement (part DsM); no condition.
-/
import Derived.Test.YtnablaecbohhmaaGreatRows
import Derived.JoinedOf
import Derived.ProofKit
set_option linter.all false
namespace Go.Am.Ds
open Go Go.Proofs Go.Proofs.YtnablaecbohhmaaGreat
set_option maxRecDepth 100000
theorem and_t9 {a b : Bool} (h : a = true) (g : b = true) : (a && b) = true := by rw [h, g]; rfl
theorem jf9_0 : (Rows.descentTrueRow.wf (OpenSpec.ofChange Rows.descentTrueSpec)) = true := by kernel_rfl
theorem jf9_1 : (laidOutB Tryz.prog) = true := by kernel_rfl
theorem jf9_2 : (mapsRowed Tryz.prog) = true := by kernel_rfl
theorem jf9_3 : (Tryz.f9.params.all (Tryz.prog.readableRec ·)) = true := by kernel_rfl
theorem jf9_4 : (namedTie Tryz.prog Rows.descentTrueRow.named Rows.descentTrueSpec.vars) = true := by kernel_rfl
theorem jf9_5 : ((Rows.descentTrueRow.stops == [])) = true := by kernel_rfl
theorem jf9_6 : ((Tryz.prog.stops == [])) = true := by kernel_rfl
theorem jf9_7 : ((Rows.descentTrueRow.knobs == [])) = true := by kernel_rfl
theorem jf9_8 : ((Tryz.prog.stopKnobs == [])) = true := by kernel_rfl
theorem jf9_9 : ((Rows.descentTrueRow.inPlace == Tryz.prog.inPlace 9)) = true := by kernel_rfl
theorem jf9_10 : ((Rows.descentTrueRow.unfollowed == Tryz.prog.unfollowed 9)) = true := by kernel_rfl
theorem jf9_11 : ((Rows.descentTrueRow.recurses == Tryz.prog.recurses 9)) = true := by kernel_rfl
theorem jf9_12 : ((Rows.descentTrueRow.named == Tryz.prog.varsNamed 9)) = true := by kernel_rfl
theorem jf9_13 : ((Rows.descentTrueRow.maps == (Tryz.f9.params.toList ++ Rows.descentTrueSpec.plain.varTypes Tryz.prog).any (Tryz.prog.mapsRec ·))) = true := by kernel_rfl
theorem jf9_14 : ((Rows.descentTrueRow.ifaces == (Tryz.f9.params.toList ++ Rows.descentTrueSpec.plain.varTypes Tryz.prog).any (Tryz.prog.ifacesRec ·))) = true := by kernel_rfl
theorem jf9_15 : ((Rows.descentTrueRow.mapsOut == Tryz.prog.mapsAmong Tryz.f9.resultTypes.toList)) = true := by kernel_rfl
theorem jf9_16 : ((Rows.descentTrueRow.loops == (Tryz.f9.params.toList ++ Rows.descentTrueSpec.plain.varTypes Tryz.prog).any (Tryz.prog.loopsFrom ·))) = true := by kernel_rfl
theorem jf9_17 : ((Rows.descentTrueRow.wideKeys == (Tryz.f9.params.toList ++ Rows.descentTrueSpec.plain.varTypes Tryz.prog ++ Tryz.f9.resultTypes.toList).any (Tryz.prog.wideKeysFrom ·))) = true := by kernel_rfl
theorem jf9_18 : (Rows.descentTrueSpec.vars.all (Tryz.prog.varReadable ·)) = true := by kernel_rfl
theorem jf9_19 : (Tryz.f9.resultTypes.all (fun t => Tryz.prog.readableRec t && decide (t < Tryz.prog.types.size))) = true := by kernel_rfl
theorem jf9_20 : ((Rows.descentTrueRow.ifacesOut == Tryz.f9.resultTypes.toList.any (Tryz.prog.ifacesRec ·))) = true := by kernel_rfl
theorem jf9_21 : ((Rows.descentTrueRow.loopsOut == Tryz.f9.resultTypes.toList.any (Tryz.prog.loopsFrom ·))) = true := by kernel_rfl
theorem jf9_22 : ((Rows.descentTrueRow.plainKeys == Tryz.prog.plainKeys)) = true := by kernel_rfl
theorem jf9_23 : (Rows.descentTrueRow.shortTexts.isNone) = true := by kernel_rfl
theorem jf9_24 : (Tryz.prog.stopsHeard) = true := by kernel_rfl
theorem jf9_25 : (Tryz.prog.mayEnter) = true := by kernel_rfl
theorem jf9_26 : ((Rows.descentTrueRow.lifted == Tryz.prog.liftsFinal)) = true := by kernel_rfl
theorem jf9_27 : ((Tryz.prog.make == some Rows.descentTrueRow.make)) = true := by kernel_rfl
theorem jf9_28 : ((Rows.descentTrueRow.kinds == (if Rows.descentTrueRow.domain.isEmpty then [] else Tryz.f9.params.toList.map fun t => match Tryz.prog.underlying t with | some (.int k) => some k | _ => none))) = true := by kernel_rfl
theorem jf9_29 : ((Rows.descentTrueRow.pinned == Rows.descentTrueRow.pinnedBy)) = true := by kernel_rfl
theorem jf9_30 : ((Rows.descentTrueRow.veiled == (Tryz.f9.params.toList ++ Rows.descentTrueSpec.plain.varTypes Tryz.prog ++ Tryz.f9.resultTypes.toList).any (Tryz.prog.veiledRec ·))) = true := by kernel_rfl
theorem jf9_31 : (Rows.descentTrueRow.veiledFits Tryz.prog Tryz.f9.params.toList (Tryz.f9.params.toList ++ Rows.descentTrueSpec.plain.varTypes Tryz.prog ++ Tryz.f9.resultTypes.toList)) = true := by kernel_rfl
theorem trueClosed : joinedFacts Tryz.prog 9 Tryz.f9 Rows.descentTrueSpec Rows.descentTrueRow = true := and_t9 (and_t9 (and_t9 (and_t9 (and_t9 (and_t9 (and_t9 (and_t9 (and_t9 (and_t9 (and_t9 (and_t9 (and_t9 (and_t9 (and_t9 (and_t9 (and_t9 (and_t9 (and_t9 (and_t9 (and_t9 (and_t9 (and_t9 (and_t9 (and_t9 (and_t9 (and_t9 (and_t9 (and_t9 (and_t9 (and_t9 (jf9_0) jf9_1) jf9_2) jf9_3) jf9_4) jf9_5) jf9_6) jf9_7) jf9_8) jf9_9) jf9_10) jf9_11) jf9_12) jf9_13) jf9_14) jf9_15) jf9_16) jf9_17) jf9_18) jf9_19) jf9_20) jf9_21) jf9_22) jf9_23) jf9_24) jf9_25) jf9_26) jf9_27) jf9_28) jf9_29) jf9_30) jf9_31
end Go.Am.Ds
