/-
  What is used in the proof of a statement (part DsM); no condition.
-/
import Derived.Test.YtnablaecbohhmaaGreatRows
import Derived.JoinedOf
import Derived.ProofKit
set_option linter.all false
/-
  Descent: the closed facts of DescentModels' row, limb by limb (in one piece they pass the kernel's memory).
-/
section
namespace Go.Am.Ds
open Go Go.Proofs Go.Proofs.YtnablaecbohhmaaGreat
set_option maxRecDepth 100000
theorem and_t4 {a b : Bool} (h : a = true) (g : b = true) : (a && b) = true := by rw [h, g]; rfl
theorem jf4_0 : (Rows.descentModelsRow.wf (OpenSpec.ofChange Rows.descentModelsSpec)) = true := by kernel_rfl
theorem jf4_1 : (laidOutB Tryz.prog) = true := by kernel_rfl
theorem jf4_2 : (mapsRowed Tryz.prog) = true := by kernel_rfl
theorem jf4_3 : (Tryz.f4.params.all (Tryz.prog.readableRec ·)) = true := by kernel_rfl
theorem jf4_4 : (namedTie Tryz.prog Rows.descentModelsRow.named Rows.descentModelsSpec.vars) = true := by kernel_rfl
theorem jf4_5 : ((Rows.descentModelsRow.stops == [])) = true := by kernel_rfl
theorem jf4_6 : ((Tryz.prog.stops == [])) = true := by kernel_rfl
theorem jf4_7 : ((Rows.descentModelsRow.knobs == [])) = true := by kernel_rfl
theorem jf4_8 : ((Tryz.prog.stopKnobs == [])) = true := by kernel_rfl
theorem jf4_9 : ((Rows.descentModelsRow.inPlace == Tryz.prog.inPlace 4)) = true := by kernel_rfl
theorem jf4_10 : ((Rows.descentModelsRow.unfollowed == Tryz.prog.unfollowed 4)) = true := by kernel_rfl
theorem jf4_11 : ((Rows.descentModelsRow.recurses == Tryz.prog.recurses 4)) = true := by kernel_rfl
theorem jf4_12 : ((Rows.descentModelsRow.named == Tryz.prog.varsNamed 4)) = true := by kernel_rfl
theorem jf4_13 : ((Rows.descentModelsRow.maps == (Tryz.f4.params.toList ++ Rows.descentModelsSpec.plain.varTypes Tryz.prog).any (Tryz.prog.mapsRec ·))) = true := by kernel_rfl
theorem jf4_14 : ((Rows.descentModelsRow.ifaces == (Tryz.f4.params.toList ++ Rows.descentModelsSpec.plain.varTypes Tryz.prog).any (Tryz.prog.ifacesRec ·))) = true := by kernel_rfl
theorem jf4_15 : ((Rows.descentModelsRow.mapsOut == Tryz.prog.mapsAmong Tryz.f4.resultTypes.toList)) = true := by kernel_rfl
theorem jf4_16 : ((Rows.descentModelsRow.loops == (Tryz.f4.params.toList ++ Rows.descentModelsSpec.plain.varTypes Tryz.prog).any (Tryz.prog.loopsFrom ·))) = true := by kernel_rfl
theorem jf4_17 : ((Rows.descentModelsRow.wideKeys == (Tryz.f4.params.toList ++ Rows.descentModelsSpec.plain.varTypes Tryz.prog ++ Tryz.f4.resultTypes.toList).any (Tryz.prog.wideKeysFrom ·))) = true := by kernel_rfl
theorem jf4_18 : (Rows.descentModelsSpec.vars.all (Tryz.prog.varReadable ·)) = true := by kernel_rfl
theorem jf4_19 : (Tryz.f4.resultTypes.all (fun t => Tryz.prog.readableRec t && decide (t < Tryz.prog.types.size))) = true := by kernel_rfl
theorem jf4_20 : ((Rows.descentModelsRow.ifacesOut == Tryz.f4.resultTypes.toList.any (Tryz.prog.ifacesRec ·))) = true := by kernel_rfl
theorem jf4_21 : ((Rows.descentModelsRow.loopsOut == Tryz.f4.resultTypes.toList.any (Tryz.prog.loopsFrom ·))) = true := by kernel_rfl
theorem jf4_22 : ((Rows.descentModelsRow.plainKeys == Tryz.prog.plainKeys)) = true := by kernel_rfl
theorem jf4_23 : (Rows.descentModelsRow.shortTexts.isNone) = true := by kernel_rfl
theorem jf4_24 : (Tryz.prog.stopsHeard) = true := by kernel_rfl
theorem jf4_25 : (Tryz.prog.mayEnter) = true := by kernel_rfl
theorem jf4_26 : ((Rows.descentModelsRow.lifted == Tryz.prog.liftsFinal)) = true := by kernel_rfl
theorem jf4_27 : ((Tryz.prog.make == some Rows.descentModelsRow.make)) = true := by kernel_rfl
theorem jf4_28 : ((Rows.descentModelsRow.kinds == (if Rows.descentModelsRow.domain.isEmpty then [] else Tryz.f4.params.toList.map fun t => match Tryz.prog.underlying t with | some (.int k) => some k | _ => none))) = true := by kernel_rfl
theorem jf4_29 : ((Rows.descentModelsRow.pinned == Rows.descentModelsRow.pinnedBy)) = true := by kernel_rfl
theorem jf4_30 : ((Rows.descentModelsRow.veiled == (Tryz.f4.params.toList ++ Rows.descentModelsSpec.plain.varTypes Tryz.prog ++ Tryz.f4.resultTypes.toList).any (Tryz.prog.veiledRec ·))) = true := by kernel_rfl
theorem jf4_31 : (Rows.descentModelsRow.veiledFits Tryz.prog Tryz.f4.params.toList (Tryz.f4.params.toList ++ Rows.descentModelsSpec.plain.varTypes Tryz.prog ++ Tryz.f4.resultTypes.toList)) = true := by kernel_rfl
theorem modelsClosed : joinedFacts Tryz.prog 4 Tryz.f4 Rows.descentModelsSpec Rows.descentModelsRow = true := and_t4 (and_t4 (and_t4 (and_t4 (and_t4 (and_t4 (and_t4 (and_t4 (and_t4 (and_t4 (and_t4 (and_t4 (and_t4 (and_t4 (and_t4 (and_t4 (and_t4 (and_t4 (and_t4 (and_t4 (and_t4 (and_t4 (and_t4 (and_t4 (and_t4 (and_t4 (and_t4 (and_t4 (and_t4 (and_t4 (and_t4 (jf4_0) jf4_1) jf4_2) jf4_3) jf4_4) jf4_5) jf4_6) jf4_7) jf4_8) jf4_9) jf4_10) jf4_11) jf4_12) jf4_13) jf4_14) jf4_15) jf4_16) jf4_17) jf4_18) jf4_19) jf4_20) jf4_21) jf4_22) jf4_23) jf4_24) jf4_25) jf4_26) jf4_27) jf4_28) jf4_29) jf4_30) jf4_31
end Go.Am.Ds
end
