/-
  What is used in the proof of a statement (part DsM); no condition.
-/
import Derived.Test.YtnablaecbohhmaaGreatRows
import Derived.JoinedOf
import Derived.ProofKit
set_option linter.all false
namespace Go.Am.Ds
open Go Go.Proofs Go.Proofs.YtnablaecbohhmaaGreat
set_option maxRecDepth 100000
theorem and_t12 {a b : Bool} (h : a = true) (g : b = true) : (a && b) = true := by rw [h, g]; rfl
theorem jf12_0 : (Rows.descentArisesRow.wf (OpenSpec.ofChange Rows.descentArisesSpec)) = true := by kernel_rfl
theorem jf12_1 : (laidOutB Tryz.prog) = true := by kernel_rfl
theorem jf12_2 : (mapsRowed Tryz.prog) = true := by kernel_rfl
theorem jf12_3 : (Tryz.f12.params.all (Tryz.prog.readableRec ·)) = true := by kernel_rfl
theorem jf12_4 : (namedTie Tryz.prog Rows.descentArisesRow.named Rows.descentArisesSpec.vars) = true := by kernel_rfl
theorem jf12_5 : ((Rows.descentArisesRow.stops == [])) = true := by kernel_rfl
theorem jf12_6 : ((Tryz.prog.stops == [])) = true := by kernel_rfl
theorem jf12_7 : ((Rows.descentArisesRow.knobs == [])) = true := by kernel_rfl
theorem jf12_8 : ((Tryz.prog.stopKnobs == [])) = true := by kernel_rfl
theorem jf12_9 : ((Rows.descentArisesRow.inPlace == Tryz.prog.inPlace 12)) = true := by kernel_rfl
theorem jf12_10 : ((Rows.descentArisesRow.unfollowed == Tryz.prog.unfollowed 12)) = true := by kernel_rfl
theorem jf12_11 : ((Rows.descentArisesRow.recurses == Tryz.prog.recurses 12)) = true := by kernel_rfl
theorem jf12_12 : ((Rows.descentArisesRow.named == Tryz.prog.varsNamed 12)) = true := by kernel_rfl
theorem jf12_13 : ((Rows.descentArisesRow.maps == (Tryz.f12.params.toList ++ Rows.descentArisesSpec.plain.varTypes Tryz.prog).any (Tryz.prog.mapsRec ·))) = true := by kernel_rfl
theorem jf12_14 : ((Rows.descentArisesRow.ifaces == (Tryz.f12.params.toList ++ Rows.descentArisesSpec.plain.varTypes Tryz.prog).any (Tryz.prog.ifacesRec ·))) = true := by kernel_rfl
theorem jf12_15 : ((Rows.descentArisesRow.mapsOut == Tryz.prog.mapsAmong Tryz.f12.resultTypes.toList)) = true := by kernel_rfl
theorem jf12_16 : ((Rows.descentArisesRow.loops == (Tryz.f12.params.toList ++ Rows.descentArisesSpec.plain.varTypes Tryz.prog).any (Tryz.prog.loopsFrom ·))) = true := by kernel_rfl
theorem jf12_17 : ((Rows.descentArisesRow.wideKeys == (Tryz.f12.params.toList ++ Rows.descentArisesSpec.plain.varTypes Tryz.prog ++ Tryz.f12.resultTypes.toList).any (Tryz.prog.wideKeysFrom ·))) = true := by kernel_rfl
theorem jf12_18 : (Rows.descentArisesSpec.vars.all (Tryz.prog.varReadable ·)) = true := by kernel_rfl
theorem jf12_19 : (Tryz.f12.resultTypes.all (fun t => Tryz.prog.readableRec t && decide (t < Tryz.prog.types.size))) = true := by kernel_rfl
theorem jf12_20 : ((Rows.descentArisesRow.ifacesOut == Tryz.f12.resultTypes.toList.any (Tryz.prog.ifacesRec ·))) = true := by kernel_rfl
theorem jf12_21 : ((Rows.descentArisesRow.loopsOut == Tryz.f12.resultTypes.toList.any (Tryz.prog.loopsFrom ·))) = true := by kernel_rfl
theorem jf12_22 : ((Rows.descentArisesRow.plainKeys == Tryz.prog.plainKeys)) = true := by kernel_rfl
theorem jf12_23 : (Rows.descentArisesRow.shortTexts.isNone) = true := by kernel_rfl
theorem jf12_24 : (Tryz.prog.stopsHeard) = true := by kernel_rfl
theorem jf12_25 : (Tryz.prog.mayEnter) = true := by kernel_rfl
theorem jf12_26 : ((Rows.descentArisesRow.lifted == Tryz.prog.liftsFinal)) = true := by kernel_rfl
theorem jf12_27 : ((Tryz.prog.make == some Rows.descentArisesRow.make)) = true := by kernel_rfl
theorem jf12_28 : ((Rows.descentArisesRow.kinds == (if Rows.descentArisesRow.domain.isEmpty then [] else Tryz.f12.params.toList.map fun t => match Tryz.prog.underlying t with | some (.int k) => some k | _ => none))) = true := by kernel_rfl
theorem jf12_29 : ((Rows.descentArisesRow.pinned == Rows.descentArisesRow.pinnedBy)) = true := by kernel_rfl
theorem jf12_30 : ((Rows.descentArisesRow.veiled == (Tryz.f12.params.toList ++ Rows.descentArisesSpec.plain.varTypes Tryz.prog ++ Tryz.f12.resultTypes.toList).any (Tryz.prog.veiledRec ·))) = true := by kernel_rfl
theorem jf12_31 : (Rows.descentArisesRow.veiledFits Tryz.prog Tryz.f12.params.toList (Tryz.f12.params.toList ++ Rows.descentArisesSpec.plain.varTypes Tryz.prog ++ Tryz.f12.resultTypes.toList)) = true := by kernel_rfl
theorem arisesClosed : joinedFacts Tryz.prog 12 Tryz.f12 Rows.descentArisesSpec Rows.descentArisesRow = true := and_t12 (and_t12 (and_t12 (and_t12 (and_t12 (and_t12 (and_t12 (and_t12 (and_t12 (and_t12 (and_t12 (and_t12 (and_t12 (and_t12 (and_t12 (and_t12 (and_t12 (and_t12 (and_t12 (and_t12 (and_t12 (and_t12 (and_t12 (and_t12 (and_t12 (and_t12 (and_t12 (and_t12 (and_t12 (and_t12 (and_t12 (jf12_0) jf12_1) jf12_2) jf12_3) jf12_4) jf12_5) jf12_6) jf12_7) jf12_8) jf12_9) jf12_10) jf12_11) jf12_12) jf12_13) jf12_14) jf12_15) jf12_16) jf12_17) jf12_18) jf12_19) jf12_20) jf12_21) jf12_22) jf12_23) jf12_24) jf12_25) jf12_26) jf12_27) jf12_28) jf12_29) jf12_30) jf12_31
end Go.Am.Ds
