/-
  What is used in the proof of a statement (part DsM); no condition.
-/
import Derived.Test.YtnablaecbohhmaaGreatRows
import Derived.JoinedOf
import Derived.ProofKit
set_option linter.all false
namespace Go.Am.Ds
open Go Go.Proofs Go.Proofs.YtnablaecbohhmaaGreat
set_option maxRecDepth 100000
theorem and_t20 {a b : Bool} (h : a = true) (g : b = true) : (a && b) = true := by rw [h, g]; rfl
theorem jf20_0 : (Rows.descentMoreRow.wf (OpenSpec.ofChange Rows.descentMoreSpec)) = true := by kernel_rfl
theorem jf20_1 : (laidOutB Tryz.prog) = true := by kernel_rfl
theorem jf20_2 : (mapsRowed Tryz.prog) = true := by kernel_rfl
theorem jf20_3 : (Tryz.f20.params.all (Tryz.prog.readableRec ·)) = true := by kernel_rfl
theorem jf20_4 : (namedTie Tryz.prog Rows.descentMoreRow.named Rows.descentMoreSpec.vars) = true := by kernel_rfl
theorem jf20_5 : ((Rows.descentMoreRow.stops == [])) = true := by kernel_rfl
theorem jf20_6 : ((Tryz.prog.stops == [])) = true := by kernel_rfl
theorem jf20_7 : ((Rows.descentMoreRow.knobs == [])) = true := by kernel_rfl
theorem jf20_8 : ((Tryz.prog.stopKnobs == [])) = true := by kernel_rfl
theorem jf20_9 : ((Rows.descentMoreRow.inPlace == Tryz.prog.inPlace 20)) = true := by kernel_rfl
theorem jf20_10 : ((Rows.descentMoreRow.unfollowed == Tryz.prog.unfollowed 20)) = true := by kernel_rfl
theorem jf20_11 : ((Rows.descentMoreRow.recurses == Tryz.prog.recurses 20)) = true := by kernel_rfl
theorem jf20_12 : ((Rows.descentMoreRow.named == Tryz.prog.varsNamed 20)) = true := by kernel_rfl
theorem jf20_13 : ((Rows.descentMoreRow.maps == (Tryz.f20.params.toList ++ Rows.descentMoreSpec.plain.varTypes Tryz.prog).any (Tryz.prog.mapsRec ·))) = true := by kernel_rfl
theorem jf20_14 : ((Rows.descentMoreRow.ifaces == (Tryz.f20.params.toList ++ Rows.descentMoreSpec.plain.varTypes Tryz.prog).any (Tryz.prog.ifacesRec ·))) = true := by kernel_rfl
theorem jf20_15 : ((Rows.descentMoreRow.mapsOut == Tryz.prog.mapsAmong Tryz.f20.resultTypes.toList)) = true := by kernel_rfl
theorem jf20_16 : ((Rows.descentMoreRow.loops == (Tryz.f20.params.toList ++ Rows.descentMoreSpec.plain.varTypes Tryz.prog).any (Tryz.prog.loopsFrom ·))) = true := by kernel_rfl
theorem jf20_17 : ((Rows.descentMoreRow.wideKeys == (Tryz.f20.params.toList ++ Rows.descentMoreSpec.plain.varTypes Tryz.prog ++ Tryz.f20.resultTypes.toList).any (Tryz.prog.wideKeysFrom ·))) = true := by kernel_rfl
theorem jf20_18 : (Rows.descentMoreSpec.vars.all (Tryz.prog.varReadable ·)) = true := by kernel_rfl
theorem jf20_19 : (Tryz.f20.resultTypes.all (fun t => Tryz.prog.readableRec t && decide (t < Tryz.prog.types.size))) = true := by kernel_rfl
theorem jf20_20 : ((Rows.descentMoreRow.ifacesOut == Tryz.f20.resultTypes.toList.any (Tryz.prog.ifacesRec ·))) = true := by kernel_rfl
theorem jf20_21 : ((Rows.descentMoreRow.loopsOut == Tryz.f20.resultTypes.toList.any (Tryz.prog.loopsFrom ·))) = true := by kernel_rfl
theorem jf20_22 : ((Rows.descentMoreRow.plainKeys == Tryz.prog.plainKeys)) = true := by kernel_rfl
theorem jf20_23 : (Rows.descentMoreRow.shortTexts.isNone) = true := by kernel_rfl
theorem jf20_24 : (Tryz.prog.stopsHeard) = true := by kernel_rfl
theorem jf20_25 : (Tryz.prog.mayEnter) = true := by kernel_rfl
theorem jf20_26 : ((Rows.descentMoreRow.lifted == Tryz.prog.liftsFinal)) = true := by kernel_rfl
theorem jf20_27 : ((Tryz.prog.make == some Rows.descentMoreRow.make)) = true := by kernel_rfl
theorem jf20_28 : ((Rows.descentMoreRow.kinds == (if Rows.descentMoreRow.domain.isEmpty then [] else Tryz.f20.params.toList.map fun t => match Tryz.prog.underlying t with | some (.int k) => some k | _ => none))) = true := by kernel_rfl
theorem jf20_29 : ((Rows.descentMoreRow.pinned == Rows.descentMoreRow.pinnedBy)) = true := by kernel_rfl
theorem jf20_30 : ((Rows.descentMoreRow.veiled == (Tryz.f20.params.toList ++ Rows.descentMoreSpec.plain.varTypes Tryz.prog ++ Tryz.f20.resultTypes.toList).any (Tryz.prog.veiledRec ·))) = true := by kernel_rfl
theorem jf20_31 : (Rows.descentMoreRow.veiledFits Tryz.prog Tryz.f20.params.toList (Tryz.f20.params.toList ++ Rows.descentMoreSpec.plain.varTypes Tryz.prog ++ Tryz.f20.resultTypes.toList)) = true := by kernel_rfl
theorem moreClosed : joinedFacts Tryz.prog 20 Tryz.f20 Rows.descentMoreSpec Rows.descentMoreRow = true := and_t20 (and_t20 (and_t20 (and_t20 (and_t20 (and_t20 (and_t20 (and_t20 (and_t20 (and_t20 (and_t20 (and_t20 (and_t20 (and_t20 (and_t20 (and_t20 (and_t20 (and_t20 (and_t20 (and_t20 (and_t20 (and_t20 (and_t20 (and_t20 (and_t20 (and_t20 (and_t20 (and_t20 (and_t20 (and_t20 (and_t20 (jf20_0) jf20_1) jf20_2) jf20_3) jf20_4) jf20_5) jf20_6) jf20_7) jf20_8) jf20_9) jf20_10) jf20_11) jf20_12) jf20_13) jf20_14) jf20_15) jf20_16) jf20_17) jf20_18) jf20_19) jf20_20) jf20_21) jf20_22) jf20_23) jf20_24) jf20_25) jf20_26) jf20_27) jf20_28) jf20_29) jf20_30) jf20_31
end Go.Am.Ds
