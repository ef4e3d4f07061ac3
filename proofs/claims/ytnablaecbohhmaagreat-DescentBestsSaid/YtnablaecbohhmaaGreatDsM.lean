/-
  What is used in the proof of a statement (part DsM); no condition.
-/
import Derived.Test.YtnablaecbohhmaaGreatRows
import Derived.JoinedOf
import Derived.ProofKit
set_option linter.all false
namespace Go.Am.Ds
open Go Go.Proofs Go.Proofs.YtnablaecbohhmaaGreat
set_option maxRecDepth 100000
theorem and_t11 {a b : Bool} (h : a = true) (g : b = true) : (a && b) = true := by rw [h, g]; rfl
theorem jf11_0 : (Rows.descentBestsRow.wf (OpenSpec.ofChange Rows.descentBestsSpec)) = true := by kernel_rfl
theorem jf11_1 : (laidOutB Tryz.prog) = true := by kernel_rfl
theorem jf11_2 : (mapsRowed Tryz.prog) = true := by kernel_rfl
theorem jf11_3 : (Tryz.f11.params.all (Tryz.prog.readableRec ·)) = true := by kernel_rfl
theorem jf11_4 : (namedTie Tryz.prog Rows.descentBestsRow.named Rows.descentBestsSpec.vars) = true := by kernel_rfl
theorem jf11_5 : ((Rows.descentBestsRow.stops == [])) = true := by kernel_rfl
theorem jf11_6 : ((Tryz.prog.stops == [])) = true := by kernel_rfl
theorem jf11_7 : ((Rows.descentBestsRow.knobs == [])) = true := by kernel_rfl
theorem jf11_8 : ((Tryz.prog.stopKnobs == [])) = true := by kernel_rfl
theorem jf11_9 : ((Rows.descentBestsRow.inPlace == Tryz.prog.inPlace 11)) = true := by kernel_rfl
theorem jf11_10 : ((Rows.descentBestsRow.unfollowed == Tryz.prog.unfollowed 11)) = true := by kernel_rfl
theorem jf11_11 : ((Rows.descentBestsRow.recurses == Tryz.prog.recurses 11)) = true := by kernel_rfl
theorem jf11_12 : ((Rows.descentBestsRow.named == Tryz.prog.varsNamed 11)) = true := by kernel_rfl
theorem jf11_13 : ((Rows.descentBestsRow.maps == (Tryz.f11.params.toList ++ Rows.descentBestsSpec.plain.varTypes Tryz.prog).any (Tryz.prog.mapsRec ·))) = true := by kernel_rfl
theorem jf11_14 : ((Rows.descentBestsRow.ifaces == (Tryz.f11.params.toList ++ Rows.descentBestsSpec.plain.varTypes Tryz.prog).any (Tryz.prog.ifacesRec ·))) = true := by kernel_rfl
theorem jf11_15 : ((Rows.descentBestsRow.mapsOut == Tryz.prog.mapsAmong Tryz.f11.resultTypes.toList)) = true := by kernel_rfl
theorem jf11_16 : ((Rows.descentBestsRow.loops == (Tryz.f11.params.toList ++ Rows.descentBestsSpec.plain.varTypes Tryz.prog).any (Tryz.prog.loopsFrom ·))) = true := by kernel_rfl
theorem jf11_17 : ((Rows.descentBestsRow.wideKeys == (Tryz.f11.params.toList ++ Rows.descentBestsSpec.plain.varTypes Tryz.prog ++ Tryz.f11.resultTypes.toList).any (Tryz.prog.wideKeysFrom ·))) = true := by kernel_rfl
theorem jf11_18 : (Rows.descentBestsSpec.vars.all (Tryz.prog.varReadable ·)) = true := by kernel_rfl
theorem jf11_19 : (Tryz.f11.resultTypes.all (fun t => Tryz.prog.readableRec t && decide (t < Tryz.prog.types.size))) = true := by kernel_rfl
theorem jf11_20 : ((Rows.descentBestsRow.ifacesOut == Tryz.f11.resultTypes.toList.any (Tryz.prog.ifacesRec ·))) = true := by kernel_rfl
theorem jf11_21 : ((Rows.descentBestsRow.loopsOut == Tryz.f11.resultTypes.toList.any (Tryz.prog.loopsFrom ·))) = true := by kernel_rfl
theorem jf11_22 : ((Rows.descentBestsRow.plainKeys == Tryz.prog.plainKeys)) = true := by kernel_rfl
theorem jf11_23 : (Rows.descentBestsRow.shortTexts.isNone) = true := by kernel_rfl
theorem jf11_24 : (Tryz.prog.stopsHeard) = true := by kernel_rfl
theorem jf11_25 : (Tryz.prog.mayEnter) = true := by kernel_rfl
theorem jf11_26 : ((Rows.descentBestsRow.lifted == Tryz.prog.liftsFinal)) = true := by kernel_rfl
theorem jf11_27 : ((Tryz.prog.make == some Rows.descentBestsRow.make)) = true := by kernel_rfl
theorem jf11_28 : ((Rows.descentBestsRow.kinds == (if Rows.descentBestsRow.domain.isEmpty then [] else Tryz.f11.params.toList.map fun t => match Tryz.prog.underlying t with | some (.int k) => some k | _ => none))) = true := by kernel_rfl
theorem jf11_29 : ((Rows.descentBestsRow.pinned == Rows.descentBestsRow.pinnedBy)) = true := by kernel_rfl
theorem jf11_30 : ((Rows.descentBestsRow.veiled == (Tryz.f11.params.toList ++ Rows.descentBestsSpec.plain.varTypes Tryz.prog ++ Tryz.f11.resultTypes.toList).any (Tryz.prog.veiledRec ·))) = true := by kernel_rfl
theorem jf11_31 : (Rows.descentBestsRow.veiledFits Tryz.prog Tryz.f11.params.toList (Tryz.f11.params.toList ++ Rows.descentBestsSpec.plain.varTypes Tryz.prog ++ Tryz.f11.resultTypes.toList)) = true := by kernel_rfl
theorem bestsClosed : joinedFacts Tryz.prog 11 Tryz.f11 Rows.descentBestsSpec Rows.descentBestsRow = true := and_t11 (and_t11 (and_t11 (and_t11 (and_t11 (and_t11 (and_t11 (and_t11 (and_t11 (and_t11 (and_t11 (and_t11 (and_t11 (and_t11 (and_t11 (and_t11 (and_t11 (and_t11 (and_t11 (and_t11 (and_t11 (and_t11 (and_t11 (and_t11 (and_t11 (and_t11 (and_t11 (and_t11 (and_t11 (and_t11 (and_t11 (jf11_0) jf11_1) jf11_2) jf11_3) jf11_4) jf11_5) jf11_6) jf11_7) jf11_8) jf11_9) jf11_10) jf11_11) jf11_12) jf11_13) jf11_14) jf11_15) jf11_16) jf11_17) jf11_18) jf11_19) jf11_20) jf11_21) jf11_22) jf11_23) jf11_24) jf11_25) jf11_26) jf11_27) jf11_28) jf11_29) jf11_30) jf11_31
end Go.Am.Ds
