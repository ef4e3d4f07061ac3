/-
 What is used in the proof of a statement (part HiM); no condition.
-/
import Derived.Test.YtmgglkdilpglgaaGreatRows
import Derived.JoinedOf
import Derived.ProofKit
set_option linter.all false
/-
 Hire: the closed facts of HireStuck' row, limb by limb (in one piece they pass the kernel's memory).
-/
section
namespace Go.Am.Hi
open Go Go.Proofs Go.Proofs.YtmgglkdilpglgaaGreat
set_option maxRecDepth 100000
theorem and_t {a b : Bool} (h : a = true) (g : b = true) : (a && b) = true := by rw [h, g]; rfl
theorem jf_0 : (Rows.hireStuckRow.wf (OpenSpec.ofChange Rows.hireStuckSpec)) = true := by kernel_rfl
theorem jf_1 : (laidOutB Tryz.prog) = true := by kernel_rfl
theorem jf_2 : (mapsRowed Tryz.prog) = true := by kernel_rfl
theorem jf_3 : (Tryz.f12.params.all (Tryz.prog.readableRec ·)) = true := by kernel_rfl
theorem jf_4 : (namedTie Tryz.prog Rows.hireStuckRow.named Rows.hireStuckSpec.vars) = true := by kernel_rfl
theorem jf_5 : ((Rows.hireStuckRow.stops == [])) = true := by kernel_rfl
theorem jf_6 : ((Tryz.prog.stops == [])) = true := by kernel_rfl
theorem jf_7 : ((Rows.hireStuckRow.knobs == [])) = true := by kernel_rfl
theorem jf_8 : ((Tryz.prog.stopKnobs == [])) = true := by kernel_rfl
theorem jf_9 : ((Rows.hireStuckRow.inPlace == Tryz.prog.inPlace 12)) = true := by kernel_rfl
theorem jf_10 : ((Rows.hireStuckRow.unfollowed == Tryz.prog.unfollowed 12)) = true := by kernel_rfl
theorem jf_11 : ((Rows.hireStuckRow.recurses == Tryz.prog.recurses 12)) = true := by kernel_rfl
theorem jf_12 : ((Rows.hireStuckRow.named == Tryz.prog.varsNamed 12)) = true := by kernel_rfl
theorem jf_13 : ((Rows.hireStuckRow.maps == (Tryz.f12.params.toList ++ Rows.hireStuckSpec.plain.varTypes Tryz.prog).any (Tryz.prog.mapsRec ·))) = true := by kernel_rfl
theorem jf_14 : ((Rows.hireStuckRow.ifaces == (Tryz.f12.params.toList ++ Rows.hireStuckSpec.plain.varTypes Tryz.prog).any (Tryz.prog.ifacesRec ·))) = true := by kernel_rfl
theorem jf_15 : ((Rows.hireStuckRow.mapsOut == Tryz.prog.mapsAmong Tryz.f12.resultTypes.toList)) = true := by kernel_rfl
theorem jf_16 : ((Rows.hireStuckRow.loops == (Tryz.f12.params.toList ++ Rows.hireStuckSpec.plain.varTypes Tryz.prog).any (Tryz.prog.loopsFrom ·))) = true := by kernel_rfl
theorem jf_17 : ((Rows.hireStuckRow.wideKeys == (Tryz.f12.params.toList ++ Rows.hireStuckSpec.plain.varTypes Tryz.prog ++ Tryz.f12.resultTypes.toList).any (Tryz.prog.wideKeysFrom ·))) = true := by kernel_rfl
theorem jf_18 : (Rows.hireStuckSpec.vars.all (Tryz.prog.varReadable ·)) = true := by kernel_rfl
theorem jf_19 : (Tryz.f12.resultTypes.all (fun t => Tryz.prog.readableRec t && decide (t < Tryz.prog.types.size))) = true := by kernel_rfl
theorem jf_20 : ((Rows.hireStuckRow.ifacesOut == Tryz.f12.resultTypes.toList.any (Tryz.prog.ifacesRec ·))) = true := by kernel_rfl
theorem jf_21 : ((Rows.hireStuckRow.loopsOut == Tryz.f12.resultTypes.toList.any (Tryz.prog.loopsFrom ·))) = true := by kernel_rfl
theorem jf_22 : ((Rows.hireStuckRow.plainKeys == Tryz.prog.plainKeys)) = true := by kernel_rfl
theorem jf_23 : (Rows.hireStuckRow.shortTexts.isNone) = true := by kernel_rfl
theorem jf_24 : (Tryz.prog.stopsHeard) = true := by kernel_rfl
theorem jf_25 : (Tryz.prog.mayEnter) = true := by kernel_rfl
theorem jf_26 : ((Rows.hireStuckRow.lifted == Tryz.prog.liftsFinal)) = true := by kernel_rfl
theorem jf_27 : ((Tryz.prog.make == some Rows.hireStuckRow.make)) = true := by kernel_rfl
theorem jf_28 : ((Rows.hireStuckRow.kinds == (if Rows.hireStuckRow.domain.isEmpty then [] else Tryz.f12.params.toList.map fun t => match Tryz.prog.underlying t with | some (.int k) => some k | _ => none))) = true := by kernel_rfl
theorem jf_29 : ((Rows.hireStuckRow.pinned == Rows.hireStuckRow.pinnedBy)) = true := by kernel_rfl
theorem jf_30 : ((Rows.hireStuckRow.veiled == (Tryz.f12.params.toList ++ Rows.hireStuckSpec.plain.varTypes Tryz.prog ++ Tryz.f12.resultTypes.toList).any (Tryz.prog.veiledRec ·))) = true := by kernel_rfl
theorem jf_31 : (Rows.hireStuckRow.veiledFits Tryz.prog Tryz.f12.params.toList (Tryz.f12.params.toList ++ Rows.hireStuckSpec.plain.varTypes Tryz.prog ++ Tryz.f12.resultTypes.toList)) = true := by kernel_rfl
theorem stuckClosed : joinedFacts Tryz.prog 12 Tryz.f12 Rows.hireStuckSpec Rows.hireStuckRow = true := and_t (and_t (and_t (and_t (and_t (and_t (and_t (and_t (and_t (and_t (and_t (and_t (and_t (and_t (and_t (and_t (and_t (and_t (and_t (and_t (and_t (and_t (and_t (and_t (and_t (and_t (and_t (and_t (and_t (and_t (and_t (jf_0) jf_1) jf_2) jf_3) jf_4) jf_5) jf_6) jf_7) jf_8) jf_9) jf_10) jf_11) jf_12) jf_13) jf_14) jf_15) jf_16) jf_17) jf_18) jf_19) jf_20) jf_21) jf_22) jf_23) jf_24) jf_25) jf_26) jf_27) jf_28) jf_29) jf_30) jf_31
end Go.Am.Hi
end
