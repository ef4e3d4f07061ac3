/-
  What is used in the proof of a statement (part DsM); no condition.
-/
import Derived.Test.YtnablaecbohhmaaGreatRows
import Derived.JoinedOf
import Derived.ProofKit
set_option linter.all false
namespace Go.Am.Ds
open Go Go.Proofs Go.Proofs.YtnablaecbohhmaaGreat
set_option maxRecDepth 100000
theorem and_t14 {a b : Bool} (h : a = true) (g : b = true) : (a && b) = true := by rw [h, g]; rfl
theorem jf14_0 : (Rows.descentFewestRow.wf (OpenSpec.ofChange Rows.descentFewestSpec)) = true := by kernel_rfl
theorem jf14_1 : (laidOutB Tryz.prog) = true := by kernel_rfl
theorem jf14_2 : (mapsRowed Tryz.prog) = true := by kernel_rfl
theorem jf14_3 : (Tryz.f14.params.all (Tryz.prog.readableRec ·)) = true := by kernel_rfl
theorem jf14_4 : (namedTie Tryz.prog Rows.descentFewestRow.named Rows.descentFewestSpec.vars) = true := by kernel_rfl
theorem jf14_5 : ((Rows.descentFewestRow.stops == [])) = true := by kernel_rfl
theorem jf14_6 : ((Tryz.prog.stops == [])) = true := by kernel_rfl
theorem jf14_7 : ((Rows.descentFewestRow.knobs == [])) = true := by kernel_rfl
theorem jf14_8 : ((Tryz.prog.stopKnobs == [])) = true := by kernel_rfl
theorem jf14_9 : ((Rows.descentFewestRow.inPlace == Tryz.prog.inPlace 14)) = true := by kernel_rfl
theorem jf14_10 : ((Rows.descentFewestRow.unfollowed == Tryz.prog.unfollowed 14)) = true := by kernel_rfl
theorem jf14_11 : ((Rows.descentFewestRow.recurses == Tryz.prog.recurses 14)) = true := by kernel_rfl
theorem jf14_12 : ((Rows.descentFewestRow.named == Tryz.prog.varsNamed 14)) = true := by kernel_rfl
theorem jf14_13 : ((Rows.descentFewestRow.maps == (Tryz.f14.params.toList ++ Rows.descentFewestSpec.plain.varTypes Tryz.prog).any (Tryz.prog.mapsRec ·))) = true := by kernel_rfl
theorem jf14_14 : ((Rows.descentFewestRow.ifaces == (Tryz.f14.params.toList ++ Rows.descentFewestSpec.plain.varTypes Tryz.prog).any (Tryz.prog.ifacesRec ·))) = true := by kernel_rfl
theorem jf14_15 : ((Rows.descentFewestRow.mapsOut == Tryz.prog.mapsAmong Tryz.f14.resultTypes.toList)) = true := by kernel_rfl
theorem jf14_16 : ((Rows.descentFewestRow.loops == (Tryz.f14.params.toList ++ Rows.descentFewestSpec.plain.varTypes Tryz.prog).any (Tryz.prog.loopsFrom ·))) = true := by kernel_rfl
theorem jf14_17 : ((Rows.descentFewestRow.wideKeys == (Tryz.f14.params.toList ++ Rows.descentFewestSpec.plain.varTypes Tryz.prog ++ Tryz.f14.resultTypes.toList).any (Tryz.prog.wideKeysFrom ·))) = true := by kernel_rfl
theorem jf14_18 : (Rows.descentFewestSpec.vars.all (Tryz.prog.varReadable ·)) = true := by kernel_rfl
theorem jf14_19 : (Tryz.f14.resultTypes.all (fun t => Tryz.prog.readableRec t && decide (t < Tryz.prog.types.size))) = true := by kernel_rfl
theorem jf14_20 : ((Rows.descentFewestRow.ifacesOut == Tryz.f14.resultTypes.toList.any (Tryz.prog.ifacesRec ·))) = true := by kernel_rfl
theorem jf14_21 : ((Rows.descentFewestRow.loopsOut == Tryz.f14.resultTypes.toList.any (Tryz.prog.loopsFrom ·))) = true := by kernel_rfl
theorem jf14_22 : ((Rows.descentFewestRow.plainKeys == Tryz.prog.plainKeys)) = true := by kernel_rfl
theorem jf14_23 : (Rows.descentFewestRow.shortTexts.isNone) = true := by kernel_rfl
theorem jf14_24 : (Tryz.prog.stopsHeard) = true := by kernel_rfl
theorem jf14_25 : (Tryz.prog.mayEnter) = true := by kernel_rfl
theorem jf14_26 : ((Rows.descentFewestRow.lifted == Tryz.prog.liftsFinal)) = true := by kernel_rfl
theorem jf14_27 : ((Tryz.prog.make == some Rows.descentFewestRow.make)) = true := by kernel_rfl
theorem jf14_28 : ((Rows.descentFewestRow.kinds == (if Rows.descentFewestRow.domain.isEmpty then [] else Tryz.f14.params.toList.map fun t => match Tryz.prog.underlying t with | some (.int k) => some k | _ => none))) = true := by kernel_rfl
theorem jf14_29 : ((Rows.descentFewestRow.pinned == Rows.descentFewestRow.pinnedBy)) = true := by kernel_rfl
theorem jf14_30 : ((Rows.descentFewestRow.veiled == (Tryz.f14.params.toList ++ Rows.descentFewestSpec.plain.varTypes Tryz.prog ++ Tryz.f14.resultTypes.toList).any (Tryz.prog.veiledRec ·))) = true := by kernel_rfl
theorem jf14_31 : (Rows.descentFewestRow.veiledFits Tryz.prog Tryz.f14.params.toList (Tryz.f14.params.toList ++ Rows.descentFewestSpec.plain.varTypes Tryz.prog ++ Tryz.f14.resultTypes.toList)) = true := by kernel_rfl
theorem fewestClosed : joinedFacts Tryz.prog 14 Tryz.f14 Rows.descentFewestSpec Rows.descentFewestRow = true := and_t14 (and_t14 (and_t14 (and_t14 (and_t14 (and_t14 (and_t14 (and_t14 (and_t14 (and_t14 (and_t14 (and_t14 (and_t14 (and_t14 (and_t14 (and_t14 (and_t14 (and_t14 (and_t14 (and_t14 (and_t14 (and_t14 (and_t14 (and_t14 (and_t14 (and_t14 (and_t14 (and_t14 (and_t14 (and_t14 (and_t14 (jf14_0) jf14_1) jf14_2) jf14_3) jf14_4) jf14_5) jf14_6) jf14_7) jf14_8) jf14_9) jf14_10) jf14_11) jf14_12) jf14_13) jf14_14) jf14_15) jf14_16) jf14_17) jf14_18) jf14_19) jf14_20) jf14_21) jf14_22) jf14_23) jf14_24) jf14_25) jf14_26) jf14_27) jf14_28) jf14_29) jf14_30) jf14_31
end Go.Am.Ds
