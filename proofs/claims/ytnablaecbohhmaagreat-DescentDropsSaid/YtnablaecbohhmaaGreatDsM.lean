/-
  What is used in the proof of a statement (part DsM); no condition.
-/
import Derived.Test.YtnablaecbohhmaaGreatRows
import Derived.JoinedOf
import Derived.ProofKit
set_option linter.all false
namespace Go.Am.Ds
open Go Go.Proofs Go.Proofs.YtnablaecbohhmaaGreat
set_option maxRecDepth 100000
theorem and_t3 {a b : Bool} (h : a = true) (g : b = true) : (a && b) = true := by rw [h, g]; rfl
theorem jf3_0 : (Rows.descentDropsRow.wf (OpenSpec.ofChange Rows.descentDropsSpec)) = true := by kernel_rfl
theorem jf3_1 : (laidOutB Tryz.prog) = true := by kernel_rfl
theorem jf3_2 : (mapsRowed Tryz.prog) = true := by kernel_rfl
theorem jf3_3 : (Tryz.f3.params.all (Tryz.prog.readableRec ·)) = true := by kernel_rfl
theorem jf3_4 : (namedTie Tryz.prog Rows.descentDropsRow.named Rows.descentDropsSpec.vars) = true := by kernel_rfl
theorem jf3_5 : ((Rows.descentDropsRow.stops == [])) = true := by kernel_rfl
theorem jf3_6 : ((Tryz.prog.stops == [])) = true := by kernel_rfl
theorem jf3_7 : ((Rows.descentDropsRow.knobs == [])) = true := by kernel_rfl
theorem jf3_8 : ((Tryz.prog.stopKnobs == [])) = true := by kernel_rfl
theorem jf3_9 : ((Rows.descentDropsRow.inPlace == Tryz.prog.inPlace 3)) = true := by kernel_rfl
theorem jf3_10 : ((Rows.descentDropsRow.unfollowed == Tryz.prog.unfollowed 3)) = true := by kernel_rfl
theorem jf3_11 : ((Rows.descentDropsRow.recurses == Tryz.prog.recurses 3)) = true := by kernel_rfl
theorem jf3_12 : ((Rows.descentDropsRow.named == Tryz.prog.varsNamed 3)) = true := by kernel_rfl
theorem jf3_13 : ((Rows.descentDropsRow.maps == (Tryz.f3.params.toList ++ Rows.descentDropsSpec.plain.varTypes Tryz.prog).any (Tryz.prog.mapsRec ·))) = true := by kernel_rfl
theorem jf3_14 : ((Rows.descentDropsRow.ifaces == (Tryz.f3.params.toList ++ Rows.descentDropsSpec.plain.varTypes Tryz.prog).any (Tryz.prog.ifacesRec ·))) = true := by kernel_rfl
theorem jf3_15 : ((Rows.descentDropsRow.mapsOut == Tryz.prog.mapsAmong Tryz.f3.resultTypes.toList)) = true := by kernel_rfl
theorem jf3_16 : ((Rows.descentDropsRow.loops == (Tryz.f3.params.toList ++ Rows.descentDropsSpec.plain.varTypes Tryz.prog).any (Tryz.prog.loopsFrom ·))) = true := by kernel_rfl
theorem jf3_17 : ((Rows.descentDropsRow.wideKeys == (Tryz.f3.params.toList ++ Rows.descentDropsSpec.plain.varTypes Tryz.prog ++ Tryz.f3.resultTypes.toList).any (Tryz.prog.wideKeysFrom ·))) = true := by kernel_rfl
theorem jf3_18 : (Rows.descentDropsSpec.vars.all (Tryz.prog.varReadable ·)) = true := by kernel_rfl
theorem jf3_19 : (Tryz.f3.resultTypes.all (fun t => Tryz.prog.readableRec t && decide (t < Tryz.prog.types.size))) = true := by kernel_rfl
theorem jf3_20 : ((Rows.descentDropsRow.ifacesOut == Tryz.f3.resultTypes.toList.any (Tryz.prog.ifacesRec ·))) = true := by kernel_rfl
theorem jf3_21 : ((Rows.descentDropsRow.loopsOut == Tryz.f3.resultTypes.toList.any (Tryz.prog.loopsFrom ·))) = true := by kernel_rfl
theorem jf3_22 : ((Rows.descentDropsRow.plainKeys == Tryz.prog.plainKeys)) = true := by kernel_rfl
theorem jf3_23 : (Rows.descentDropsRow.shortTexts.isNone) = true := by kernel_rfl
theorem jf3_24 : (Tryz.prog.stopsHeard) = true := by kernel_rfl
theorem jf3_25 : (Tryz.prog.mayEnter) = true := by kernel_rfl
theorem jf3_26 : ((Rows.descentDropsRow.lifted == Tryz.prog.liftsFinal)) = true := by kernel_rfl
theorem jf3_27 : ((Tryz.prog.make == some Rows.descentDropsRow.make)) = true := by kernel_rfl
theorem jf3_28 : ((Rows.descentDropsRow.kinds == (if Rows.descentDropsRow.domain.isEmpty then [] else Tryz.f3.params.toList.map fun t => match Tryz.prog.underlying t with | some (.int k) => some k | _ => none))) = true := by kernel_rfl
theorem jf3_29 : ((Rows.descentDropsRow.pinned == Rows.descentDropsRow.pinnedBy)) = true := by kernel_rfl
theorem jf3_30 : ((Rows.descentDropsRow.veiled == (Tryz.f3.params.toList ++ Rows.descentDropsSpec.plain.varTypes Tryz.prog ++ Tryz.f3.resultTypes.toList).any (Tryz.prog.veiledRec ·))) = true := by kernel_rfl
theorem jf3_31 : (Rows.descentDropsRow.veiledFits Tryz.prog Tryz.f3.params.toList (Tryz.f3.params.toList ++ Rows.descentDropsSpec.plain.varTypes Tryz.prog ++ Tryz.f3.resultTypes.toList)) = true := by kernel_rfl
theorem dropsClosed : joinedFacts Tryz.prog 3 Tryz.f3 Rows.descentDropsSpec Rows.descentDropsRow = true := and_t3 (and_t3 (and_t3 (and_t3 (and_t3 (and_t3 (and_t3 (and_t3 (and_t3 (and_t3 (and_t3 (and_t3 (and_t3 (and_t3 (and_t3 (and_t3 (and_t3 (and_t3 (and_t3 (and_t3 (and_t3 (and_t3 (and_t3 (and_t3 (and_t3 (and_t3 (and_t3 (and_t3 (and_t3 (and_t3 (and_t3 (jf3_0) jf3_1) jf3_2) jf3_3) jf3_4) jf3_5) jf3_6) jf3_7) jf3_8) jf3_9) jf3_10) jf3_11) jf3_12) jf3_13) jf3_14) jf3_15) jf3_16) jf3_17) jf3_18) jf3_19) jf3_20) jf3_21) jf3_22) jf3_23) jf3_24) jf3_25) jf3_26) jf3_27) jf3_28) jf3_29) jf3_30) jf3_31
end Go.Am.Ds
