/-
  What is used in the proof of a statement (part DsM); no condition.
-/
import Derived.Test.YtnablaecbohhmaaGreatRows
import Derived.JoinedOf
import Derived.ProofKit
set_option linter.all false
/-
  Descent: the closed facts of DescentParts' row, limb by limb (in one piece they pass the kernel's memory).
-/
section
namespace Go.Am.Ds
open Go Go.Proofs Go.Proofs.YtnablaecbohhmaaGreat
set_option maxRecDepth 100000
theorem and_t {a b : Bool} (h : a = true) (g : b = true) : (a && b) = true := by rw [h, g]; rfl
theorem jf_0 : (Rows.descentPartsRow.wf (OpenSpec.ofChange Rows.descentPartsSpec)) = true := by kernel_rfl
theorem jf_1 : (laidOutB Tryz.prog) = true := by kernel_rfl
theorem jf_2 : (mapsRowed Tryz.prog) = true := by kernel_rfl
theorem jf_3 : (Tryz.f6.params.all (Tryz.prog.readableRec ·)) = true := by kernel_rfl
theorem jf_4 : (namedTie Tryz.prog Rows.descentPartsRow.named Rows.descentPartsSpec.vars) = true := by kernel_rfl
theorem jf_5 : ((Rows.descentPartsRow.stops == [])) = true := by kernel_rfl
theorem jf_6 : ((Tryz.prog.stops == [])) = true := by kernel_rfl
theorem jf_7 : ((Rows.descentPartsRow.knobs == [])) = true := by kernel_rfl
theorem jf_8 : ((Tryz.prog.stopKnobs == [])) = true := by kernel_rfl
theorem jf_9 : ((Rows.descentPartsRow.inPlace == Tryz.prog.inPlace 6)) = true := by kernel_rfl
theorem jf_10 : ((Rows.descentPartsRow.unfollowed == Tryz.prog.unfollowed 6)) = true := by kernel_rfl
theorem jf_11 : ((Rows.descentPartsRow.recurses == Tryz.prog.recurses 6)) = true := by kernel_rfl
theorem jf_12 : ((Rows.descentPartsRow.named == Tryz.prog.varsNamed 6)) = true := by kernel_rfl
theorem jf_13 : ((Rows.descentPartsRow.maps == (Tryz.f6.params.toList ++ Rows.descentPartsSpec.plain.varTypes Tryz.prog).any (Tryz.prog.mapsRec ·))) = true := by kernel_rfl
theorem jf_14 : ((Rows.descentPartsRow.ifaces == (Tryz.f6.params.toList ++ Rows.descentPartsSpec.plain.varTypes Tryz.prog).any (Tryz.prog.ifacesRec ·))) = true := by kernel_rfl
theorem jf_15 : ((Rows.descentPartsRow.mapsOut == Tryz.prog.mapsAmong Tryz.f6.resultTypes.toList)) = true := by kernel_rfl
theorem jf_16 : ((Rows.descentPartsRow.loops == (Tryz.f6.params.toList ++ Rows.descentPartsSpec.plain.varTypes Tryz.prog).any (Tryz.prog.loopsFrom ·))) = true := by kernel_rfl
theorem jf_17 : ((Rows.descentPartsRow.wideKeys == (Tryz.f6.params.toList ++ Rows.descentPartsSpec.plain.varTypes Tryz.prog ++ Tryz.f6.resultTypes.toList).any (Tryz.prog.wideKeysFrom ·))) = true := by kernel_rfl
theorem jf_18 : (Rows.descentPartsSpec.vars.all (Tryz.prog.varReadable ·)) = true := by kernel_rfl
theorem jf_19 : (Tryz.f6.resultTypes.all (fun t => Tryz.prog.readableRec t && decide (t < Tryz.prog.types.size))) = true := by kernel_rfl
theorem jf_20 : ((Rows.descentPartsRow.ifacesOut == Tryz.f6.resultTypes.toList.any (Tryz.prog.ifacesRec ·))) = true := by kernel_rfl
theorem jf_21 : ((Rows.descentPartsRow.loopsOut == Tryz.f6.resultTypes.toList.any (Tryz.prog.loopsFrom ·))) = true := by kernel_rfl
theorem jf_22 : ((Rows.descentPartsRow.plainKeys == Tryz.prog.plainKeys)) = true := by kernel_rfl
theorem jf_23 : (Rows.descentPartsRow.shortTexts.isNone) = true := by kernel_rfl
theorem jf_24 : (Tryz.prog.stopsHeard) = true := by kernel_rfl
theorem jf_25 : (Tryz.prog.mayEnter) = true := by kernel_rfl
theorem jf_26 : ((Rows.descentPartsRow.lifted == Tryz.prog.liftsFinal)) = true := by kernel_rfl
theorem jf_27 : ((Tryz.prog.make == some Rows.descentPartsRow.make)) = true := by kernel_rfl
theorem jf_28 : ((Rows.descentPartsRow.kinds == (if Rows.descentPartsRow.domain.isEmpty then [] else Tryz.f6.params.toList.map fun t => match Tryz.prog.underlying t with | some (.int k) => some k | _ => none))) = true := by kernel_rfl
theorem jf_29 : ((Rows.descentPartsRow.pinned == Rows.descentPartsRow.pinnedBy)) = true := by kernel_rfl
theorem jf_30 : ((Rows.descentPartsRow.veiled == (Tryz.f6.params.toList ++ Rows.descentPartsSpec.plain.varTypes Tryz.prog ++ Tryz.f6.resultTypes.toList).any (Tryz.prog.veiledRec ·))) = true := by kernel_rfl
theorem jf_31 : (Rows.descentPartsRow.veiledFits Tryz.prog Tryz.f6.params.toList (Tryz.f6.params.toList ++ Rows.descentPartsSpec.plain.varTypes Tryz.prog ++ Tryz.f6.resultTypes.toList)) = true := by kernel_rfl
theorem partsClosed : joinedFacts Tryz.prog 6 Tryz.f6 Rows.descentPartsSpec Rows.descentPartsRow = true := and_t (and_t (and_t (and_t (and_t (and_t (and_t (and_t (and_t (and_t (and_t (and_t (and_t (and_t (and_t (and_t (and_t (and_t (and_t (and_t (and_t (and_t (and_t (and_t (and_t (and_t (and_t (and_t (and_t (and_t (and_t (jf_0) jf_1) jf_2) jf_3) jf_4) jf_5) jf_6) jf_7) jf_8) jf_9) jf_10) jf_11) jf_12) jf_13) jf_14) jf_15) jf_16) jf_17) jf_18) jf_19) jf_20) jf_21) jf_22) jf_23) jf_24) jf_25) jf_26) jf_27) jf_28) jf_29) jf_30) jf_31
end Go.Am.Ds
end
