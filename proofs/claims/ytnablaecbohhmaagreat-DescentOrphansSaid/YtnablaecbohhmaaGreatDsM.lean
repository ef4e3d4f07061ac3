/-
  What is used in the proof of a statement (part DsM); no condition.
-/
import Derived.Test.YtnablaecbohhmaaGreatRows
import Derived.JoinedOf
import Derived.ProofKit
set_option linter.all false
namespace Go.Am.Ds
open Go Go.Proofs Go.Proofs.YtnablaecbohhmaaGreat
set_option maxRecDepth 100000
theorem and_t13 {a b : Bool} (h : a = true) (g : b = true) : (a && b) = true := by rw [h, g]; rfl
theorem jf13_0 : (Rows.descentOrphansRow.wf (OpenSpec.ofChange Rows.descentOrphansSpec)) = true := by kernel_rfl
theorem jf13_1 : (laidOutB Tryz.prog) = true := by kernel_rfl
theorem jf13_2 : (mapsRowed Tryz.prog) = true := by kernel_rfl
theorem jf13_3 : (Tryz.f13.params.all (Tryz.prog.readableRec ·)) = true := by kernel_rfl
theorem jf13_4 : (namedTie Tryz.prog Rows.descentOrphansRow.named Rows.descentOrphansSpec.vars) = true := by kernel_rfl
theorem jf13_5 : ((Rows.descentOrphansRow.stops == [])) = true := by kernel_rfl
theorem jf13_6 : ((Tryz.prog.stops == [])) = true := by kernel_rfl
theorem jf13_7 : ((Rows.descentOrphansRow.knobs == [])) = true := by kernel_rfl
theorem jf13_8 : ((Tryz.prog.stopKnobs == [])) = true := by kernel_rfl
theorem jf13_9 : ((Rows.descentOrphansRow.inPlace == Tryz.prog.inPlace 13)) = true := by kernel_rfl
theorem jf13_10 : ((Rows.descentOrphansRow.unfollowed == Tryz.prog.unfollowed 13)) = true := by kernel_rfl
theorem jf13_11 : ((Rows.descentOrphansRow.recurses == Tryz.prog.recurses 13)) = true := by kernel_rfl
theorem jf13_12 : ((Rows.descentOrphansRow.named == Tryz.prog.varsNamed 13)) = true := by kernel_rfl
theorem jf13_13 : ((Rows.descentOrphansRow.maps == (Tryz.f13.params.toList ++ Rows.descentOrphansSpec.plain.varTypes Tryz.prog).any (Tryz.prog.mapsRec ·))) = true := by kernel_rfl
theorem jf13_14 : ((Rows.descentOrphansRow.ifaces == (Tryz.f13.params.toList ++ Rows.descentOrphansSpec.plain.varTypes Tryz.prog).any (Tryz.prog.ifacesRec ·))) = true := by kernel_rfl
theorem jf13_15 : ((Rows.descentOrphansRow.mapsOut == Tryz.prog.mapsAmong Tryz.f13.resultTypes.toList)) = true := by kernel_rfl
theorem jf13_16 : ((Rows.descentOrphansRow.loops == (Tryz.f13.params.toList ++ Rows.descentOrphansSpec.plain.varTypes Tryz.prog).any (Tryz.prog.loopsFrom ·))) = true := by kernel_rfl
theorem jf13_17 : ((Rows.descentOrphansRow.wideKeys == (Tryz.f13.params.toList ++ Rows.descentOrphansSpec.plain.varTypes Tryz.prog ++ Tryz.f13.resultTypes.toList).any (Tryz.prog.wideKeysFrom ·))) = true := by kernel_rfl
theorem jf13_18 : (Rows.descentOrphansSpec.vars.all (Tryz.prog.varReadable ·)) = true := by kernel_rfl
theorem jf13_19 : (Tryz.f13.resultTypes.all (fun t => Tryz.prog.readableRec t && decide (t < Tryz.prog.types.size))) = true := by kernel_rfl
theorem jf13_20 : ((Rows.descentOrphansRow.ifacesOut == Tryz.f13.resultTypes.toList.any (Tryz.prog.ifacesRec ·))) = true := by kernel_rfl
theorem jf13_21 : ((Rows.descentOrphansRow.loopsOut == Tryz.f13.resultTypes.toList.any (Tryz.prog.loopsFrom ·))) = true := by kernel_rfl
theorem jf13_22 : ((Rows.descentOrphansRow.plainKeys == Tryz.prog.plainKeys)) = true := by kernel_rfl
theorem jf13_23 : (Rows.descentOrphansRow.shortTexts.isNone) = true := by kernel_rfl
theorem jf13_24 : (Tryz.prog.stopsHeard) = true := by kernel_rfl
theorem jf13_25 : (Tryz.prog.mayEnter) = true := by kernel_rfl
theorem jf13_26 : ((Rows.descentOrphansRow.lifted == Tryz.prog.liftsFinal)) = true := by kernel_rfl
theorem jf13_27 : ((Tryz.prog.make == some Rows.descentOrphansRow.make)) = true := by kernel_rfl
theorem jf13_28 : ((Rows.descentOrphansRow.kinds == (if Rows.descentOrphansRow.domain.isEmpty then [] else Tryz.f13.params.toList.map fun t => match Tryz.prog.underlying t with | some (.int k) => some k | _ => none))) = true := by kernel_rfl
theorem jf13_29 : ((Rows.descentOrphansRow.pinned == Rows.descentOrphansRow.pinnedBy)) = true := by kernel_rfl
theorem jf13_30 : ((Rows.descentOrphansRow.veiled == (Tryz.f13.params.toList ++ Rows.descentOrphansSpec.plain.varTypes Tryz.prog ++ Tryz.f13.resultTypes.toList).any (Tryz.prog.veiledRec ·))) = true := by kernel_rfl
theorem jf13_31 : (Rows.descentOrphansRow.veiledFits Tryz.prog Tryz.f13.params.toList (Tryz.f13.params.toList ++ Rows.descentOrphansSpec.plain.varTypes Tryz.prog ++ Tryz.f13.resultTypes.toList)) = true := by kernel_rfl
theorem orphansClosed : joinedFacts Tryz.prog 13 Tryz.f13 Rows.descentOrphansSpec Rows.descentOrphansRow = true := and_t13 (and_t13 (and_t13 (and_t13 (and_t13 (and_t13 (and_t13 (and_t13 (and_t13 (and_t13 (and_t13 (and_t13 (and_t13 (and_t13 (and_t13 (and_t13 (and_t13 (and_t13 (and_t13 (and_t13 (and_t13 (and_t13 (and_t13 (and_t13 (and_t13 (and_t13 (and_t13 (and_t13 (and_t13 (and_t13 (and_t13 (jf13_0) jf13_1) jf13_2) jf13_3) jf13_4) jf13_5) jf13_6) jf13_7) jf13_8) jf13_9) jf13_10) jf13_11) jf13_12) jf13_13) jf13_14) jf13_15) jf13_16) jf13_17) jf13_18) jf13_19) jf13_20) jf13_21) jf13_22) jf13_23) jf13_24) jf13_25) jf13_26) jf13_27) jf13_28) jf13_29) jf13_30) jf13_31
end Go.Am.Ds
