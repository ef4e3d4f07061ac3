/-
  What is used in the proof of a statement (part DsN); no condition.
-/
import Derived.Test.YtnablaecbohhmaaGreatDsK
import Derived.Test.YtnablaecbohhmaaGreatDsM
import Derived.Test.YtnablaecbohhmaaGreatDsS
set_option linter.all false
/-
  Descent: DescentParts' statement, given that sanity answers true.
-/
section
namespace Go.Am.Ds
open Go Go.Am Go.Proofs Go.ChangeShapes Go.WideShapes Go.ChangeAt Go.RowKit Go.Proofs.YtnablaecbohhmaaGreat
theorem partsSaid_of (san : VPure Tryz.prog 22 [] fun r => r = .bool true) : Rows.DescentPartsSaid :=
  OpenClaim.holds_of_wide 6 Tryz.f6 rfl rfl rfl rfl rfl rfl rfl ⟨rfl, rfl, rfl, rfl, rfl⟩ rfl rfl rfl rfl rfl (by kernel_rfl) Tryz.func6 partsClosed
    (of_decide_eq_true (by kernel_rfl)) (by unfold Func.isWrapper; first | (rw [if_pos (by decide +kernel)]; kernel_rfl) | (rw [if_neg (by decide +kernel)]; exact ⟨rfl, rfl⟩))
    (fun os started H enc _ => partsLifted san os started H enc)
end Go.Am.Ds
end

section
namespace Go.Am.Ds
open Go Go.Am Go.Proofs Go.Proofs.YtnablaecbohhmaaGreat
theorem specOK : SpecOK Tryz.prog 0 spc := by
  intro f g hg args h r h' he
  unfold spc at hg
  cases h1 : Nat.beq f 125 with
  | true =>
    have e := Nat.eq_of_beq_eq_true h1
    subst e
    rw [h1, cond_true, Option.some.injEq] at hg
    subst hg
    exact ⟨Tryz.call125, srtV_ok (fun l h1 h2 => p125 l h1 h2) (Nat.zero_le _) he⟩
  | false =>
    rw [h1, cond_false] at hg
    cases h2 : Nat.beq f 158 with
    | true =>
      have e := Nat.eq_of_beq_eq_true h2
      subst e
      rw [h2, cond_true, Option.some.injEq] at hg
      subst hg
      exact ⟨Tryz.call158, cpyV_ok (fun h n m es l a b c d e f => cp158 h n m es l a b c d e f) he⟩
    | false => rw [h2, cond_false] at hg; cases hg
/-- the examples hold -/
theorem p22 : VPure Tryz.prog 22 [] fun r => r = .bool true := sanity_of specOK
/-- DescentParts -/
theorem partsSaid : Rows.DescentPartsSaid := partsSaid_of p22
end Go.Am.Ds
end

section
namespace Go.Proofs.YtnablaecbohhmaaGreat
theorem descentParts_holds : Rows.DescentPartsSaid := Go.Am.Ds.partsSaid
end Go.Proofs.YtnablaecbohhmaaGreat
end
