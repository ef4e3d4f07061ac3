/-
  What is used in the proof of a statement (part DsN); no condition.
-/
import Derived.Test.YtnablaecbohhmaaGreatDsS
import Derived.Test.YtnablaecbohhmaaGreatDsK
import Derived.Test.YtnablaecbohhmaaGreatDsX
import Derived.Test.YtnablaecbohhmaaGreatDsM
set_option linter.all false
section
namespace Go.Am.Ds
open Go Go.Am Go.Proofs
theorem specOK : SpecOK Tryz.prog 0 spc := by
  intro f g hg args h r h' he
  unfold spc at hg
  cases h1 : Nat.beq f 125 with
  | true =>
    have e := Nat.eq_of_beq_eq_true h1
    subst e
    rw [h1, cond_true, Option.some.injEq] at hg
    subst hg
    exact ⟨Tryz.call125, srtV_ok (fun l h1 h2 => p125 l h1 h2) (Nat.zero_le _) he⟩
  | false =>
    rw [h1, cond_false] at hg
    cases h2 : Nat.beq f 158 with
    | true =>
      have e := Nat.eq_of_beq_eq_true h2
      subst e
      rw [h2, cond_true, Option.some.injEq] at hg
      subst hg
      exact ⟨Tryz.call158, cpyV_ok (fun h n m es l a b c d e f => cp158 h n m es l a b c d e f) he⟩
    | false => rw [h2, cond_false] at hg; cases hg
theorem p22 : VPure Tryz.prog 22 [] fun r => r = .bool true := sanity_of specOK
end Go.Am.Ds
end
section
namespace Go.Am.Ds
open Go Go.Am Go.Proofs Go.ChangeShapes Go.WideShapes Go.ChangeAt Go.RowKit Go.Proofs.YtnablaecbohhmaaGreat
set_option linter.unusedVariables false
set_option linter.unusedSimpArgs false
set_option maxRecDepth 100000

theorem cells32 : Tryz.prog.cellsOf 32 = 5 := by kernel_rfl
section
variable {H : Type} {enc : TypeId × Value → H} {w : World} {base : Nat}
abbrev isCrs (p : PV) : Prop := ∃ a b c d e, p = .agg [.int .i64 a, .int .i64 b, .int .i64 c, .int .i64 d, .int .i64 e]
theorem readsCrs : Reads enc Tryz.prog w 32 isCrs :=
  (reads_struct [fun p => ∃ n, p = .int .i64 n, fun p => ∃ n, p = .int .i64 n, fun p => ∃ n, p = .int .i64 n, fun p => ∃ n, p = .int .i64 n, fun p => ∃ n, p = .int .i64 n] Tryz.underlying32 rfl (fun i f Q hf hq => by
    match i, hf, hq with
    | 0, hf, hq => cases hf; cases hq; exact readsInt
    | 1, hf, hq => cases hf; cases hq; exact readsInt
    | 2, hf, hq => cases hf; cases hq; exact readsInt
    | 3, hf, hq => cases hf; cases hq; exact readsInt
    | 4, hf, hq => cases hf; cases hq; exact readsInt) (by simp [contig, cells3]) (by simp [total, cells3, cells32])).mono fun p ⟨ps, h, hl, hp⟩ => by
    match ps, hl with
    | [a, b, c, d, e], _ =>
      obtain ⟨x, rfl⟩ := hp 0 _ a rfl rfl
      obtain ⟨y, rfl⟩ := hp 1 _ b rfl rfl
      obtain ⟨z, rfl⟩ := hp 2 _ c rfl rfl
      obtain ⟨u, rfl⟩ := hp 3 _ d rfl rfl
      obtain ⟨v, rfl⟩ := hp 4 _ e rfl rfl
      exact ⟨x, y, z, u, v, h⟩
theorem argCrs : ArgOK enc Tryz.prog w base 32 isCrs := argOK_struct Tryz.underlying32 (fun p ⟨a, b, c, d, e, h⟩ => ⟨_, h⟩) readsCrs
end

set_option maxRecDepth 100000 in
theorem setsCalls (san : VPure Tryz.prog 22 [] fun r => r = .bool true) (H : Type) (enc : TypeId × Value → H) (W : World) (base : Nat) (args : Array Value) (ds gs : List (DataW H)) (before : List MemPlace)
    (hval : ∀ (j : Nat) t v, Tryz.f8.params[j]? = some t → args[j]? = some v → Value.okWide Tryz.prog W .any base t v)
    (hW : DataW.Whole enc Tryz.prog Tryz.f8.params.toList Rows.descentSetsSpec.vars false W args.toList ds gs before)
    (hsz : (DataW.weightsEach Tryz.prog (Tryz.f8.params.toList ++ Rows.descentSetsSpec.plain.varTypes Tryz.prog) (ds ++ gs)).all (· ≤ reachBytes) = true) :
    Calls Tryz.prog 8 args W fun e W' => ∃ v, e = .returned v ∧ Rows.descentSetsSpec.post enc Tryz.prog Tryz.f8 false true false false W args v W' := by
  refine law_contract kids slicesFull (kidsAll (by kernel_rfl)) Tryz.underlying4 (by kernel_rfl) (by kernel_rfl) hval hW hsz (by kernel_rfl) (fun l hl => ?_) [isStock, isInt, isCrs] (by kernel_rfl) (fun i t Q ht hq => ?_) (fun pvs hl hp => ?_)
  · rw [Tryz.params8] at hl
    match l, hl with
    | [_, _, _], _ => rfl
  · rw [Tryz.params8] at ht
    match i, ht, hq with
    | 0, ht, hq => cases ht; cases hq; exact argStock
    | 1, ht, hq => cases ht; cases hq; exact argInt
    | 2, ht, hq => cases ht; cases hq; exact argCrs
  · match pvs, hl with
    | [a0, a1, a2], _ =>
      obtain ⟨s0, rfl, hs0⟩ := hp 0 _ a0 rfl rfl
      obtain ⟨s1, rfl⟩ := hp 1 _ a1 rfl rfl
      obtain ⟨s2, t2, u2, v2, w2, rfl⟩ := hp 2 _ a2 rfl rfl
      exact p8 s0 s1 s2 t2 u2 v2 w2 hs0 true san rfl

set_option maxRecDepth 100000 in
theorem setsLifted (san : VPure Tryz.prog 22 [] fun r => r = .bool true) (os : Os) (started : os.Started) (H : Type) (enc : TypeId × Value → H) :
    ReturnsInHanded {} Tryz.checked os 8 .any (Rows.descentSetsSpec.pre6 enc Tryz.prog Tryz.f8 Rows.descentSetsRow.domain false) (Rows.descentSetsSpec.post enc Tryz.prog Tryz.f8 false true false false) := by
  refine returnsInHanded_of_change_sized (C := Tryz.checked) own started (by kernel_rfl) Tryz.func8
    (ChangeSpec.witness6 (enc := enc) (C := Tryz.checked) false ⟨#[], #[.agg #[.slice none 0 0], .int .i64 0, .agg #[.int .i64 0, .int .i64 0, .int .i64 0, .int .i64 0, .int .i64 0]], []⟩ 8 (by kernel_rfl) (by kernel_rfl) (by kernel_rfl) (by kernel_rfl)) ?_
  intro W base args ds gs before hval hW _ hsz _
  exact setsCalls san H enc W base args ds gs before hval hW hsz
theorem setsSaid_of (san : VPure Tryz.prog 22 [] fun r => r = .bool true) : Rows.DescentSetsSaid :=
  OpenClaim.holds_of_wide 8 Tryz.f8 rfl rfl rfl rfl rfl rfl rfl ⟨rfl, rfl, rfl, rfl, rfl⟩ rfl rfl rfl rfl rfl (by kernel_rfl) Tryz.func8 setsClosed
    (of_decide_eq_true (by kernel_rfl)) (by unfold Func.isWrapper; first | (rw [if_pos (by decide +kernel)]; kernel_rfl) | (rw [if_neg (by decide +kernel)]; exact ⟨rfl, rfl⟩))
    (fun os started H enc _ => setsLifted san os started H enc)
end Go.Am.Ds
end
section
namespace Go.Proofs.YtnablaecbohhmaaGreat
theorem descentSets_holds : Rows.DescentSetsSaid := Go.Am.Ds.setsSaid_of Go.Am.Ds.p22
end Go.Proofs.YtnablaecbohhmaaGreat
end
