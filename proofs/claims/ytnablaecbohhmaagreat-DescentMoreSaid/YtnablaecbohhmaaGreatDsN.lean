/-
  What is used in the proof of a statement (part DsN); no condition.
-/
import Derived.Test.YtnablaecbohhmaaGreatDsS
import Derived.Test.YtnablaecbohhmaaGreatDsK
import Derived.Test.YtnablaecbohhmaaGreatDsX
import Derived.Test.YtnablaecbohhmaaGreatDsM
set_option linter.all false
section
namespace Go.Am.Ds
open Go Go.Am Go.Proofs
theorem specOK : SpecOK Tryz.prog 0 spc := by
  intro f g hg args h r h' he
  unfold spc at hg
  cases h1 : Nat.beq f 125 with
  | true =>
    have e := Nat.eq_of_beq_eq_true h1
    subst e
    rw [h1, cond_true, Option.some.injEq] at hg
    subst hg
    exact ⟨Tryz.call125, srtV_ok (fun l h1 h2 => p125 l h1 h2) (Nat.zero_le _) he⟩
  | false =>
    rw [h1, cond_false] at hg
    cases h2 : Nat.beq f 158 with
    | true =>
      have e := Nat.eq_of_beq_eq_true h2
      subst e
      rw [h2, cond_true, Option.some.injEq] at hg
      subst hg
      exact ⟨Tryz.call158, cpyV_ok (fun h n m es l a b c d e f => cp158 h n m es l a b c d e f) he⟩
    | false => rw [h2, cond_false] at hg; cases hg
theorem p22 : VPure Tryz.prog 22 [] fun r => r = .bool true := sanity_of specOK
end Go.Am.Ds
end
section
namespace Go.Am.Ds
open Go Go.Am Go.Proofs Go.ChangeShapes Go.WideShapes Go.ChangeAt Go.RowKit Go.Proofs.YtnablaecbohhmaaGreat
set_option linter.unusedVariables false
set_option linter.unusedSimpArgs false
set_option maxRecDepth 100000

theorem cells38 : Tryz.prog.cellsOf 38 = 2 := by kernel_rfl
theorem cells92 : Tryz.prog.cellsOf 92 = 2 := by kernel_rfl
section
variable {H : Type} {enc : TypeId × Value → H} {w : World} {base : Nat}
abbrev isKin (p : PV) : Prop := ∃ a b, p = .agg [.int .i64 a, .int .i64 b]
theorem readsKin : Reads enc Tryz.prog w 38 isKin :=
  (reads_struct [fun p => ∃ n, p = .int .i64 n, fun p => ∃ n, p = .int .i64 n] Tryz.underlying38 rfl (fun i f Q hf hq => by
    match i, hf, hq with
    | 0, hf, hq => cases hf; cases hq; exact readsInt
    | 1, hf, hq => cases hf; cases hq; exact readsInt) (by simp [contig, cells3]) (by simp [total, cells3, cells38])).mono fun p ⟨ps, h, hl, hp⟩ => by
    match ps, hl with
    | [a, b], _ =>
      obtain ⟨x, rfl⟩ := hp 0 _ a rfl rfl
      obtain ⟨y, rfl⟩ := hp 1 _ b rfl rfl
      exact ⟨x, y, h⟩
theorem argKin : ArgOK enc Tryz.prog w base 38 isKin := argOK_struct Tryz.underlying38 (fun p ⟨a, b, h⟩ => ⟨_, h⟩) readsKin
abbrev isDesc (p : PV) : Prop := ∃ (l : List Int) (n : Int), p = .agg [ints l, .int .i64 n] ∧ l.length < inex
theorem readsDesc : Reads enc Tryz.prog w 92 isDesc :=
  (reads_struct [fun p => ∃ l : List Int, p = ints l ∧ l.length < inex, fun p => ∃ n, p = .int .i64 n] Tryz.underlying92 rfl (fun i f Q hf hq => by
    match i, hf, hq with
    | 0, hf, hq => cases hf; cases hq; exact readsInts
    | 1, hf, hq => cases hf; cases hq; exact readsInt) (by simp [contig, cells25, cells3]) (by simp [total, cells25, cells3, cells92])).mono fun p ⟨ps, h, hl, hp⟩ => by
    match ps, hl with
    | [a, b], _ =>
      obtain ⟨x, rfl, hx⟩ := hp 0 _ a rfl rfl
      obtain ⟨y, rfl⟩ := hp 1 _ b rfl rfl
      exact ⟨x, y, h, hx⟩
theorem argDesc : ArgOK enc Tryz.prog w base 92 isDesc := argOK_struct Tryz.underlying92 (fun p ⟨a, b, h, _⟩ => ⟨_, h⟩) readsDesc
end

set_option maxRecDepth 100000 in
theorem moreCalls (san : VPure Tryz.prog 22 [] fun r => r = .bool true) (H : Type) (enc : TypeId × Value → H) (W : World) (base : Nat) (args : Array Value) (ds gs : List (DataW H)) (before : List MemPlace)
    (hval : ∀ (j : Nat) t v, Tryz.f20.params[j]? = some t → args[j]? = some v → Value.okWide Tryz.prog W .any base t v)
    (hW : DataW.Whole enc Tryz.prog Tryz.f20.params.toList Rows.descentMoreSpec.vars false W args.toList ds gs before)
    (hsz : (DataW.weightsEach Tryz.prog (Tryz.f20.params.toList ++ Rows.descentMoreSpec.plain.varTypes Tryz.prog) (ds ++ gs)).all (· ≤ reachBytes) = true) :
    Calls Tryz.prog 20 args W fun e W' => ∃ v, e = .returned v ∧ Rows.descentMoreSpec.post enc Tryz.prog Tryz.f20 false true false false W args v W' := by
  refine law_contract kids slicesFull (kidsAll (by kernel_rfl)) Tryz.underlying4 (by kernel_rfl) (by kernel_rfl) hval hW hsz (by kernel_rfl) (fun l hl => ?_) [isStock, isKin, isInt, isInt, isDesc] (by kernel_rfl) (fun i t Q ht hq => ?_) (fun pvs hl hp => ?_)
  · rw [Tryz.params20] at hl
    match l, hl with
    | [_, _, _, _, _], _ => rfl
  · rw [Tryz.params20] at ht
    match i, ht, hq with
    | 0, ht, hq => cases ht; cases hq; exact argStock
    | 1, ht, hq => cases ht; cases hq; exact argKin
    | 2, ht, hq => cases ht; cases hq; exact argInt
    | 3, ht, hq => cases ht; cases hq; exact argInt
    | 4, ht, hq => cases ht; cases hq; exact argDesc
  · match pvs, hl with
    | [a0, a1, a2, a3, a4], _ =>
      obtain ⟨s0, rfl, hs0⟩ := hp 0 _ a0 rfl rfl
      obtain ⟨s1, t1, rfl⟩ := hp 1 _ a1 rfl rfl
      obtain ⟨s2, rfl⟩ := hp 2 _ a2 rfl rfl
      obtain ⟨s3, rfl⟩ := hp 3 _ a3 rfl rfl
      obtain ⟨s4, t4, rfl, hs4⟩ := hp 4 _ a4 rfl rfl
      exact p20 s0 s1 t1 s2 s3 s4 t4 hs0 hs4 true san rfl

set_option maxRecDepth 100000 in
theorem moreLifted (san : VPure Tryz.prog 22 [] fun r => r = .bool true) (os : Os) (started : os.Started) (H : Type) (enc : TypeId × Value → H) :
    ReturnsInHanded {} Tryz.checked os 20 .any (Rows.descentMoreSpec.pre6 enc Tryz.prog Tryz.f20 Rows.descentMoreRow.domain false) (Rows.descentMoreSpec.post enc Tryz.prog Tryz.f20 false true false false) := by
  refine returnsInHanded_of_change_sized (C := Tryz.checked) own started (by kernel_rfl) Tryz.func20
    (ChangeSpec.witness6 (enc := enc) (C := Tryz.checked) false ⟨#[], #[.agg #[.slice none 0 0], .agg #[.int .i64 0, .int .i64 0], .int .i64 0, .int .i64 0, .agg #[.slice none 0 0, .int .i64 0]], []⟩ 8 (by kernel_rfl) (by kernel_rfl) (by kernel_rfl) (by kernel_rfl)) ?_
  intro W base args ds gs before hval hW _ hsz _
  exact moreCalls san H enc W base args ds gs before hval hW hsz
theorem moreSaid_of (san : VPure Tryz.prog 22 [] fun r => r = .bool true) : Rows.DescentMoreSaid :=
  OpenClaim.holds_of_wide 20 Tryz.f20 rfl rfl rfl rfl rfl rfl rfl ⟨rfl, rfl, rfl, rfl, rfl⟩ rfl rfl rfl rfl rfl (by kernel_rfl) Tryz.func20 moreClosed
    (of_decide_eq_true (by kernel_rfl)) (by unfold Func.isWrapper; first | (rw [if_pos (by decide +kernel)]; kernel_rfl) | (rw [if_neg (by decide +kernel)]; exact ⟨rfl, rfl⟩))
    (fun os started H enc _ => moreLifted san os started H enc)
end Go.Am.Ds
end
section
namespace Go.Proofs.YtnablaecbohhmaaGreat
theorem descentMore_holds : Rows.DescentMoreSaid := Go.Am.Ds.moreSaid_of Go.Am.Ds.p22
end Go.Proofs.YtnablaecbohhmaaGreat
end
