/-
  What is used in the proof of a statement (part DsN); no condition.
-/
import Derived.Test.YtnablaecbohhmaaGreatDsS
import Derived.Test.YtnablaecbohhmaaGreatDsK
import Derived.Test.YtnablaecbohhmaaGreatDsX
import Derived.Test.YtnablaecbohhmaaGreatDsM
set_option linter.all false
section
namespace Go.Am.Ds
open Go Go.Am Go.Proofs
theorem specOK : SpecOK Tryz.prog 0 spc := by
  intro f g hg args h r h' he
  unfold spc at hg
  cases h1 : Nat.beq f 125 with
  | true =>
    have e := Nat.eq_of_beq_eq_true h1
    subst e
    rw [h1, cond_true, Option.some.injEq] at hg
    subst hg
    exact ⟨Tryz.call125, srtV_ok (fun l h1 h2 => p125 l h1 h2) (Nat.zero_le _) he⟩
  | false =>
    rw [h1, cond_false] at hg
    cases h2 : Nat.beq f 158 with
    | true =>
      have e := Nat.eq_of_beq_eq_true h2
      subst e
      rw [h2, cond_true, Option.some.injEq] at hg
      subst hg
      exact ⟨Tryz.call158, cpyV_ok (fun h n m es l a b c d e f => cp158 h n m es l a b c d e f) he⟩
    | false => rw [h2, cond_false] at hg; cases hg
theorem p22 : VPure Tryz.prog 22 [] fun r => r = .bool true := sanity_of specOK
end Go.Am.Ds
end
section
namespace Go.Am.Ds
open Go Go.Am Go.Proofs Go.ChangeShapes Go.WideShapes Go.ChangeAt Go.RowKit Go.Proofs.YtnablaecbohhmaaGreat
set_option linter.unusedVariables false
set_option linter.unusedSimpArgs false
set_option maxRecDepth 100000

theorem cells5 : Tryz.prog.cellsOf 5 = 1 := by kernel_rfl
theorem bytes5 : Tryz.prog.bytesOf 5 = 1 := by kernel_rfl
theorem cells105 : Tryz.prog.cellsOf 105 = 1 := by kernel_rfl
section
variable {H : Type} {enc : TypeId × Value → H} {w : World} {base : Nat}
abbrev isU8 (p : PV) : Prop := ∃ n : Int, p = .int .u8 n ∧ 0 ≤ n ∧ n ≤ 255
theorem readsU8 : Reads enc Tryz.prog w 5 isU8 := (reads_int Tryz.underlying5 cells5).mono fun p ⟨n, h, hw⟩ => ⟨n, h, by
  have h2 : (decide (IntKind.min .u8 ≤ n) && decide (n ≤ IntKind.max .u8)) = true := hw
  rw [Bool.and_eq_true, decide_eq_true_eq, decide_eq_true_eq] at h2; exact h2⟩
theorem map_u8 : ∀ {es : List PV}, (∀ e ∈ es, isU8 e) → ∃ l : List Int, es = l.map (.int .u8) ∧ ∀ x ∈ l, 0 ≤ x ∧ x ≤ 255
  | [], _ => ⟨[], rfl, by simp⟩
  | a :: r, h => by
    obtain ⟨n, h1, h2⟩ := h a List.mem_cons_self
    obtain ⟨l, h3, h4⟩ := map_u8 (es := r) fun e he => h e (List.mem_cons_of_mem _ he)
    exact ⟨n :: l, by rw [h1, h3]; rfl, fun x hx => by
      rcases List.mem_cons.1 hx with rfl | hx
      · exact h2
      · exact h4 x hx⟩
abbrev isU8s (p : PV) : Prop := ∃ l : List Int, p = .vec (l.map (.int .u8)) ∧ l.length < inex ∧ ∀ x ∈ l, 0 ≤ x ∧ x ≤ 255
theorem readsU8s : Reads enc Tryz.prog w 105 isU8s :=
  (reads_slice Tryz.underlying105 cells105 (by rw [cells5]; decide) (by rw [bytes5]; decide) readsU8).mono fun p ⟨es, h, h2, h3⟩ => by
    obtain ⟨l, rfl, h4⟩ := map_u8 h2
    exact ⟨l, h, by simpa using h3, h4⟩
theorem argU8s : ArgOK enc Tryz.prog w base 105 isU8s := argOK_one (fun v h => by obtain ⟨a, l, c, rfl⟩ := okWide_slice Tryz.underlying105 h; rfl) (fun p ⟨l, h, _⟩ => by subst h; rfl) readsU8s
end

set_option maxRecDepth 100000 in
theorem arisesCalls (san : VPure Tryz.prog 22 [] fun r => r = .bool true) (H : Type) (enc : TypeId × Value → H) (W : World) (base : Nat) (args : Array Value) (ds gs : List (DataW H)) (before : List MemPlace)
    (hval : ∀ (j : Nat) t v, Tryz.f12.params[j]? = some t → args[j]? = some v → Value.okWide Tryz.prog W .any base t v)
    (hW : DataW.Whole enc Tryz.prog Tryz.f12.params.toList Rows.descentArisesSpec.vars false W args.toList ds gs before)
    (hsz : (DataW.weightsEach Tryz.prog (Tryz.f12.params.toList ++ Rows.descentArisesSpec.plain.varTypes Tryz.prog) (ds ++ gs)).all (· ≤ reachBytes) = true) :
    Calls Tryz.prog 12 args W fun e W' => ∃ v, e = .returned v ∧ Rows.descentArisesSpec.post enc Tryz.prog Tryz.f12 false true false false W args v W' := by
  refine law_contract kids slicesFull (kidsAll (by kernel_rfl)) Tryz.underlying4 (by kernel_rfl) (by kernel_rfl) hval hW hsz (by kernel_rfl) (fun l hl => ?_) [isStock, isU8s] (by kernel_rfl) (fun i t Q ht hq => ?_) (fun pvs hl hp => ?_)
  · rw [Tryz.params12] at hl
    match l, hl with
    | [_, _], _ => rfl
  · rw [Tryz.params12] at ht
    match i, ht, hq with
    | 0, ht, hq => cases ht; cases hq; exact argStock
    | 1, ht, hq => cases ht; cases hq; exact argU8s
  · match pvs, hl with
    | [a0, a1], _ =>
      obtain ⟨s0, rfl, hs0⟩ := hp 0 _ a0 rfl rfl
      obtain ⟨s1, rfl, hs1, ht1⟩ := hp 1 _ a1 rfl rfl
      exact p12 s0 s1 ht1 hs0 hs1 true san rfl

set_option maxRecDepth 100000 in
theorem arisesLifted (san : VPure Tryz.prog 22 [] fun r => r = .bool true) (os : Os) (started : os.Started) (H : Type) (enc : TypeId × Value → H) :
    ReturnsInHanded {} Tryz.checked os 12 .any (Rows.descentArisesSpec.pre6 enc Tryz.prog Tryz.f12 Rows.descentArisesRow.domain false) (Rows.descentArisesSpec.post enc Tryz.prog Tryz.f12 false true false false) := by
  refine returnsInHanded_of_change_sized (C := Tryz.checked) own started (by kernel_rfl) Tryz.func12
    (ChangeSpec.witness6 (enc := enc) (C := Tryz.checked) false ⟨#[], #[.agg #[.slice none 0 0], .slice none 0 0], []⟩ 8 (by kernel_rfl) (by kernel_rfl) (by kernel_rfl) (by kernel_rfl)) ?_
  intro W base args ds gs before hval hW _ hsz _
  exact arisesCalls san H enc W base args ds gs before hval hW hsz
theorem arisesSaid_of (san : VPure Tryz.prog 22 [] fun r => r = .bool true) : Rows.DescentArisesSaid :=
  OpenClaim.holds_of_wide 12 Tryz.f12 rfl rfl rfl rfl rfl rfl rfl ⟨rfl, rfl, rfl, rfl, rfl⟩ rfl rfl rfl rfl rfl (by kernel_rfl) Tryz.func12 arisesClosed
    (of_decide_eq_true (by kernel_rfl)) (by unfold Func.isWrapper; first | (rw [if_pos (by decide +kernel)]; kernel_rfl) | (rw [if_neg (by decide +kernel)]; exact ⟨rfl, rfl⟩))
    (fun os started H enc _ => arisesLifted san os started H enc)
end Go.Am.Ds
end
section
namespace Go.Proofs.YtnablaecbohhmaaGreat
theorem descentArises_holds : Rows.DescentArisesSaid := Go.Am.Ds.arisesSaid_of Go.Am.Ds.p22
end Go.Proofs.YtnablaecbohhmaaGreat
end
