/-
  What is used in the proof of a statement (part DsN); no condition.
-/
import Derived.Test.YtnablaecbohhmaaGreatDsS
import Derived.Test.YtnablaecbohhmaaGreatDsK
import Derived.Test.YtnablaecbohhmaaGreatDsX
import Derived.Test.YtnablaecbohhmaaGreatDsM
set_option linter.all false
section
namespace Go.Am.Ds
open Go Go.Am Go.Proofs
theorem specOK : SpecOK Tryz.prog 0 spc := by
  intro f g hg args h r h' he
  unfold spc at hg
  cases h1 : Nat.beq f 125 with
  | true =>
    have e := Nat.eq_of_beq_eq_true h1
    subst e
    rw [h1, cond_true, Option.some.injEq] at hg
    subst hg
    exact ⟨Tryz.call125, srtV_ok (fun l h1 h2 => p125 l h1 h2) (Nat.zero_le _) he⟩
  | false =>
    rw [h1, cond_false] at hg
    cases h2 : Nat.beq f 158 with
    | true =>
      have e := Nat.eq_of_beq_eq_true h2
      subst e
      rw [h2, cond_true, Option.some.injEq] at hg
      subst hg
      exact ⟨Tryz.call158, cpyV_ok (fun h n m es l a b c d e f => cp158 h n m es l a b c d e f) he⟩
    | false => rw [h2, cond_false] at hg; cases hg
theorem p22 : VPure Tryz.prog 22 [] fun r => r = .bool true := sanity_of specOK
end Go.Am.Ds
end
section
namespace Go.Am.Ds
open Go Go.Am Go.Proofs Go.ChangeShapes Go.WideShapes Go.ChangeAt Go.RowKit Go.Proofs.YtnablaecbohhmaaGreat
set_option linter.unusedVariables false
set_option linter.unusedSimpArgs false
set_option maxRecDepth 100000

theorem cells4 : Tryz.prog.cellsOf 4 = 1 := by kernel_rfl
theorem cells5 : Tryz.prog.cellsOf 5 = 1 := by kernel_rfl
theorem cells89 : Tryz.prog.cellsOf 89 = 5 := by kernel_rfl
theorem cells87 : Tryz.prog.cellsOf 87 = 1 := by kernel_rfl
theorem bytes89 : Tryz.prog.bytesOf 89 = 5 := by kernel_rfl
section
variable {H : Type} {enc : TypeId × Value → H} {w : World} {base : Nat}
theorem reads_bool {P : Program} {t : TypeId} {Q : PV → Prop} (hQ : ∀ b, Q (.bool b)) (ht : P.underlying t = some .bool) (hc : P.cellsOf t = 1) : Reads enc P w t Q := by
  intro n cs x hx _
  cases n with
  | zero => simp [DataW.trod] at hx
  | succ n =>
    unfold DataW.trod at hx
    rw [ht] at hx
    split at hx <;> simp_all
    rename_i b _
    exact ⟨.bool b, rfl, .cons (.bool _) .nil, by cases b; exact hQ.1; exact hQ.2⟩
theorem readsBool : Reads enc Tryz.prog w 4 fun p => ∃ b, p = .bool b := reads_bool (fun b => ⟨b, rfl⟩) Tryz.underlying4 cells4
theorem readsU8 : Reads enc Tryz.prog w 5 fun p => ∃ n : Nat, p = .int .u8 n ∧ n < 256 := (reads_int Tryz.underlying5 cells5).mono fun p ⟨n, h, hw⟩ => by
  have h2 : (decide (IntKind.min .u8 ≤ n) && decide (n ≤ IntKind.max .u8)) = true := hw
  rw [Bool.and_eq_true, decide_eq_true_eq, decide_eq_true_eq] at h2
  have h3 : 0 ≤ n ∧ n ≤ 255 := h2
  exact ⟨n.toNat, by rw [h, Int.toNat_of_nonneg h3.1], by omega⟩
theorem readsBir : Reads enc Tryz.prog w 89 fun p => ∃ x : Bir, p = encB x ∧ byt x :=
  (reads_struct [fun p => ∃ n : Nat, p = .int .u8 n ∧ n < 256, fun p => ∃ n : Nat, p = .int .u8 n ∧ n < 256, fun p => ∃ n : Nat, p = .int .u8 n ∧ n < 256, fun p => ∃ n : Nat, p = .int .u8 n ∧ n < 256, fun p => ∃ b, p = .bool b] Tryz.underlying89 rfl (fun i f Q hf hq => by
    match i, hf, hq with
    | 0, hf, hq => cases hf; cases hq; exact readsU8
    | 1, hf, hq => cases hf; cases hq; exact readsU8
    | 2, hf, hq => cases hf; cases hq; exact readsU8
    | 3, hf, hq => cases hf; cases hq; exact readsU8
    | 4, hf, hq => cases hf; cases hq; exact readsBool) (by simp [contig, cells5, cells4]) (by simp [total, cells5, cells4, cells89])).mono fun p ⟨ps, h, hl, hp⟩ => by
    match ps, hl with
    | [a, b, c, d, e], _ =>
      obtain ⟨x, rfl, h1⟩ := hp 0 _ a rfl rfl
      obtain ⟨y, rfl, h2⟩ := hp 1 _ b rfl rfl
      obtain ⟨z, rfl, h3⟩ := hp 2 _ c rfl rfl
      obtain ⟨u, rfl, h4⟩ := hp 3 _ d rfl rfl
      obtain ⟨v, rfl⟩ := hp 4 _ e rfl rfl
      exact ⟨⟨x, y, z, u, v⟩, h, h1, h2, h3, h4⟩
theorem map_bir : ∀ {es : List PV}, (∀ e ∈ es, ∃ x : Bir, e = encB x ∧ byt x) → ∃ l : List Bir, es = l.map encB ∧ ∀ x ∈ l, byt x
  | [], _ => ⟨[], rfl, by simp⟩
  | a :: r, h => by
    obtain ⟨n, h1, h2⟩ := h a List.mem_cons_self
    obtain ⟨l, h3, h4⟩ := map_bir (es := r) fun e he => h e (List.mem_cons_of_mem _ he)
    exact ⟨n :: l, by rw [h1, h3]; rfl, fun x hx => by
      rcases List.mem_cons.1 hx with rfl | hx
      · exact h2
      · exact h4 x hx⟩
abbrev isBirs (p : PV) : Prop := ∃ l : List Bir, p = .vec (l.map encB) ∧ l.length < inex ∧ ∀ x ∈ l, byt x
theorem readsBirs : Reads enc Tryz.prog w 87 isBirs :=
  (reads_slice Tryz.underlying87 cells87 (by rw [cells89]; decide) (by rw [bytes89]; decide) readsBir).mono fun p ⟨es, h, h2, h3⟩ => by
    obtain ⟨l, rfl, h4⟩ := map_bir h2
    exact ⟨l, h, by simpa using h3, h4⟩
theorem argBirs : ArgOK enc Tryz.prog w base 87 isBirs := argOK_one (fun v h => by obtain ⟨a, l, c, rfl⟩ := okWide_slice Tryz.underlying87 h; rfl) (fun p ⟨l, h, _⟩ => by subst h; rfl) readsBirs
end

set_option maxRecDepth 100000 in
theorem trueCalls (san : VPure Tryz.prog 22 [] fun r => r = .bool true) (H : Type) (enc : TypeId × Value → H) (W : World) (base : Nat) (args : Array Value) (ds gs : List (DataW H)) (before : List MemPlace)
    (hval : ∀ (j : Nat) t v, Tryz.f9.params[j]? = some t → args[j]? = some v → Value.okWide Tryz.prog W .any base t v)
    (hW : DataW.Whole enc Tryz.prog Tryz.f9.params.toList Rows.descentTrueSpec.vars false W args.toList ds gs before)
    (hsz : (DataW.weightsEach Tryz.prog (Tryz.f9.params.toList ++ Rows.descentTrueSpec.plain.varTypes Tryz.prog) (ds ++ gs)).all (· ≤ reachBytes) = true) :
    Calls Tryz.prog 9 args W fun e W' => ∃ v, e = .returned v ∧ Rows.descentTrueSpec.post enc Tryz.prog Tryz.f9 false true false false W args v W' := by
  refine law_contract kids slicesFull (kidsAll (by kernel_rfl)) Tryz.underlying4 (by kernel_rfl) (by kernel_rfl) hval hW hsz (by kernel_rfl) (fun l hl => ?_) [isBirs] (by kernel_rfl) (fun i t Q ht hq => ?_) (fun pvs hl hp => ?_)
  · rw [Tryz.params9] at hl
    match l, hl with
    | [_], _ => rfl
  · rw [Tryz.params9] at ht
    match i, ht, hq with
    | 0, ht, hq => cases ht; cases hq; exact argBirs
  · match pvs, hl with
    | [a0], _ =>
      obtain ⟨s0, rfl, hs0, ht0⟩ := hp 0 _ a0 rfl rfl
      exact p9 s0 ht0 hs0 true san rfl

set_option maxRecDepth 100000 in
theorem trueLifted (san : VPure Tryz.prog 22 [] fun r => r = .bool true) (os : Os) (started : os.Started) (H : Type) (enc : TypeId × Value → H) :
    ReturnsInHanded {} Tryz.checked os 9 .any (Rows.descentTrueSpec.pre6 enc Tryz.prog Tryz.f9 Rows.descentTrueRow.domain false) (Rows.descentTrueSpec.post enc Tryz.prog Tryz.f9 false true false false) := by
  refine returnsInHanded_of_change_sized (C := Tryz.checked) own started (by kernel_rfl) Tryz.func9
    (ChangeSpec.witness6 (enc := enc) (C := Tryz.checked) false ⟨#[], #[.slice none 0 0], []⟩ 8 (by kernel_rfl) (by kernel_rfl) (by kernel_rfl) (by kernel_rfl)) ?_
  intro W base args ds gs before hval hW _ hsz _
  exact trueCalls san H enc W base args ds gs before hval hW hsz
theorem trueSaid_of (san : VPure Tryz.prog 22 [] fun r => r = .bool true) : Rows.DescentTrueSaid :=
  OpenClaim.holds_of_wide 9 Tryz.f9 rfl rfl rfl rfl rfl rfl rfl ⟨rfl, rfl, rfl, rfl, rfl⟩ rfl rfl rfl rfl rfl (by kernel_rfl) Tryz.func9 trueClosed
    (of_decide_eq_true (by kernel_rfl)) (by unfold Func.isWrapper; first | (rw [if_pos (by decide +kernel)]; kernel_rfl) | (rw [if_neg (by decide +kernel)]; exact ⟨rfl, rfl⟩))
    (fun os started H enc _ => trueLifted san os started H enc)
end Go.Am.Ds
end
section
namespace Go.Proofs.YtnablaecbohhmaaGreat
theorem descentTrue_holds : Rows.DescentTrueSaid := Go.Am.Ds.trueSaid_of Go.Am.Ds.p22
end Go.Proofs.YtnablaecbohhmaaGreat
end
