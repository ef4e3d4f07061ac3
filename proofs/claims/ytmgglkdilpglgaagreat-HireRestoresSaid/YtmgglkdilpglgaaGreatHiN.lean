/-
  What is used in the proof of a statement (part HiN); no condition.
-/
import Derived.Test.YtmgglkdilpglgaaGreatRows
import Derived.WalkKit
import Derived.ProofKit
import Derived.OpenShut
import Derived.SizedLaws
import Derived.Test.YtmgglkdilpglgaaGreatVm2
import Derived.Test.YtmgglkdilpglgaaGreatHiF
import Derived.Test.YtmgglkdilpglgaaGreatHiM
set_option linter.all false
section
namespace Go.Am.Hi
open Go Go.Am Go.Proofs Go.ChangeShapes Go.WideShapes Go.ChangeAt Go.RowKit Go.Proofs.YtmgglkdilpglgaaGreat
set_option linter.unusedVariables false
set_option linter.unusedSimpArgs false
set_option maxRecDepth 100000

theorem kids : Kids Tryz.prog (· < Tryz.prog.types.size) := kids_rows (by kernel_rfl) (by kernel_rfl)
theorem slicesFull : ∀ t e, t < Tryz.prog.types.size → Tryz.prog.underlying t = some (.slice e) → 0 < Tryz.prog.cellsOf e := slices_full_of Tryz.prog (by kernel_rfl)
theorem own : ownKnob Tryz.prog.godebug = none := by kernel_rfl
theorem kidsAll {l : List TypeId} (h : (l.all fun t => decide (t < Tryz.prog.types.size)) = true) : ∀ t ∈ l, t < Tryz.prog.types.size := fun t ht => by simpa using List.all_eq_true.1 h t ht
theorem cells3 : Tryz.prog.cellsOf 3 = 1 := by kernel_rfl
theorem cells22 : Tryz.prog.cellsOf 22 = 1 := by kernel_rfl
theorem cells79 : Tryz.prog.cellsOf 79 = 1 := by kernel_rfl
theorem cells178 : Tryz.prog.cellsOf 178 = 2 := by kernel_rfl
theorem bytes3 : Tryz.prog.bytesOf 3 = 8 := by kernel_rfl
theorem bytes178 : Tryz.prog.bytesOf 178 = 16 := by kernel_rfl
theorem exists_map {α : Type} {f : α → PV} : ∀ {es : List PV},(∀ x ∈ es, ∃ a, x = f a) → ∃ l : List α, es = l.map f
  | [], _ => ⟨[], rfl⟩
  | x :: r, h => by
    obtain ⟨a, ha⟩ := h x (List.mem_cons_self ..)
    obtain ⟨l, hl⟩ := exists_map (es := r) fun y hy => h y (List.mem_cons_of_mem _ hy)
    exact ⟨a :: l, by rw [ha, hl]; rfl⟩

section
variable {H : Type} {enc : TypeId × Value → H} {w : World} {base : Nat}
abbrev isInt (p : PV) : Prop := ∃ n, p = .int .i64 n
abbrev isInts (p : PV) : Prop := ∃ l : List Int, p = ints l ∧ l.length < inex
abbrev isX (p : PV) : Prop := ∃ x : Int × Int, p = encX x
abbrev isXs (p : PV) : Prop := ∃ l : List (Int × Int), p = .vec (l.map encX) ∧ l.length < inex
theorem readsInt : Reads enc Tryz.prog w 3 isInt := (reads_int Tryz.underlying3 cells3).mono fun p ⟨n, h, _⟩ => ⟨n, h⟩
theorem readsInts : Reads enc Tryz.prog w 22 isInts :=
  (reads_slice Tryz.underlying22 cells22 (by rw [cells3]; decide) (by rw [bytes3]; decide) readsInt).mono fun p ⟨es, h, h2, h3⟩ => by
    obtain ⟨l, rfl⟩ := exists_map h2
    exact ⟨l, h, by simpa using h3⟩
theorem readsS178 : Reads enc Tryz.prog w 178 isX :=
  (reads_struct [fun p => ∃ n, p = .int .i64 n, fun p => ∃ n, p = .int .i64 n] Tryz.underlying178 rfl (fun i f Q hf hq => by
    match i, hf, hq with
    | 0, hf, hq => cases hf; cases hq; exact readsInt
    | 1, hf, hq => cases hf; cases hq; exact readsInt) (by simp [contig, cells3]) (by simp [total, cells3, cells178])).mono fun p ⟨ps, h, hl, hp⟩ => by
    match ps, hl with
    | [a, b], _ =>
      obtain ⟨x, rfl⟩ := hp 0 _ a rfl rfl
      obtain ⟨y, rfl⟩ := hp 1 _ b rfl rfl
      exact ⟨(x, y), h⟩
theorem readsX79 : Reads enc Tryz.prog w 79 isXs :=
  (reads_slice Tryz.underlying79 cells79 (by rw [cells178]; decide) (by rw [bytes178]; decide) readsS178).mono fun p ⟨es, h, h2, h3⟩ => by
    obtain ⟨l, rfl⟩ := exists_map h2
    exact ⟨l, h, by simpa using h3⟩
theorem argInts : ArgOK enc Tryz.prog w base 22 isInts := argOK_one (fun v h => by obtain ⟨a, l, c, rfl⟩ := okWide_slice Tryz.underlying22 h; rfl) (fun p ⟨l, h, _⟩ => by subst h; rfl) readsInts
theorem argX79 : ArgOK enc Tryz.prog w base 79 isXs := argOK_one (fun v h => by obtain ⟨a, l, c, rfl⟩ := okWide_slice Tryz.underlying79 h; rfl) (fun p ⟨l, h, _⟩ => by subst h; rfl) readsX79
end

set_option maxRecDepth 100000 in
theorem restoresCalls (H : Type) (enc : TypeId × Value → H) (W : World) (base : Nat) (args : Array Value) (ds gs : List (DataW H)) (before : List MemPlace)
    (hval : ∀ (j : Nat) t v, Tryz.f9.params[j]? = some t → args[j]? = some v → Value.okWide Tryz.prog W .any base t v)
    (hW : DataW.Whole enc Tryz.prog Tryz.f9.params.toList Rows.hireRestoresSpec.vars false W args.toList ds gs before)
    (hsz : (DataW.weightsEach Tryz.prog (Tryz.f9.params.toList ++ Rows.hireRestoresSpec.plain.varTypes Tryz.prog) (ds ++ gs)).all (· ≤ reachBytes) = true) :
    Calls Tryz.prog 9 args W fun e W' => ∃ v, e = .returned v ∧ Rows.hireRestoresSpec.post enc Tryz.prog Tryz.f9 false true false false W args v W' := by
  refine law_contract kids slicesFull (kidsAll (by kernel_rfl)) Tryz.underlying4 (by kernel_rfl) (by kernel_rfl) hval hW hsz (by kernel_rfl) (fun l hl => ?_) [isInts, isXs] (by kernel_rfl) (fun i t Q ht hq => ?_) (fun pvs hl hp => ?_)
  · rw [Tryz.params9] at hl
    match l, hl with
    | [_, _], _ => rfl
  · rw [Tryz.params9] at ht
    match i, ht, hq with
    | 0, ht, hq => cases ht; cases hq; exact argInts
    | 1, ht, hq => cases ht; cases hq; exact argX79
  · match pvs, hl with
    | [a, b], _ =>
      obtain ⟨row, rfl, h1⟩ := hp 0 _ a rfl rfl
      obtain ⟨l, rfl, h2⟩ := hp 1 _ b rfl rfl
      exact p9 row l h1 h2

set_option maxRecDepth 100000 in
theorem restoresLifted (os : Os) (started : os.Started) (H : Type) (enc : TypeId × Value → H) :
    ReturnsInHanded {} Tryz.checked os 9 .any (Rows.hireRestoresSpec.pre6 enc Tryz.prog Tryz.f9 Rows.hireRestoresRow.domain false) (Rows.hireRestoresSpec.post enc Tryz.prog Tryz.f9 false true false false) := by
  refine returnsInHanded_of_change_sized (C := Tryz.checked) own started (by kernel_rfl) Tryz.func9
    (ChangeSpec.witness6 (enc := enc) (C := Tryz.checked) false ⟨#[], #[.slice none 0 0, .slice none 0 0],[]⟩ 8 (by kernel_rfl) (by kernel_rfl) (by kernel_rfl) (by kernel_rfl)) ?_
  intro W base args ds gs before hval hW _ hsz _
  exact restoresCalls H enc W base args ds gs before hval hW hsz
theorem restoresHolds : Rows.HireRestoresSaid :=
  OpenClaim.holds_of_wide 9 Tryz.f9 rfl rfl rfl rfl rfl rfl rfl ⟨rfl, rfl, rfl, rfl, rfl⟩ rfl rfl rfl rfl rfl (by kernel_rfl) Tryz.func9 restoresClosed
    (of_decide_eq_true (by kernel_rfl)) (by unfold Func.isWrapper; first | (rw [if_pos (by decide +kernel)]; kernel_rfl) | (rw [if_neg (by decide +kernel)]; exact ⟨rfl, rfl⟩))
    (fun os started H enc _ => restoresLifted os started H enc)
end Go.Am.Hi
end

section
namespace Go.Proofs.YtmgglkdilpglgaaGreat
theorem hireRestores_holds : Rows.HireRestoresSaid := Go.Am.Hi.restoresHolds
end Go.Proofs.YtmgglkdilpglgaaGreat
end
