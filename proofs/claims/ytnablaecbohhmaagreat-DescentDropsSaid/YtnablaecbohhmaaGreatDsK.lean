/-
  What is used in the proof of a statement (part DsK); no condition.
-/
import Derived.ProofKit
import Derived.Test.YtnablaecbohhmaaGreatRows
import Derived.WalkKit
import Derived.OpenShut
import Derived.SizedLaws
import Derived.Test.YtnablaecbohhmaaGreatVm2
import Derived.Test.YtnablaecbohhmaaGreatDsC
set_option linter.all false
/-
  Descent: the arguments of the laws, read as values.
-/
section
namespace Go.Am.Ds
open Go Go.Am Go.Proofs
set_option linter.unusedSimpArgs false
set_option maxRecDepth 100000
section
variable {H : Type} {enc : TypeId × Value → H} {w : World}
theorem exists_map {α : Type} {f : α → PV} : ∀ {es : List PV},(∀ x ∈ es, ∃ a, x = f a) → ∃ l : List α, es = l.map f
  | [], _ => ⟨[], rfl⟩
  | x :: r, h => by
    obtain ⟨a, ha⟩ := h x (List.mem_cons_self ..)
    obtain ⟨l, hl⟩ := exists_map (es := r) fun y hy => h y (List.mem_cons_of_mem _ hy)
    exact ⟨a :: l, by rw [ha, hl]; rfl⟩
theorem cells3 : Tryz.prog.cellsOf 3 = 1 := by kernel_rfl
theorem cells25 : Tryz.prog.cellsOf 25 = 1 := by kernel_rfl
theorem cells60 : Tryz.prog.cellsOf 60 = 2 := by kernel_rfl
theorem cells62 : Tryz.prog.cellsOf 62 = 7 := by kernel_rfl
theorem cells22 : Tryz.prog.cellsOf 22 = 1 := by kernel_rfl
theorem cells24 : Tryz.prog.cellsOf 24 = 1 := by kernel_rfl
theorem bytes3 : Tryz.prog.bytesOf 3 = 8 := by kernel_rfl
theorem bytes62 : Tryz.prog.bytesOf 62 = 104 := by kernel_rfl
theorem readsInt : Reads enc Tryz.prog w 3 fun p => ∃ n, p = .int .i64 n :=
  (reads_int Tryz.underlying3 cells3).mono fun p ⟨n, h, _⟩ => ⟨n, h⟩
theorem readsInts : Reads enc Tryz.prog w 25 fun p => ∃ l : List Int, p = ints l ∧ l.length < inex :=
  (reads_slice Tryz.underlying25 cells25 (by rw [cells3]; decide) (by rw [bytes3]; decide) readsInt).mono fun p ⟨es, h, h2, h3⟩ => by
    obtain ⟨l, rfl⟩ := exists_map h2
    exact ⟨l, h, by simpa using h3⟩
theorem readsMade : Reads enc Tryz.prog w 60 fun p => ∃ a b, p = .agg [.int .i64 a, .int .i64 b] :=
  (reads_struct [fun p => ∃ n, p = .int .i64 n, fun p => ∃ n, p = .int .i64 n] Tryz.underlying60 rfl (fun i f Q hf hq => by
    match i, hf, hq with
    | 0, hf, hq => cases hf; cases hq; exact readsInt
    | 1, hf, hq => cases hf; cases hq; exact readsInt) (by simp [contig, cells3]) (by simp [total, cells3, cells60])).mono fun p ⟨ps, h, hl, hp⟩ => by
    match ps, hl with
    | [a, b], _ =>
      obtain ⟨x, rfl⟩ := hp 0 _ a rfl rfl
      obtain ⟨y, rfl⟩ := hp 1 _ b rfl rfl
      exact ⟨x, y, h⟩
theorem readsW : Reads enc Tryz.prog w 62 fun p => ∃ x : Wit, p = encW x :=
  (reads_struct [fun p => ∃ n, p = .int .i64 n, fun p => ∃ n, p = .int .i64 n, fun p => ∃ l : List Int, p = ints l ∧ l.length < inex, fun p => ∃ l : List Int, p = ints l ∧ l.length < inex, fun p => ∃ l : List Int, p = ints l ∧ l.length < inex, fun p => ∃ a b, p = .agg [.int .i64 a, .int .i64 b]] Tryz.underlying62 rfl (fun i f Q hf hq => by
    match i, hf, hq with
    | 0, hf, hq => cases hf; cases hq; exact readsInt
    | 1, hf, hq => cases hf; cases hq; exact readsInt
    | 2, hf, hq => cases hf; cases hq; exact readsInts
    | 3, hf, hq => cases hf; cases hq; exact readsInts
    | 4, hf, hq => cases hf; cases hq; exact readsInts
    | 5, hf, hq => cases hf; cases hq; exact readsMade) (by simp [contig, cells3, cells25, cells60]) (by simp [total, cells3, cells25, cells60, cells62])).mono fun p ⟨ps, h, hl, hp⟩ => by
    match ps, hl with
    | [a, b, c, d, e, f], _ =>
      obtain ⟨x0, rfl⟩ := hp 0 _ a rfl rfl
      obtain ⟨x1, rfl⟩ := hp 1 _ b rfl rfl
      obtain ⟨x2, rfl, _⟩ := hp 2 _ c rfl rfl
      obtain ⟨x3, rfl, _⟩ := hp 3 _ d rfl rfl
      obtain ⟨x4, rfl, _⟩ := hp 4 _ e rfl rfl
      obtain ⟨x5, x6, rfl⟩ := hp 5 _ f rfl rfl
      exact ⟨⟨x0, x1, x2, x3, x4, x5, x6⟩, h⟩
theorem readsS : Reads enc Tryz.prog w 24 fun p => ∃ s, p = encS s ∧ s.length < inex :=
  (reads_struct [fun p => ∃ es, p = .vec es ∧ (∀ x ∈ es, ∃ y : Wit, x = encW y) ∧ es.length < inex] Tryz.underlying24 rfl (fun i f Q hf hq => by
    match i, hf, hq with
    | 0, hf, hq => cases hf; cases hq; exact reads_slice Tryz.underlying22 cells22 (by rw [cells62]; decide) (by rw [bytes62]; decide) readsW) (by simp [contig, cells22]) (by simp [total, cells22, cells24])).mono fun p ⟨ps, h, hl, hp⟩ => by
    match ps, hl with
    | [a], _ =>
      obtain ⟨es, rfl, h2, h3⟩ := hp 0 _ a rfl rfl
      obtain ⟨l, rfl⟩ := exists_map h2
      exact ⟨l, h, by simpa using h3⟩
end
end Go.Am.Ds
end
/-
  Descent: DescentParts' statement, given that sanity answers true.
-/
section
namespace Go.Am.Ds
open Go Go.Am Go.Proofs Go.ChangeShapes Go.WideShapes Go.ChangeAt Go.RowKit Go.Proofs.YtnablaecbohhmaaGreat
set_option linter.unusedVariables false
theorem kids : Kids Tryz.prog (· < Tryz.prog.types.size) := kids_rows (by kernel_rfl) (by kernel_rfl)
theorem slicesFull : ∀ t e, t < Tryz.prog.types.size → Tryz.prog.underlying t = some (.slice e) → 0 < Tryz.prog.cellsOf e := slices_full_of Tryz.prog (by kernel_rfl)
theorem own : ownKnob Tryz.prog.godebug = none := by kernel_rfl
theorem kidsAll {l : List TypeId} (h : (l.all fun t => decide (t < Tryz.prog.types.size)) = true) : ∀ t ∈ l, t < Tryz.prog.types.size := fun t ht => by simpa using List.all_eq_true.1 h t ht
section
variable {H : Type} {enc : TypeId × Value → H} {w : World} {base : Nat}
abbrev isInts (p : PV) : Prop := ∃ l : List Int, p = ints l ∧ l.length < inex
abbrev isStock (p : PV) : Prop := ∃ s, p = encS s ∧ s.length < inex
theorem argStock : ArgOK enc Tryz.prog w base 24 isStock := argOK_struct Tryz.underlying24 (fun p ⟨s, h, _⟩ => ⟨_, h⟩) readsS
end
end Go.Am.Ds
end
