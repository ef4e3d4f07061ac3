/-
 What is used in the proof of a statement (part HiN); no condition.
-/
import Derived.Test.YtmgglkdilpglgaaGreatRows
import Derived.WalkKit
import Derived.ProofKit
import Derived.OpenShut
import Derived.SizedLaws
import Derived.Test.YtmgglkdilpglgaaGreatVm2
import Derived.Test.YtmgglkdilpglgaaGreatHjA
import Derived.Test.YtmgglkdilpglgaaGreatHkL
import Derived.Test.YtmgglkdilpglgaaGreatHiM
set_option linter.all false
section
namespace Go.Am.Hi
open Go Go.Am Go.Proofs Go.ChangeShapes Go.WideShapes Go.ChangeAt Go.RowKit Go.Proofs.YtmgglkdilpglgaaGreat
set_option linter.unusedVariables false
set_option linter.unusedSimpArgs false
set_option maxRecDepth 100000

theorem kids : Kids Tryz.prog (· < Tryz.prog.types.size) := kids_rows (by kernel_rfl) (by kernel_rfl)
theorem slicesFull : ∀ t e, t < Tryz.prog.types.size → Tryz.prog.underlying t = some (.slice e) → 0 < Tryz.prog.cellsOf e := slices_full_of Tryz.prog (by kernel_rfl)
theorem own : ownKnob Tryz.prog.godebug = none := by kernel_rfl
theorem kidsAll {l : List TypeId} (h : (l.all fun t => decide (t < Tryz.prog.types.size)) = true) : ∀ t ∈ l, t < Tryz.prog.types.size := fun t ht => by simpa using List.all_eq_true.1 h t ht
theorem cells3 : Tryz.prog.cellsOf 3 = 1 := by kernel_rfl
theorem cells22 : Tryz.prog.cellsOf 22 = 1 := by kernel_rfl
theorem cells60 : Tryz.prog.cellsOf 60 = 1 := by kernel_rfl
theorem cells62 : Tryz.prog.cellsOf 62 = 1 := by kernel_rfl
theorem bytes3 : Tryz.prog.bytesOf 3 = 8 := by kernel_rfl
theorem bytes22 : Tryz.prog.bytesOf 22 = 24 := by kernel_rfl
theorem map_int : ∀ {es : List PV},(∀ x ∈ es, ∃ n, x = .int .i64 n) → ∃ l : List Int, es = l.map (.int .i64)
 | [], _ => ⟨[], rfl⟩
 | x :: r, h => by
  obtain ⟨a, ha⟩ := h x (List.mem_cons_self ..)
  obtain ⟨l, hl⟩ := map_int (es := r) fun y hy => h y (List.mem_cons_of_mem _ hy)
  exact ⟨a :: l, by rw [ha, hl]; rfl⟩
theorem map_ints : ∀ {es : List PV},(∀ x ∈ es, ∃ l : List Int, x = ints l ∧ l.length < 17592186043905) → ∃ ls : List (List Int), es = ls.map ints ∧ ∀ l ∈ ls, l.length < 17592186043905
 | [], _ => ⟨[], rfl, by simp⟩
 | x :: r, h => by
  obtain ⟨a, ha, ha2⟩ := h x (List.mem_cons_self ..)
  obtain ⟨l, hl, hl2⟩ := map_ints (es := r) fun y hy => h y (List.mem_cons_of_mem _ hy)
  exact ⟨a :: l, by rw [ha, hl]; rfl, fun x hx => by
   rcases List.mem_cons.1 hx with rfl | hx
   ·exact ha2
   ·exact hl2 x hx⟩
section
variable {H : Type} {enc : TypeId × Value → H} {w : World} {base : Nat}
abbrev isInt (p : PV) : Prop := ∃ n, p = .int .i64 n
abbrev isInts (p : PV) : Prop := ∃ l : List Int, p = ints l ∧ l.length < inex
abbrev isU8 (p : PV) : Prop := ∃ n : Nat, p = .int .u8 n ∧ n < 256
abbrev isRow (p : PV) : Prop := ∃ l : List Int, p = ints l ∧ l.length < 17592186043905
abbrev isWish (p : PV) : Prop := ∃ ws : List (List Int), p = .vec (ws.map ints) ∧ ws.length < inex ∧ ∀ l ∈ ws, l.length < 17592186043905
abbrev isMkt (p : PV) : Prop := ∃ ws : List (List Int), p = encM ws ∧ ws.length < inex ∧ ∀ l ∈ ws, l.length < 17592186043905
abbrev isDeal (p : PV) : Prop := ∃ G R : List Int, p = .agg [ints G, ints R] ∧ G.length < inex ∧ R.length < inex
theorem readsInt : Reads enc Tryz.prog w 3 isInt := (reads_int Tryz.underlying3 cells3).mono fun p ⟨n, h, _⟩ => ⟨n, h⟩
theorem readsInts : Reads enc Tryz.prog w 22 isInts :=
 (reads_slice Tryz.underlying22 cells22 (by rw [cells3]; decide) (by rw [bytes3]; decide) readsInt).mono fun p ⟨es, h, h2, h3⟩ => by
  obtain ⟨l, rfl⟩ := map_int h2
  exact ⟨l, h, by simpa using h3⟩
theorem readsRow : Reads enc Tryz.prog w 22 isRow :=
 (reads_sliceW Tryz.underlying22 cells22 (by rw [cells3]; decide) (by rw [bytes3]; decide) readsInt).mono fun p ⟨es, h, h2, h3, h4⟩ => by
  obtain ⟨l, rfl⟩ := map_int h2
  rw [bytes3, List.length_map] at h4
  have : reachBytes = 140737488351232 := rfl
  exact ⟨l, h, by omega⟩
theorem readsWish : Reads enc Tryz.prog w 60 isWish :=
 (reads_slice Tryz.underlying60 cells60 (by rw [cells22]; decide) (by rw [bytes22]; decide) readsRow).mono fun p ⟨es, h, h2, h3⟩ => by
  obtain ⟨l, rfl, hr⟩ := map_ints h2
  exact ⟨l, h, by simpa using h3, hr⟩
theorem readsMkt : Reads enc Tryz.prog w 62 isMkt :=
 (reads_struct [isWish] Tryz.underlying62 rfl (fun i f Q hf hq => by
  match i, hf, hq with
  | 0, hf, hq => cases hf; cases hq; exact readsWish) (by simp [contig, cells60]) (by simp [total, cells60, cells62])).mono fun p ⟨ps, h, hl, hp⟩ => by
  match ps, hl with
  | [a], _ =>
   obtain ⟨x, rfl, hx, hr⟩ := hp 0 _ a rfl rfl
   exact ⟨x, h, hx, hr⟩
theorem argInt : ArgOK enc Tryz.prog w base 3 isInt := argOK_int Tryz.underlying3 (fun p ⟨n, h⟩ => by subst h; rfl) readsInt
theorem argInts : ArgOK enc Tryz.prog w base 22 isInts := argOK_one (fun v h => by obtain ⟨a, l, c, rfl⟩ := okWide_slice Tryz.underlying22 h; rfl) (fun p ⟨l, h, _⟩ => by subst h; rfl) readsInts
theorem argMkt : ArgOK enc Tryz.prog w base 62 isMkt := argOK_struct Tryz.underlying62 (fun p ⟨a, h, _⟩ => ⟨_, h⟩) readsMkt
end
end Go.Am.Hi
end

section
namespace Go.Am.Hi
open Go Go.Am Go.Proofs Go.ChangeShapes Go.WideShapes Go.ChangeAt Go.RowKit Go.Proofs.YtmgglkdilpglgaaGreat
set_option linter.unusedVariables false
set_option linter.unusedSimpArgs false
set_option maxRecDepth 100000

set_option maxRecDepth 100000 in
theorem objectsCalls (H : Type) (enc : TypeId × Value → H) (W : World) (base : Nat) (args : Array Value) (ds gs : List (DataW H)) (before : List MemPlace)
  (hval : ∀ (j : Nat) t v, Tryz.f11.params[j]? = some t → args[j]? = some v → Value.okWide Tryz.prog W .any base t v)
  (hW : DataW.Whole enc Tryz.prog Tryz.f11.params.toList Rows.hireObjectsSpec.vars false W args.toList ds gs before)
  (hsz : (DataW.weightsEach Tryz.prog (Tryz.f11.params.toList ++ Rows.hireObjectsSpec.plain.varTypes Tryz.prog) (ds ++ gs)).all (· ≤ reachBytes) = true) :
  Calls Tryz.prog 11 args W fun e W' => ∃ v, e = .returned v ∧ Rows.hireObjectsSpec.post enc Tryz.prog Tryz.f11 false true false false W args v W' := by
 refine law_contract kids slicesFull (kidsAll (by kernel_rfl)) Tryz.underlying4 (by kernel_rfl) (by kernel_rfl) hval hW hsz (by kernel_rfl) (fun l hl => ?_) [isMkt, isInts, isInts, isInts, isInts, isInt, isInts] (by kernel_rfl) (fun i t Q ht hq => ?_) (fun pvs hl hp => ?_)
 ·rw [Tryz.params11] at hl
  match l, hl with
  | [_, _, _, _, _, _, _], _ => rfl
 ·rw [Tryz.params11] at ht
  match i, ht, hq with
  | 0, ht, hq => cases ht; cases hq; exact argMkt
  | 1, ht, hq => cases ht; cases hq; exact argInts
  | 2, ht, hq => cases ht; cases hq; exact argInts
  | 3, ht, hq => cases ht; cases hq; exact argInts
  | 4, ht, hq => cases ht; cases hq; exact argInts
  | 5, ht, hq => cases ht; cases hq; exact argInt
  | 6, ht, hq => cases ht; cases hq; exact argInts
 ·match pvs, hl with
  | [a, b, c, d, e, f, g], _ =>
   obtain ⟨s0, rfl, hs0, hr0⟩ := hp 0 _ a rfl rfl
   obtain ⟨s1, rfl, hs1⟩ := hp 1 _ b rfl rfl
   obtain ⟨s2, rfl, hs2⟩ := hp 2 _ c rfl rfl
   obtain ⟨s3, rfl, hs3⟩ := hp 3 _ d rfl rfl
   obtain ⟨s4, rfl, hs4⟩ := hp 4 _ e rfl rfl
   obtain ⟨s5, rfl⟩ := hp 5 _ f rfl rfl
   obtain ⟨s6, rfl, hs6⟩ := hp 6 _ g rfl rfl
   exact p11 s0 s1 s2 s3 s4 s5 s6 hs0 hs1 hs2 hs3 hs4  hs6

set_option maxRecDepth 100000 in
theorem objectsLifted (os : Os) (started : os.Started) (H : Type) (enc : TypeId × Value → H) :
  ReturnsInHanded {} Tryz.checked os 11 .any (Rows.hireObjectsSpec.pre6 enc Tryz.prog Tryz.f11 Rows.hireObjectsRow.domain false) (Rows.hireObjectsSpec.post enc Tryz.prog Tryz.f11 false true false false) := by
 refine returnsInHanded_of_change_sized (C := Tryz.checked) own started (by kernel_rfl) Tryz.func11
  (ChangeSpec.witness6 (enc := enc) (C := Tryz.checked) false ⟨#[], #[.agg #[.slice none 0 0], .slice none 0 0, .slice none 0 0, .slice none 0 0, .slice none 0 0, .int .i64 0, .slice none 0 0],[]⟩ 8 (by kernel_rfl) (by kernel_rfl) (by kernel_rfl) (by kernel_rfl)) ?_
 intro W base args ds gs before hval hW _ hsz _
 exact objectsCalls H enc W base args ds gs before hval hW hsz
theorem objectsHolds : Rows.HireObjectsSaid :=
 OpenClaim.holds_of_wide 11 Tryz.f11 rfl rfl rfl rfl rfl rfl rfl ⟨rfl, rfl, rfl, rfl, rfl⟩ rfl rfl rfl rfl rfl (by kernel_rfl) Tryz.func11 objectsClosed
  (of_decide_eq_true (by kernel_rfl)) (by unfold Func.isWrapper; first | (rw [if_pos (by decide +kernel)]; kernel_rfl) | (rw [if_neg (by decide +kernel)]; exact ⟨rfl, rfl⟩))
  (fun os started H enc _ => objectsLifted os started H enc)
end Go.Am.Hi
end

section
namespace Go.Proofs.YtmgglkdilpglgaaGreat
theorem hireObjects_holds : Rows.HireObjectsSaid := Go.Am.Hi.objectsHolds
end Go.Proofs.YtmgglkdilpglgaaGreat
end
