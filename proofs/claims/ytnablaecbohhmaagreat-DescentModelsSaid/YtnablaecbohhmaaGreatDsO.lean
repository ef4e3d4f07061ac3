/-
  What is used in the proof of a statement (part DsO); no condition.
-/
import Derived.Test.YtnablaecbohhmaaGreatDsL
import Derived.Test.YtnablaecbohhmaaGreatDsT
import Derived.Test.YtnablaecbohhmaaGreatVm2
set_option linter.all false
/-
  Descent: what the program says of models is what the reference says.
-/
section
namespace Go.Am.Ds
open Go Go.Am Go.Proofs

theorem checkL_nodup : ∀ {l : List Wit} {seen : List Int}, checkL l seen = 0 → (l.map Wit.id).Nodup ∧ ∀ w ∈ l, w.id ∉ seen
  | [], _, _ => ⟨.nil, fun w hw => by cases hw⟩
  | a :: r, seen, h => by
    simp only [checkL] at h
    split at h
    · split at h
      · simp at h
      · rename_i hn
        obtain ⟨h1, h2⟩ := checkL_nodup h
        refine ⟨?_, fun w hw => ?_⟩
        · rw [List.map_cons, List.nodup_cons]
          refine ⟨fun hm => ?_, h1⟩
          obtain ⟨w, hw, he⟩ := List.mem_map.1 hm
          exact h2 w hw ((mem_insU _ _ _).2 (.inr he))
        · rcases List.mem_cons.1 hw with rfl | hw
          · exact hn
          · exact fun hs => h2 w hw ((mem_insU _ _ _).2 (.inl hs))
    · rename_i h0; exact absurd h h0
theorem checkS_nodup {s : List Wit} (h : checkS s = 0) : (s.map Wit.id).Nodup := by
  unfold checkS at h
  split at h
  · simp at h
  · exact (checkL_nodup h).1
theorem checkS_pos {s : List Wit} (h : checkS s = 0) : ∀ w ∈ s, 0 < w.id := fun w hw => by
  have := (checkS_ok h).2 w hw
  unfold witE at this
  split at this
  · cases this
  · omega

theorem strict_eq : ∀ {l m : List Int}, l.Pairwise (· < ·) → m.Pairwise (· < ·) → (∀ x, x ∈ l ↔ x ∈ m) → l = m
  | [],[], _, _, _ => rfl
  | [], b :: s, _, _, h => absurd ((h b).2 List.mem_cons_self) (by simp)
  | a :: r, [], _, _, h => absurd ((h a).1 List.mem_cons_self) (by simp)
  | a :: r, b :: s, hl, hm, h => by
    rw [List.pairwise_cons] at hl hm
    have h1 : a = b := by
      rcases List.mem_cons.1 ((h a).1 List.mem_cons_self) with h1 | h1
      · exact h1
      · rcases List.mem_cons.1 ((h b).2 List.mem_cons_self) with h2 | h2
        · exact h2.symm
        · have := hl.1 b h2
          have := hm.1 a h1
          omega
    subst h1
    rw [strict_eq hl.2 hm.2 fun x => ⟨fun hx => ?_, fun hx => ?_⟩]
    · rcases List.mem_cons.1 ((h x).1 (List.mem_cons_of_mem _ hx)) with rfl | h2
      · have := hl.1 x hx; omega
      · exact h2
    · rcases List.mem_cons.1 ((h x).2 (List.mem_cons_of_mem _ hx)) with rfl | h2
      · have := hm.1 x hx; omega
      · exact h2

theorem lowN_spec (n : Int) : ∀ (l : List Int), l.Pairwise (· < ·) → (∀ x ∈ l.take (lowN l n), x < n) ∧ (∀ x ∈ l.drop (lowN l n), n ≤ x)
  | [], _ => ⟨fun x hx => by simp [lowN] at hx, fun x hx => by simp at hx⟩
  | a :: r, h => by
    rw [List.pairwise_cons] at h
    obtain ⟨h1, h2⟩ := lowN_spec n r h.2
    simp only [lowN]
    by_cases ha : a < n
    · rw [if_pos ha]
      refine ⟨fun x hx => ?_, fun x hx => ?_⟩
      · rw [List.take_succ_cons] at hx
        rcases List.mem_cons.1 hx with rfl | hx
        · exact ha
        · exact h1 x hx
      · rw [List.drop_succ_cons] at hx; exact h2 x hx
    · rw [if_neg ha]
      refine ⟨fun x hx => by simp at hx, fun x hx => ?_⟩
      rw [List.drop_zero] at hx
      rcases List.mem_cons.1 hx with rfl | hx
      · omega
      · have := h.1 x hx; omega
theorem putS_mem {l : List Int} {n m : Int} : m ∈ putS l n ↔ m ∈ l ∨ m = n := by
  refine ⟨mem_putS, fun h => ?_⟩
  unfold putS
  split
  · rename_i hg
    rcases h with h | h
    · exact h
    · rw [h]; exact List.mem_of_getElem? hg
  · rcases h with h | h
    · rw [← List.take_append_drop (lowN l n) l] at h
      rcases List.mem_append.1 h with h | h
      · exact List.mem_append_left _ (List.mem_append_left _ h)
      · exact List.mem_append_right _ h
    · exact List.mem_append_left _ (List.mem_append_right _ (by simp [h]))
theorem putS_sorted {l : List Int} {n : Int} (h : l.Pairwise (· < ·)) : (putS l n).Pairwise (· < ·) := by
  unfold putS
  split
  · exact h
  · rename_i hg
    obtain ⟨h1, h2⟩ := lowN_spec n l h
    have h3 : ∀ x ∈ l.drop (lowN l n), n < x := fun x hx => by
      have h4 := h2 x hx
      rcases Int.lt_or_eq_of_le h4 with h5 | h5
      · exact h5
      · exfalso
        cases hd : l.drop (lowN l n) with
        | nil => rw [hd] at hx; cases hx
        | cons b r =>
          have hb : l[lowN l n]? = some b := by
            have := congrArg (·[0]?) hd
            simpa using this
          rw [hd] at hx h2
          have hbn := h2 b List.mem_cons_self
          have hs : (b :: r).Pairwise (· < ·) := hd ▸ h.sublist (List.drop_sublist _ _)
          rw [List.pairwise_cons] at hs
          rcases List.mem_cons.1 hx with h6 | h6
          · exact hg (by rw [hb, ← h6, h5])
          · have := hs.1 x h6; omega
    have ht := h.sublist (List.take_sublist (lowN l n) l)
    have hd := h.sublist (List.drop_sublist (lowN l n) l)
    rw [List.pairwise_append, List.pairwise_append]
    refine ⟨⟨ht, by simp, fun a ha b hb => ?_⟩, hd, fun a ha b hb => ?_⟩
    · rw [List.mem_singleton] at hb; rw [hb]; exact h1 a ha
    · have hb' := h3 b hb
      rcases List.mem_append.1 ha with ha | ha
      · have := h1 a ha; omega
      · rw [List.mem_singleton] at ha; omega

theorem idsS_sorted {s : List Wit} (h : (s.map Wit.id).Nodup) : (idsS s).Pairwise (· < ·) := by
  unfold idsS
  have h1 := List.pairwise_mergeSort (le := fun x y : Int => decide (x ≤ y)) (fun a b c h1 h2 => by simp only [decide_eq_true_eq] at *; omega) (fun a b => by simp only [Bool.or_eq_true, decide_eq_true_eq]; omega) (s.map Wit.id)
  have h2 : ((s.map Wit.id).mergeSort fun x y => decide (x ≤ y)).Nodup := (List.mergeSort_perm _ _).nodup_iff.2 h
  have h3 := h1.and h2
  exact h3.imp fun ⟨h4, h5⟩ => by
    simp only [decide_eq_true_eq] at h4
    rcases Int.lt_or_eq_of_le h4 with h6 | h6
    · exact h6
    · exact absurd h6 h5
theorem modR_mem {s : List Wit} {c : Wit} {b : Int} : b ∈ modR s c ↔ (b = 0 ∧ lastS c 0 = 0) ∨ ∃ w ∈ s, w.id = b ∧ (whyP c (atI s w.id w)).1 = 0 := by
  have : ∀ (l : List Wit) (a : List Int), b ∈ l.foldl (stepR s c) a ↔ b ∈ a ∨ ∃ w ∈ l, w.id = b ∧ (whyP c (atI s w.id w)).1 = 0 := by
    intro l
    induction l with
    | nil => intro a; simp
    | cons w r ih =>
      intro a
      rw [List.foldl_cons, ih]
      have h1 : b ∈ stepR s c a w ↔ b ∈ a ∨ (w.id = b ∧ (whyP c (atI s w.id w)).1 = 0) := by
        unfold stepR
        split
        · rename_i h
          rw [putS_mem]
          exact ⟨fun h2 => h2.imp_right fun h3 => ⟨h3.symm, h⟩, fun h2 => h2.imp_right fun h3 => h3.1.symm⟩
        · rename_i h
          exact ⟨.inl, fun h2 => h2.elim id fun h3 => absurd h3.2 h⟩
      rw [h1]
      constructor
      · rintro ((h | h) | ⟨u, h2, h3⟩)
        · exact .inl h
        · exact .inr ⟨w, List.mem_cons_self, h⟩
        · exact .inr ⟨u, List.mem_cons_of_mem _ h2, h3⟩
      · rintro (h | ⟨u, h2, h3⟩)
        · exact .inl (.inl h)
        · rcases List.mem_cons.1 h2 with rfl | h2
          · exact .inl (.inr h3)
          · exact .inr ⟨u, h2, h3⟩
  unfold modR
  rw [this]
  have h0 : b ∈ (if lastS c 0 = 0 then [0] else ([] : List Int)) ↔ b = 0 ∧ lastS c 0 = 0 := by
    split
    · rename_i h; simp [h]
    · rename_i h; simp [h]
  rw [h0]
theorem modR_sorted (s : List Wit) (c : Wit) : (modR s c).Pairwise (· < ·) := by
  have : ∀ (l : List Wit) (a : List Int), a.Pairwise (· < ·) → (l.foldl (stepR s c) a).Pairwise (· < ·) := by
    intro l
    induction l with
    | nil => intro a h; exact h
    | cons w r ih =>
      intro a h
      refine ih _ ?_
      unfold stepR
      split
      · exact putS_sorted h
      · exact h
  refine this s _ ?_
  split <;> simp
theorem stepP_some {s : List Wit} {c : Wit} {id : Int} {y : Int × Int} : stepP s c id = some y ↔ ∃ p, getW s id = some p ∧ (whyP c p).1 = 0 ∧ y = (id, ((ariS c p).length : Int)) := by
  unfold stepP
  cases hg : getW s id with
  | none => simp
  | some p =>
    simp only
    by_cases h : (whyP c p).1 = 0
    · rw [if_pos h]
      constructor
      · intro h2; injection h2 with h2; exact ⟨p, rfl, h, h2.symm⟩
      · rintro ⟨q, h2, _, h3⟩; injection h2 with h2; subst h2; rw [h3]
    · rw [if_neg h]
      constructor
      · intro h2; cases h2
      · rintro ⟨q, h2, h3, _⟩; injection h2 with h2; subst h2; exact absurd h3 h
theorem parS_mem {s : List Wit} {c : Wit} {y : Int × Int} : y ∈ parS s c ↔ (y = (0,(c.slips.length : Int)) ∧ lastS c 0 = 0) ∨ ∃ p, y.1 ∈ idsS s ∧ getW s y.1 = some p ∧ (whyP c p).1 = 0 ∧ y.2 = ((ariS c p).length : Int) := by
  unfold parS
  rw [List.mem_append, List.mem_filterMap]
  have h0 : y ∈ headP c ↔ y = (0,(c.slips.length : Int)) ∧ lastS c 0 = 0 := by
    unfold headP
    split
    · rename_i h; simp [h]
    · rename_i h; simp [h]
  rw [h0]
  constructor
  · rintro (h | ⟨id, h1, h2⟩)
    · exact .inl h
    · obtain ⟨p, h3, h4, h5⟩ := stepP_some.1 h2
      subst h5
      exact .inr ⟨p, h1, h3, h4, rfl⟩
  · rintro (h | ⟨p, h1, h2, h3, h4⟩)
    · exact .inl h
    · exact .inr ⟨y.1, h1, stepP_some.2 ⟨p, h2, h3, Prod.ext rfl h4⟩⟩
theorem fst_sorted {f : Int → Option (Int × Int)} (hf : ∀ x y, f x = some y → y.1 = x) : ∀ {l : List Int}, l.Pairwise (· < ·) → ((l.filterMap f).map (·.1)).Pairwise (· < ·)
  | [], _ => .nil
  | a :: r, h => by
    rw [List.pairwise_cons] at h
    rw [List.filterMap_cons]
    cases hfa : f a with
    | none => exact fst_sorted hf h.2
    | some y =>
      simp only [List.map_cons, List.pairwise_cons]
      refine ⟨fun b hb => ?_, fst_sorted hf h.2⟩
      obtain ⟨z, hz, rfl⟩ := List.mem_map.1 hb
      obtain ⟨x, hx, h2⟩ := List.mem_filterMap.1 hz
      rw [hf a y hfa, hf x z h2]
      exact h.1 x hx
theorem models_eq {s : List Wit} (h : checkS s = 0) (c : Wit) : (parS s c).map (·.1) = modR s c := by
  refine strict_eq ?_ (modR_sorted s c) fun b => ?_
  · have h1 : (((idsS s).filterMap (stepP s c)).map (·.1)).Pairwise (· < ·) := fst_sorted (fun x y hxy => by obtain ⟨p, _, _, rfl⟩ := stepP_some.1 hxy; rfl) (idsS_sorted (checkS_nodup h))
    unfold parS headP
    split
    · simp only [List.singleton_append, List.map_cons, List.pairwise_cons]
      refine ⟨fun b hb => ?_, h1⟩
      obtain ⟨z, hz, rfl⟩ := List.mem_map.1 hb
      obtain ⟨x, hx, h2⟩ := List.mem_filterMap.1 hz
      obtain ⟨p, _, _, rfl⟩ := stepP_some.1 h2
      obtain ⟨w, hw, rfl⟩ := idsS_mem.1 hx
      exact checkS_pos h w hw
    · simpa using h1
  · rw [modR_mem, List.mem_map]
    constructor
    · rintro ⟨y, hy, rfl⟩
      rcases parS_mem.1 hy with ⟨rfl, h2⟩ | ⟨p, h1, h2, h3, _⟩
      · exact .inl ⟨rfl, h2⟩
      · obtain ⟨hp, hpi⟩ := getW_mem h2
        refine .inr ⟨p, hp, hpi, ?_⟩
        rw [atI, hpi, h2]; exact h3
    · rintro (⟨rfl, h2⟩ | ⟨w, hw, rfl, h3⟩)
      · exact ⟨(0,(c.slips.length : Int)), parS_mem.2 (.inl ⟨rfl, h2⟩), rfl⟩
      · have hm : w.id ∈ idsS s := idsS_mem.2 ⟨w, hw, rfl⟩
        obtain ⟨j, h4, h5, h6⟩ := getW_some (find_ids hm)
        rw [atI, h6, Option.getD_some] at h3
        exact ⟨(w.id, ((ariS c s[j]).length : Int)), parS_mem.2 (.inr ⟨s[j], hm, h6, h3, rfl⟩), rfl⟩

theorem fold_spec : ∀ (l : List (Int × Int)) (d : List (Int × Int)) (x : List Int × Int),(d = [] ∧ x.1 = [] ∨ x.1 ≠ [] ∧ (∀ y ∈ d, x.2 ≤ y.2) ∧ ∃ y ∈ d, y.2 = x.2) →
    (d ++ l = [] ∧ (l.foldl stepC x).1 = [] ∨ (l.foldl stepC x).1 ≠ [] ∧ (∀ y ∈ d ++ l, (l.foldl stepC x).2 ≤ y.2) ∧ ∃ y ∈ d ++ l, y.2 = (l.foldl stepC x).2)
  | [], d, x, h => by simpa using h
  | y :: r, d, x, h => by
    have ih := fold_spec r (d ++ [y]) (stepC x y) (.inr (by
      unfold stepC
      split
      · rename_i h1
        rcases h with ⟨_, h2⟩ | ⟨h2, h3, z, h4, h5⟩
        · exact absurd h2 h1.1
        · refine ⟨h2, fun w hw => ?_, z, List.mem_append_left _ h4, h5⟩
          rcases List.mem_append.1 hw with hw | hw
          · exact h3 w hw
          · rw [List.mem_singleton] at hw; rw [hw]; omega
      · rename_i h1
        split
        · rename_i h2
          refine ⟨by simp, fun w hw => ?_, y, by simp, rfl⟩
          rcases List.mem_append.1 hw with hw | hw
          · rcases h with ⟨h3, _⟩ | ⟨h3, h4, _⟩
            · rw [h3] at hw; cases hw
            · rcases h2 with h2 | h2
              · exact absurd h2 h3
              · have := h4 w hw; simp only; omega
          · rw [List.mem_singleton] at hw; rw [hw]; exact Int.le_refl _
        · rename_i h2
          have h3 : x.1 ≠ [] := fun h4 => h2 (.inl h4)
          have h4 : ¬ y.2 < x.2 := fun h4 => h2 (.inr h4)
          have h5 : ¬ x.2 < y.2 := fun h5 => h1 ⟨h3, h5⟩
          rcases h with ⟨_, h6⟩ | ⟨_, h7, z, h8, h9⟩
          · exact absurd h6 h3
          · refine ⟨by simp, fun w hw => ?_, z, List.mem_append_left _ h8, h9⟩
            rcases List.mem_append.1 hw with hw | hw
            · exact h7 w hw
            · rw [List.mem_singleton] at hw; rw [hw]; simp only; omega))
    rw [List.append_assoc, List.singleton_append] at ih
    rw [List.foldl_cons]
    exact ih
theorem choF_spec (s : List Wit) (c : Wit) : (parS s c = [] ∧ (choF s c).1 = []) ∨ ((choF s c).1 ≠ [] ∧ (∀ y ∈ parS s c, (choF s c).2 ≤ y.2) ∧ ∃ y ∈ parS s c, y.2 = (choF s c).2) := by
  have := fold_spec (parS s c) [] ([],0) (.inl ⟨rfl, rfl⟩)
  simpa [choF] using this
theorem choF_nil {s : List Wit} (h : checkS s = 0) (c : Wit) : (choF s c).1 = [] ↔ modR s c = [] := by
  rw [← models_eq h c, List.map_eq_nil_iff]
  rcases choF_spec s c with ⟨h1, h2⟩ | ⟨h1, _, y, h2, _⟩
  · simp [h1, h2]
  · exact ⟨fun h3 => absurd h3 h1, fun h3 => by rw [h3] at h2; cases h2⟩
theorem parS_fr {s : List Wit} (h : checkS s = 0) {c : Wit} {y : Int × Int} (hy : y ∈ parS s c) : y.2 = ((frS s c y.1).length : Int) := by
  rcases parS_mem.1 hy with ⟨rfl, _⟩ | ⟨p, h1, h2, _, h4⟩
  · simp [frS]
  · obtain ⟨hp, hpi⟩ := getW_mem h2
    have h0 : y.1 ≠ 0 := by have := checkS_pos h p hp; omega
    rw [h4, frS, if_neg h0, atI, h2]; rfl
theorem choF_min {s : List Wit} (h : checkS s = 0) {c : Wit} {b : Int} (hb : b ∈ bestR s c) : (choF s c).2 = ((frS s c b).length : Int) := by
  obtain ⟨h1, h2⟩ := List.mem_filter.1 hb
  unfold isB at h2
  rw [List.all_eq_true] at h2
  have hm : b ∈ (parS s c).map (·.1) := by rw [models_eq h c]; exact h1
  obtain ⟨y, hy, rfl⟩ := List.mem_map.1 hm
  rcases choF_spec s c with ⟨h3, _⟩ | ⟨_, h4, z, h5, h6⟩
  · rw [h3] at hy; cases hy
  · have e1 := h4 y hy
    rw [parS_fr h hy] at e1
    have hz : z.1 ∈ modR s c := by rw [← models_eq h c]; exact List.mem_map_of_mem h5
    have e2 := h2 z.1 hz
    simp only [decide_eq_true_eq] at e2
    have e3 := parS_fr h h5
    omega
theorem chE_eq {s : List Wit} (h : checkS s = 0) : chE s = if ∃ w ∈ s, modR s w = [] then 9 else 0 := by
  unfold chE
  rw [if_pos h]
  have : (∃ c ∈ s, (choF s c).1 = []) ↔ ∃ w ∈ s, modR s w = [] := ⟨fun ⟨w, h1, h2⟩ => ⟨w, h1,(choF_nil h w).1 h2⟩, fun ⟨w, h1, h2⟩ => ⟨w, h1,(choF_nil h w).2 h2⟩⟩
  by_cases h2 : ∃ w ∈ s, modR s w = []
  · rw [if_pos h2, if_pos (this.2 h2)]
  · rw [if_neg h2, if_neg (fun h3 => h2 (this.1 h3))]
theorem best_min {s : List Wit} (h : checkS s = 0) {c : Wit} (hc : c ∈ s) (hn : ¬ ∃ w ∈ s, modR s w = []) : (choF s c).2 = ((frS s c ((bestR s c).headD 0)).length : Int) := by
  have h1 : modR s c ≠ [] := fun h2 => hn ⟨c, hc, h2⟩
  cases hb : bestR s c with
  | nil => exact absurd hb (bestR_ne h1)
  | cons b r => exact choF_min h (show b ∈ bestR s c by rw [hb]; exact List.mem_cons_self)
theorem made_eq (s : List Wit) (a b : Int) : madeP s a b = madeR s a b := by
  unfold madeP madeR
  cases hk : kinR s a b with
  | err e => rfl
  | text c =>
    obtain ⟨h0, hg, _⟩ := kinR_text hk
    simp only
    rw [chE_eq h0]
    by_cases hn : ∃ w ∈ s, modR s w = []
    · rw [if_pos hn, if_pos hn]; rfl
    · rw [if_neg hn, if_neg hn, if_neg (by simp)]
      rw [best_min h0 (getW_mem hg).1 hn]
      simp [frS]
  | of c p =>
    obtain ⟨h0, hg, hb0, hg2⟩ := kinR_of hk
    simp only
    rw [chE_eq h0]
    by_cases hn : ∃ w ∈ s, modR s w = []
    · rw [if_pos hn, if_pos hn]; rfl
    · rw [if_neg hn, if_neg hn, if_neg (by simp)]
      rw [best_min h0 (getW_mem hg).1 hn]
      have : frS s c b = ariS c p := by rw [frS, if_neg hb0, atI, hg2]; rfl
      rw [this]
theorem mod_eq (s : List Wit) (a : Int) : modL s a = refL s a ∧ modE s a = kinE (kinR s a 0) := by
  unfold modL modE refL kinR
  by_cases h : checkS s = 0
  · rw [if_pos h, if_pos h, if_pos h]
    cases hg : getW s a with
    | none => exact ⟨rfl, rfl⟩
    | some c =>
      simp only
      exact ⟨models_eq h c, rfl⟩
  · rw [if_neg h, if_neg h, if_neg h]; exact ⟨rfl, rfl⟩
theorem can_eq (s : List Wit) (a b : Int) : canR (kinR s a b) = (decide ((whyR (kinR s a b)).2.2 = 0) && decide ((whyR (kinR s a b)).1 = 0)) := by
  cases hk : kinR s a b with
  | err e => simp [canR, whyR, kinR_err hk]
  | text c =>
    simp only [canR, whyR]
    cases h : (lastS c 0 == 0) <;> simp_all
  | of c p =>
    simp only [canR, whyR]
    cases h : ((whyP c p).1 == 0) <;> simp_all
end Go.Am.Ds
end

section
namespace Go.Am.Ds
open Go Go.Am Go.Proofs
set_option maxRecDepth 100000
set_option maxHeartbeats 4000000
set_option linter.unusedSimpArgs false
set_option linter.unusedVariables false
attribute [local simp] vrun vwanted vyielded vop vopA vputAll VHeap.back hidI hidF backL bm Nat.testBit_eq_decide_div_mod_eq veval vevals vparts vO vbuiltin vlen vappend velems vcopy vmakeSlice vbuildSlice valloc vbox vmakeMap vload vpartT vpart vstore vfieldAddr vfield vindexAddr vindex vextract vslice vsliceZ vbounds vbnd zeroO vidx vlookup vmget vmapUpdate vdelete vclear vnilq vnilp vnils vbin vsc vsc1 vscs vscl abinOp aint ashift aunOp aconvert amaxs amax2 pvcV pvc pvcs tput tget vargs VHeap.get VHeap.alloc VHeap.put VHeap.drop VHeap.empty vlook vput vdrop psplice pfill preps chunk List.range List.range.loop vresults vresult vresultV frz frzL PV.isF PV.allF PV.scal PV.allS retP subT allFT PV.one PV.ids PV.idsL dropL beq_eq ble_dec blt_dec
theorem p31m (s : List Wit) (a : Int) (hl : s.length < 4294967296) (hli : ∀ w ∈ s, w.slips.length < 4294967296 ∧ w.mended.length < 4294967296 ∧ w.models.length < 4294967296) : VPure Tryz.prog 31 [encS s, .int .i64 a] fun r => r = .agg [ints (modL s a), .int .i64 (modE s a)] := by
  rw [(mod_eq s a).1,(mod_eq s a).2]
  exact VPure.soft (p31 s a hl hli) rfl
theorem p33m (s : List Wit) (a b : Int) (hl : s.length < 4294967296) (hli : ∀ w ∈ s, w.slips.length < 4294967296 ∧ w.mended.length < 4294967296 ∧ w.models.length < 4294967296) : VPure Tryz.prog 33 [encS s, .agg [.int .i64 a, .int .i64 b]] fun r => r = .agg [.int .i64 (madeP s a b).1, .int .i64 (madeP s a b).2] := by
  rw [made_eq]; exact p33 s a b hl hli
theorem p27m (s : List Wit) (a b : Int) (hl : s.length < 4294967296) : VPure Tryz.prog 27 [encS s, .agg [.int .i64 a, .int .i64 b]] fun r => r = .tup [.bool (decide ((whyR (kinR s a b)).2.2 = 0) && ((whyR (kinR s a b)).1 == 0)), .int .i64 (whyR (kinR s a b)).2.2] := by
  have h : canR (kinR s a b) = (decide ((whyR (kinR s a b)).2.2 = 0) && ((whyR (kinR s a b)).1 == 0)) := by
    rw [can_eq]; cases h : ((whyR (kinR s a b)).1 == 0) <;> simp_all
  rw [← h]; exact p27 s a b hl
theorem modL_len (s : List Wit) (a : Int) (hl : s.length ≤ 40) : (modL s a).length < 4294967296 := by
  unfold modL
  split
  · split
    · rw [List.length_map, parS, List.length_append]
      have h1 : ∀ c : Wit, (headP c).length ≤ 1 := by intro c; unfold headP; split <;> simp
      have h2 := List.length_filterMap_le (stepP s ‹Wit›) (idsS s)
      have h3 : (idsS s).length = s.length := by simp [idsS]
      have := h1 ‹Wit›
      omega
    · decide
  · decide
theorem fewS_40 {s : List Wit} (h : fewS s = true) : s.length ≤ 40 := by
  unfold fewS at h
  simp only [Bool.and_eq_true, Bool.not_eq_true', Bool.or_eq_true, decide_eq_true_eq] at h
  omega
theorem p4 (s : List Wit) (a : Int) (x y : Int) (hl : s.length < 4611686018427387904) (sanB : Bool) (hsan : VPure Tryz.prog 22 [] fun r => r = .bool sanB) (hsb : sanB = true) : VPure Tryz.prog 4 [encS s, .int .i64 a, .agg [.int .i64 x, .int .i64 y]] fun r => r = .bool true := by
  refine .of_body Tryz.func4 rfl rfl ?_
  refine .seq ?_
  refine .rn ?_
  refine .seq ?_
  refine .seq ?_
  refine .regionL [0,1,2] rfl zz0 ?_
  refine .rn [0] [1,2] ?_
  refine .step rfl rfl (.pure rfl rfl rfl Tryz.call26 (by decide) (p26 s hl) (by first | rfl | simp [*]) ?_)
  rintro _ rfl
  refine .rn [2] [] ?_
  refine .done ?_
  refine .condS rfl (fun c21 => ?_) (fun c21 => ?_)
  · try simp at c21
    refine .seq ?_
    refine .regionL [0,1] rfl zz0 ?_
    refine .step rfl rfl (.pure rfl rfl rfl Tryz.call22 (by decide) (hsan) (by first | rfl | simp [*]) ?_)
    rintro _ rfl
    refine .rn [1] [] ?_
    refine .done ?_
    refine .ret ?_
    refine ⟨_, _, zz4,zz4, ?_⟩
    simp_all
  · try simp at c21
    obtain ⟨hl2, hw⟩ := fewS_len c21
    have hml := modL_len s a (fewS_40 c21)
    refine .skip ?_
    refine .seq ?_
    refine .regionL [0,1,2,3,4,5,6,7] rfl zz0 ?_
    refine .rn [0,1] [2,3,4,5,6,7] ?_
    refine .step rfl rfl (.pure rfl rfl rfl Tryz.call27 (by decide) (p27m s x y hl2) (by first | rfl | simp [*]) ?_)
    rintro _ rfl
    refine .rn [3,4,5,6,7] [] ?_
    refine .done ?_
    refine .seq ?_
    refine .regionL [0,1,2,3,4,5,6,7,8,9] rfl zz0 ?_
    refine .rn [0,1] [2,3,4,5,6,7,8,9] ?_
    refine .step rfl rfl (.pure rfl rfl rfl Tryz.call28 (by decide) (p28 s x y hl2) (by first | rfl | simp [*]) ?_)
    rintro _ rfl
    refine .rn [3,4,5,6,7,8,9] [] ?_
    refine .done ?_
    refine .seq ?_
    refine .regionL [0,1,2,3,4] rfl zz0 ?_
    refine .rn [0,1] [2,3,4] ?_
    refine .step rfl rfl (.pure rfl rfl rfl Tryz.call29 (by decide) (p29 s x y hl2 hw) (by first | rfl | simp [*]) ?_)
    rintro _ rfl
    refine .rn [3,4] [] ?_
    refine .done ?_
    refine .seq ?_
    refine .regionL [0,1,2,3,4,5,6,7] rfl zz0 ?_
    refine .rn [0,1] [2,3,4,5,6,7] ?_
    refine .step rfl rfl (.pure rfl rfl rfl Tryz.call30 (by decide) (p30' s a hl2) (by first | rfl | simp [*]) ?_)
    rintro _ rfl
    refine .rn [3,4,5,6,7] [] ?_
    refine .done ?_
    refine .seq ?_
    refine .regionL [0,1,2,3,4] rfl zz0 ?_
    refine .rn [0,1] [2,3,4] ?_
    refine .step rfl rfl (.pure rfl rfl rfl Tryz.call31 (by decide) (p31m s a hl2 hw) (by first | rfl | simp [*]) ?_)
    rintro _ rfl
    refine .rn [3,4] [] ?_
    refine .done ?_
    refine .seq ?_
    refine .regionL [0,1,2,3,4,5,6,7] rfl zz0 ?_
    refine .rn [0,1] [2,3,4,5,6,7] ?_
    refine .step rfl rfl (.pure rfl rfl rfl Tryz.call32 (by decide) (p32 s x y hl2) (by first | rfl | simp [*]) ?_)
    rintro _ rfl
    refine .rn [3,4,5,6,7] [] ?_
    refine .done ?_
    refine .seq ?_
    refine .regionL [0,1,2,3,4] rfl zz0 ?_
    refine .rn [0,1] [2,3,4] ?_
    refine .step rfl rfl (.pure rfl rfl rfl Tryz.call33 (by decide) (p33m s x y hl2 hw) (by first | rfl | simp [*]) ?_)
    rintro _ rfl
    refine .rn [3,4] [] ?_
    refine .done ?_
    refine .seq ?_
    refine .regionL [0,1,2,3,4,5,6,7,8,9,10,11,12,13,14,15,16,17,18,19,20,21,22,23,24,25,26,27,28,29,30,31,32,33,34,35,36,37,38,39,40,41,42,43,44,45,46,47,48,49,50,51,52,53,54,55,56,57,58,59,60,61] rfl zz0 ?_
    refine .step rfl rfl (.pure rfl rfl rfl Tryz.call22 (by decide) (hsan) (by first | rfl | simp [*]) ?_)
    rintro _ rfl
    refine .rn [1] [2,3,4,5,6,7,8,9,10,11,12,13,14,15,16,17,18,19,20,21,22,23,24,25,26,27,28,29,30,31,32,33,34,35,36,37,38,39,40,41,42,43,44,45,46,47,48,49,50,51,52,53,54,55,56,57,58,59,60,61] ?_
    refine .split (t := 58) rfl (fun c58 => ?_) (fun c58 => ?_)
    · try rw [c58]
      try simp at c58
      refine .rn [2,3,4,5,6] [7,8,9,10,11,12,13,14,15,16,17,18,19,20,21,22,23,24,25,26,27,28,29,30,31,32,33,34,35,36,37,38,39,40,41,42,43,44,45,46,47,48,49,50,51,52,53,54,55,56,57,58,59,60,61] ?_
      refine .split (t := 63) rfl (fun c63 => ?_) (fun c63 => ?_)
      · try rw [c63]
        try simp at c63
        refine .rn [7,8,9,10,11,12,13] [14,15,16,17,18,19,20,21,22,23,24,25,26,27,28,29,30,31,32,33,34,35,36,37,38,39,40,41,42,43,44,45,46,47,48,49,50,51,52,53,54,55,56,57,58,59,60,61] ?_
        refine .split (t := 70) rfl (fun c70 => ?_) (fun c70 => ?_)
        · try rw [c70]
          try simp at c70
          refine .rn [14,15,16,17,18,19] [20,21,22,23,24,25,26,27,28,29,30,31,32,33,34,35,36,37,38,39,40,41,42,43,44,45,46,47,48,49,50,51,52,53,54,55,56,57,58,59,60,61] ?_
          refine .split (t := 76) rfl (fun c76 => ?_) (fun c76 => ?_)
          · try rw [c76]
            try simp at c76
            refine .rn [20,21,22,23,24,25] [26,27,28,29,30,31,32,33,34,35,36,37,38,39,40,41,42,43,44,45,46,47,48,49,50,51,52,53,54,55,56,57,58,59,60,61] ?_
            refine .split (t := 82) rfl (fun c82 => ?_) (fun c82 => ?_)
            · try rw [c82]
              try simp at c82
              refine .rn [26,27,28,29,30,31] [32,33,34,35,36,37,38,39,40,41,42,43,44,45,46,47,48,49,50,51,52,53,54,55,56,57,58,59,60,61] ?_
              refine .split (t := 88) rfl (fun c88 => ?_) (fun c88 => ?_)
              · try rw [c88]
                try simp at c88
                refine .rn [32,33,34,35,36,37] [38,39,40,41,42,43,44,45,46,47,48,49,50,51,52,53,54,55,56,57,58,59,60,61] ?_
                refine .split (t := 94) rfl (fun c94 => ?_) (fun c94 => ?_)
                · try rw [c94]
                  try simp at c94
                  refine .rn [38,39,40] [41,42,43,44,45,46,47,48,49,50,51,52,53,54,55,56,57,58,59,60,61] ?_
                  refine .step rfl rfl (.pure rfl rfl rfl Tryz.call34 (by decide) (p34 _ _ hml hml) (by first | rfl | simp [*]) ?_)
                  rintro _ rfl
                  refine .rn [42,43] [44,45,46,47,48,49,50,51,52,53,54,55,56,57,58,59,60,61] ?_
                  refine .split (t := 100) rfl (fun c100 => ?_) (fun c100 => ?_)
                  · try rw [c100]
                    try simp at c100
                    refine .rn [44,45,46,47,48,49] [50,51,52,53,54,55,56,57,58,59,60,61] ?_
                    refine .split (t := 106) rfl (fun c106 => ?_) (fun c106 => ?_)
                    · try rw [c106]
                      try simp at c106
                      refine .rn [50,51,52,53,54,55] [56,57,58,59,60,61] ?_
                      refine .split (t := 112) rfl (fun c112 => ?_) (fun c112 => ?_)
                      · try rw [c112]
                        try simp at c112
                        refine .rn [56,57,58,59,60,61] [] ?_
                        refine .done ?_
                        refine .ret ?_
                        refine ⟨_, _, zz4,zz4, ?_⟩
                        simp_all
                      · try rw [c112]
                        try simp at c112
                    · try rw [c106]
                      try simp at c106
                  · try rw [c100]
                    try simp at c100
                · try rw [c94]
                  try simp at c94
              · try rw [c88]
                try simp at c88
            · try rw [c82]
              try simp at c82
          · try rw [c76]
            try simp at c76
        · try rw [c70]
          try simp at c70
      · try rw [c63]
        try simp at c63
        refine .rn [7,8,9,10,11,12,13] [14,15,16,17,18,19,20,21,22,23,24,25,26,27,28,29,30,31,32,33,34,35,36,37,38,39,40,41,42,43,44,45,46,47,48,49,50,51,52,53,54,55,56,57,58,59,60,61] ?_
        refine .split (t := 70) rfl (fun c70 => ?_) (fun c70 => ?_)
        · try rw [c70]
          try simp at c70
          refine .rn [14,15,16,17,18,19] [20,21,22,23,24,25,26,27,28,29,30,31,32,33,34,35,36,37,38,39,40,41,42,43,44,45,46,47,48,49,50,51,52,53,54,55,56,57,58,59,60,61] ?_
          refine .split (t := 76) rfl (fun c76 => ?_) (fun c76 => ?_)
          · try rw [c76]
            try simp at c76
            refine .rn [20,21,22,23,24,25] [26,27,28,29,30,31,32,33,34,35,36,37,38,39,40,41,42,43,44,45,46,47,48,49,50,51,52,53,54,55,56,57,58,59,60,61] ?_
            refine .split (t := 82) rfl (fun c82 => ?_) (fun c82 => ?_)
            · try rw [c82]
              try simp at c82
              refine .rn [26,27,28,29,30,31] [32,33,34,35,36,37,38,39,40,41,42,43,44,45,46,47,48,49,50,51,52,53,54,55,56,57,58,59,60,61] ?_
              refine .split (t := 88) rfl (fun c88 => ?_) (fun c88 => ?_)
              · try rw [c88]
                try simp at c88
                refine .rn [32,33,34,35,36,37] [38,39,40,41,42,43,44,45,46,47,48,49,50,51,52,53,54,55,56,57,58,59,60,61] ?_
                refine .split (t := 94) rfl (fun c94 => ?_) (fun c94 => ?_)
                · try rw [c94]
                  try simp at c94
                  refine .rn [38,39,40] [41,42,43,44,45,46,47,48,49,50,51,52,53,54,55,56,57,58,59,60,61] ?_
                  refine .step rfl rfl (.pure rfl rfl rfl Tryz.call34 (by decide) (p34 _ _ hml hml) (by first | rfl | simp [*]) ?_)
                  rintro _ rfl
                  refine .rn [42,43] [44,45,46,47,48,49,50,51,52,53,54,55,56,57,58,59,60,61] ?_
                  refine .split (t := 100) rfl (fun c100 => ?_) (fun c100 => ?_)
                  · try rw [c100]
                    try simp at c100
                    refine .rn [44,45,46,47,48,49] [50,51,52,53,54,55,56,57,58,59,60,61] ?_
                    refine .split (t := 106) rfl (fun c106 => ?_) (fun c106 => ?_)
                    · try rw [c106]
                      try simp at c106
                      refine .rn [50,51,52,53,54,55] [56,57,58,59,60,61] ?_
                      refine .split (t := 112) rfl (fun c112 => ?_) (fun c112 => ?_)
                      · try rw [c112]
                        try simp at c112
                        refine .rn [56,57,58,59,60,61] [] ?_
                        refine .done ?_
                        refine .ret ?_
                        refine ⟨_, _, zz4,zz4, ?_⟩
                        simp_all
                      · try rw [c112]
                        try simp at c112
                    · try rw [c106]
                      try simp at c106
                  · try rw [c100]
                    try simp at c100
                · try rw [c94]
                  try simp at c94
              · try rw [c88]
                try simp at c88
            · try rw [c82]
              try simp at c82
          · try rw [c76]
            try simp at c76
        · try rw [c70]
          try simp at c70
    · try rw [c58]
      try simp at c58
end Go.Am.Ds
end
