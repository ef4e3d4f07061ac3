/-
  What is used in the proof of a statement (part HiF); no condition.
-/
import Derived.Test.YtmgglkdilpglgaaGreatHiD
import Derived.Test.YtmgglkdilpglgaaGreatHiZ
import Derived.Test.YtmgglkdilpglgaaGreatVm2
import Derived.Test.YtmgglkdilpglgaaGreatHiT
import Derived.Test.YtmgglkdilpglgaaGreatHiS
set_option linter.all false
section
namespace Go.Am.Hi
open Go Go.Am Go.Proofs
set_option maxRecDepth 100000
set_option linter.unusedSimpArgs false
set_option linter.unusedVariables false

def Seg (R : List Int) (v : Int) : List Int → Int → Prop
  | [], w => v = w
  | x :: t, w => x = v ∧ Seg R (nx R v) t w
theorem Seg.append {R : List Int} : ∀ {l r : List Int} {v w : Int}, Seg R v (l ++ r) w ↔ ∃ u, Seg R v l u ∧ Seg R u r w
  | [], r, v, w => ⟨fun h => ⟨v, rfl, h⟩, fun ⟨u, h1, h2⟩ => by cases h1; exact h2⟩
  | x :: l, r, v, w => by
    show (x = v ∧ Seg R (nx R v) (l ++ r) w) ↔ ∃ u, (x = v ∧ Seg R (nx R v) l u) ∧ Seg R u r w
    rw [Seg.append]
    exact ⟨fun ⟨h, u, h1, h2⟩ => ⟨u, ⟨h, h1⟩, h2⟩, fun ⟨u, ⟨h, h1⟩, h2⟩ => ⟨h, u, h1, h2⟩⟩
theorem Seg.congr {R S : List Int} : ∀ {l : List Int} {v w : Int},(∀ x ∈ l, nx R x = nx S x) → Seg R v l w → Seg S v l w
  | [], _, _, _, h => h
  | x :: l, v, w, hx, h => by
    obtain ⟨rfl, h2⟩ := h
    refine ⟨rfl, ?_⟩
    rw [← hx x List.mem_cons_self]
    exact Seg.congr (fun y hy => hx y (List.mem_cons_of_mem _ hy)) h2
def Lp (R m : List Int) : Prop := ∃ a t, m = a :: t ∧ Seg R a (a :: t) a
theorem Lp.turn {R u v : List Int} {b : Int} (h : Lp R (u ++ b :: v)) : Lp R (b :: (v ++ u)) := by
  obtain ⟨a, t, he, hs⟩ := h
  rw [← he, Seg.append] at hs
  obtain ⟨x, h1, h2⟩ := hs
  have : b = x := h2.1
  subst this
  exact ⟨b, v ++ u, rfl, by rw [← List.cons_append, Seg.append]; exact ⟨a, h2, h1⟩⟩
theorem Lp.closed {R m : List Int} (h : Lp R m) : ∀ x ∈ m, nx R x ∈ m := fun x hx => by
  obtain ⟨u, v, rfl⟩ := List.append_of_mem hx
  obtain ⟨a, t, he, hs⟩ := h.turn
  injection he with h1 h2
  subst h1; subst h2
  have h3 := hs.2
  cases hvu : v ++ u with
  | nil => rw [hvu] at h3; have : nx R x = x := h3; rw [this]; exact hx
  | cons y r =>
    rw [hvu] at h3
    have h4 : y = nx R x := h3.1
    have : y ∈ v ++ u := by rw [hvu]; exact List.mem_cons_self
    rw [← h4]
    rcases List.mem_append.1 this with h | h
    · exact List.mem_append_right _ (List.mem_cons_of_mem _ h)
    · exact List.mem_append_left _ h
theorem Seg.inside {R q : List Int} (hq : ∀ x ∈ q, nx R x ∈ q) : ∀ {l : List Int} {v w : Int}, v ∈ q → Seg R v l w → ∀ x ∈ l, x ∈ q
  | [], _, _, _, _, x, hx => by cases hx
  | y :: l, v, w, hv, h, x, hx => by
    obtain ⟨rfl, h2⟩ := h
    rcases List.mem_cons.1 hx with rfl | hx
    · exact hv
    · exact Seg.inside hq (hq _ hv) h2 x hx
theorem Lp.same {R m q : List Int} (hm : Lp R m) (hq : Lp R q) {x : Int} (h1 : x ∈ m) (h2 : x ∈ q) : ∀ y ∈ m, y ∈ q := by
  obtain ⟨u, v, rfl⟩ := List.append_of_mem h1
  obtain ⟨a, t, he, hs⟩ := hm.turn
  injection he with h3 h4
  subst h3; subst h4
  have := Seg.inside hq.closed h2 hs
  intro y hy
  refine this y ?_
  simp only [List.mem_append, List.mem_cons] at hy ⊢
  rcases hy with h | h | h
  · exact .inr (.inr h)
  · exact .inl h
  · exact .inr (.inl h)
structure Rep (R : List Int) (P : List (List Int)) : Prop where
  lp : ∀ m ∈ P, Lp R m
  nd : P.flatten.Nodup
  rng : ∀ x ∈ P.flatten, 0 ≤ x ∧ x < (R.length : Int)
  all : ∀ i : Nat, i < R.length → (i : Int) ∈ P.flatten
theorem Rep.le {R : List Int} {P Q : List (List Int)} (hP : Rep R P) (hQ : Rep R Q) : P.length ≤ Q.length := by
  let f : List Int → Option (List Int) := fun m => Q.find? fun q => q.contains (m.headD 0)
  have hf : ∀ m ∈ P, ∃ q ∈ Q, f m = some q ∧ m.headD 0 ∈ m ∧ m.headD 0 ∈ q := fun m hm => by
    obtain ⟨a, t, rfl, _⟩ := hP.lp m hm
    have ha : a ∈ P.flatten := List.mem_flatten.2 ⟨_, hm, List.mem_cons_self⟩
    have hr := hP.rng a ha
    have hq := hQ.all a.toNat (by omega)
    rw [Int.toNat_of_nonneg hr.1] at hq
    obtain ⟨q, hq1, hq2⟩ := List.mem_flatten.1 hq
    cases hfm : f (a :: t) with
    | none =>
      have := List.find?_eq_none.1 hfm q hq1
      simp at this
      exact absurd hq2 this
    | some q2 =>
      have h1 := List.find?_some hfm
      have h2 := List.mem_of_find?_eq_some hfm
      exact ⟨q2, h2, rfl, List.mem_cons_self, by simpa using h1⟩
  have hnd : (P.map f).Nodup := by
    rw [List.Nodup, List.pairwise_map]
    have hdis := (List.pairwise_flatten.1 hP.nd).2
    refine hdis.imp_of_mem fun {m m'} hm hm' hd he => ?_
    obtain ⟨q, hq, e1, k1, k2⟩ := hf m hm
    obtain ⟨q', hq', e2, k3, k4⟩ := hf m' hm'
    rw [e1, e2] at he
    injection he with he
    subst he
    exact hd _ ((hQ.lp q hq).same (hP.lp m hm) k2 k1 _ k4) _ k3 rfl
  have := hnd.length_le_of_subset (l₂ := Q.map some) fun o ho => by
    obtain ⟨m, hm, rfl⟩ := List.mem_map.1 ho
    obtain ⟨q, hq, e, _⟩ := hf m hm
    rw [e]
    exact List.mem_map.2 ⟨q, hq, rfl⟩
  simpa using this
theorem Rep.count {R : List Int} {P Q : List (List Int)} (hP : Rep R P) (hQ : Rep R Q) : P.length = Q.length := Nat.le_antisymm (hP.le hQ) (hQ.le hP)
end Go.Am.Hi
end

section
namespace Go.Am.Hi
open Go Go.Am Go.Proofs
set_option maxRecDepth 100000
set_option linter.unusedSimpArgs false
set_option linter.unusedVariables false

theorem Rep.of {R S : List Int} {P Q : List (List Int)} (h : Rep R P) (hs : S.length = R.length) (hp : P.flatten.Perm Q.flatten) (hl : ∀ m ∈ Q, Lp S m) : Rep S Q :=
  ⟨hl, hp.nodup_iff.1 h.nd, fun x hx => by rw [hs]; exact h.rng x (hp.mem_iff.2 hx), fun i hi => hp.mem_iff.1 (h.all i (by omega))⟩
theorem flatten_perm {P Q : List (List Int)} (h : P.Perm Q) : P.flatten.Perm Q.flatten := h.flatten
theorem Rep.front {R : List Int} {P : List (List Int)} (h : Rep R P) {a : Int} (ha : a ∈ P.flatten) : ∃ t rest, Rep R ((a :: t) :: rest) ∧ P.length = rest.length + 1 ∧ (∀ b, b ∈ a :: t → ∃ m ∈ P, a ∈ m ∧ b ∈ m) := by
  obtain ⟨m, hm, ham⟩ := List.mem_flatten.1 ha
  obtain ⟨u, v, rfl⟩ := List.append_of_mem ham
  have hp := List.perm_cons_erase hm
  refine ⟨v ++ u, P.erase (u ++ a :: v), h.of rfl ?_ ?_, by rw [hp.length_eq]; rfl, fun b hb => ⟨_, hm, ham, ?_⟩⟩
  · refine (flatten_perm hp).trans ?_
    rw [List.flatten_cons, List.flatten_cons]
    exact List.Perm.append_right _ (List.perm_append_comm (l₁ := u) (l₂ := a :: v))
  · intro q hq
    rcases List.mem_cons.1 hq with rfl | hq
    · exact (h.lp _ hm).turn
    · exact h.lp _ (List.mem_of_mem_erase hq)
  · simp only [List.mem_append, List.mem_cons] at hb ⊢
    rcases hb with h | h | h
    · exact .inr (.inl h)
    · exact .inr (.inr h)
    · exact .inl h
theorem nx_swp_a {R : List Int} {a b : Nat} (ha : a < R.length) (hb : b < R.length) : nx (swp R ((a : Int),(b : Int))) a = nx R b := by
  unfold nx swp
  simp only [Int.toNat_natCast, List.getD_eq_getElem?_getD, List.getElem?_set, List.length_set]
  by_cases h : b = a
  · subst h; simp [ha]
  · simp [h, ha, hb]
theorem nx_swp_b {R : List Int} {a b : Nat} (ha : a < R.length) (hb : b < R.length) : nx (swp R ((a : Int),(b : Int))) b = nx R a := by
  unfold nx swp
  simp only [Int.toNat_natCast, List.getD_eq_getElem?_getD, List.getElem?_set, List.length_set]
  simp [ha, hb]
theorem nx_swp_o {R : List Int} {a b : Nat} {x : Int} (hx : 0 ≤ x) (h1 : x ≠ a) (h2 : x ≠ b) : nx (swp R ((a : Int),(b : Int))) x = nx R x := by
  unfold nx swp
  simp only [Int.toNat_natCast, List.getD_eq_getElem?_getD, List.getElem?_set, List.length_set]
  rw [if_neg (by omega), if_neg (by omega)]
theorem Rep.swap {R : List Int} {P : List (List Int)} (h : Rep R P) {a b : Nat} (ha : a < R.length) (hb : b < R.length) (hab : a ≠ b) :
    ∃ Q, Rep (swp R ((a : Int),(b : Int))) Q ∧ ((Q.length + 1 = P.length ∧ True) ∨ (Q.length = P.length + 1 ∧ ∃ m ∈ P, (a : Int) ∈ m ∧ (b : Int) ∈ m)) := by
  obtain ⟨t, rest, h1, hl1, hin⟩ := h.front (h.all a ha)
  have hba := nx_swp_a ha hb
  have hbb := nx_swp_b ha hb
  have hsl : (swp R ((a : Int),(b : Int))).length = R.length := swp_len _ _
  have hnd := h1.nd
  rw [List.flatten_cons, List.nodup_append] at hnd
  obtain ⟨n1, n2, n3⟩ := hnd
  rw [List.nodup_cons] at n1
  have hpos : ∀ x ∈ ((a : Int) :: t) ++ rest.flatten, 0 ≤ x := fun x hx => (h1.rng x (by rw [List.flatten_cons]; exact hx)).1
  obtain ⟨a', t', he, hs⟩ := h1.lp _ List.mem_cons_self
  injection he with e1 e2
  subst e1; subst e2
  have hs2 := hs.2
  by_cases hbt : (b : Int) ∈ t
  · -- one loop is parted
    obtain ⟨u, v, rfl⟩ := List.append_of_mem hbt
    rw [Seg.append] at hs2
    obtain ⟨x, s1, s2⟩ := hs2
    have hxb : (b : Int) = x := s2.1
    subst hxb
    have n4 := n1.2
    rw [List.nodup_append] at n4
    obtain ⟨m1, m2, m3⟩ := n4
    rw [List.nodup_cons] at m2
    have ou : ∀ x ∈ u, nx R x = nx (swp R ((a : Int),(b : Int))) x := fun x hx => (nx_swp_o (hpos x (by simp [hx])) (fun he => n1.1 (by rw [← he]; simp [hx])) (fun he => m3 x hx b List.mem_cons_self he)).symm
    have ov : ∀ x ∈ v, nx R x = nx (swp R ((a : Int),(b : Int))) x := fun x hx => (nx_swp_o (hpos x (by simp [hx])) (fun he => n1.1 (by rw [← he]; simp [hx])) (fun he => m2.1 (by rw [← he]; exact hx))).symm
    refine ⟨((a : Int) :: v) :: ((b : Int) :: u) :: rest, h1.of hsl ?_ ?_, .inr ⟨by simp [hl1], ?_⟩⟩
    · simp only [List.flatten_cons]
      rw [← List.append_assoc]
      refine List.Perm.append_right _ ?_
      simp only [List.cons_append]
      refine List.Perm.cons _ ?_
      exact List.perm_append_comm (l₁ := u) (l₂ := (b : Int) :: v) |>.trans (by
        simp only [List.cons_append]
        exact (List.perm_middle (a := (b : Int)) (l₁ := v) (l₂ := u)).symm)
    · intro m hm
      rcases List.mem_cons.1 hm with rfl | hm
      · exact ⟨a, v, rfl, rfl, by rw [hba]; exact s2.2.congr ov⟩
      rcases List.mem_cons.1 hm with rfl | hm
      · exact ⟨b, u, rfl, rfl, by rw [hbb]; exact s1.congr ou⟩
      · obtain ⟨c, r, rfl, hr⟩ := h1.lp m (List.mem_cons_of_mem _ hm)
        exact ⟨c, r, rfl, hr.congr fun x hx => (nx_swp_o (hpos x (List.mem_append_right _ (List.mem_flatten.2 ⟨_, hm, hx⟩))) (fun he => n3 a List.mem_cons_self x (List.mem_flatten.2 ⟨_, hm, hx⟩) he.symm) (fun he => n3 b (by simp) x (List.mem_flatten.2 ⟨_, hm, hx⟩) he.symm)).symm⟩
    · exact hin b (by simp)
  · -- two loops are joined
    have hbr : (b : Int) ∈ rest.flatten := by
      have := h1.all b hb
      rw [List.flatten_cons] at this
      rcases List.mem_append.1 this with h | h
      · rcases List.mem_cons.1 h with h | h
        · omega
        · exact absurd h hbt
      · exact h
    obtain ⟨m, hm, hbm⟩ := List.mem_flatten.1 hbr
    obtain ⟨u, v, rfl⟩ := List.append_of_mem hbm
    have hp := List.perm_cons_erase hm
    obtain ⟨b', t2, he2, hs3⟩ := (h1.lp _ (List.mem_cons_of_mem _ hm)).turn
    injection he2 with e3 e4
    subst e3
    have hs4 := hs3.2
    have hmem : ∀ x ∈ t2, x ∈ u ++ (b : Int) :: v := fun x hx => by
      rw [← e4] at hx
      simp only [List.mem_append, List.mem_cons] at hx ⊢
      rcases hx with h | h
      · exact .inr (.inr h)
      · exact .inl h
    have hfl : rest.flatten.Perm (((b : Int) :: t2) ++ (rest.erase (u ++ (b : Int) :: v)).flatten) := by
      refine (flatten_perm hp).trans ?_
      rw [List.flatten_cons, ← e4]
      exact List.Perm.append_right _ (List.perm_append_comm (l₁ := u) (l₂ := (b : Int) :: v))
    have n5 := hfl.nodup_iff.1 n2
    rw [List.nodup_append, List.nodup_cons] at n5
    obtain ⟨⟨n6, n7⟩, n8, n9⟩ := n5
    have inr : ∀ x, x ∈ ((b : Int) :: t2) ++ (rest.erase (u ++ (b : Int) :: v)).flatten → x ∈ rest.flatten := fun x hx => hfl.mem_iff.2 hx
    have ot : ∀ x ∈ t, nx R x = nx (swp R ((a : Int),(b : Int))) x := fun x hx => (nx_swp_o (hpos x (by simp [hx])) (fun he => n1.1 (by rw [← he]; exact hx)) (fun he => hbt (by rw [← he]; exact hx))).symm
    have o2 : ∀ x ∈ t2, nx R x = nx (swp R ((a : Int),(b : Int))) x := fun x hx => (nx_swp_o (hpos x (List.mem_append_right _ (inr x (by simp [hx])))) (fun he => n3 a List.mem_cons_self x (inr x (by simp [hx])) he.symm) (fun he => n6 (by rw [← he]; exact hx))).symm
    refine ⟨((a : Int) :: (t2 ++ (b : Int) :: t)) :: rest.erase (u ++ (b : Int) :: v), h1.of hsl ?_ ?_, .inl ⟨?_, trivial⟩⟩
    · rw [List.flatten_cons, List.flatten_cons]
      refine (List.Perm.append_left _ hfl).trans ?_
      rw [← List.append_assoc]
      refine List.Perm.append_right _ ?_
      simp only [List.cons_append]
      refine List.Perm.cons _ ?_
      refine (List.perm_append_comm (l₁ := t) (l₂ := (b : Int) :: t2)).trans ?_
      simp only [List.cons_append]
      exact (List.perm_middle (a := (b : Int)) (l₁ := t2) (l₂ := t)).symm
    · intro q hq
      rcases List.mem_cons.1 hq with rfl | hq
      · refine ⟨a, _, rfl, rfl, ?_⟩
        rw [hba, Seg.append]
        exact ⟨b, hs4.congr o2, rfl, by rw [hbb]; exact hs2.congr ot⟩
      · obtain ⟨c, r, rfl, hr⟩ := h1.lp q (List.mem_cons_of_mem _ (List.mem_of_mem_erase hq))
        have hx2 : ∀ x ∈ c :: r, x ∈ (rest.erase (u ++ (b : Int) :: v)).flatten := fun x hx => List.mem_flatten.2 ⟨_, hq, hx⟩
        exact ⟨c, r, rfl, hr.congr fun x hx => (nx_swp_o (hpos x (List.mem_append_right _ (inr x (List.mem_append_right _ (hx2 x hx))))) (fun he => n3 a List.mem_cons_self x (inr x (List.mem_append_right _ (hx2 x hx))) he.symm) (fun he => n9 b List.mem_cons_self x (hx2 x hx) he.symm)).symm⟩
    · rw [List.length_cons, hl1]
      have := hp.length_eq
      rw [List.length_cons] at this
      omega
theorem TW_Seg {R : List Int} {c : Nat} : ∀ {t : List Int} {v : Int}, TW R c v t → Seg R v t c
  | [], _, h => h
  | x :: t, v, h => ⟨h.1, TW_Seg h.2⟩
theorem lpR_lp {row : List Int} (hn : row.Nodup) (hr : ∀ n ∈ row, 0 ≤ n ∧ n ≤ (row.length : Int) - 1) : ∀ k, k ≤ row.length → ∀ m ∈ lpR row k, Lp row m
  | 0, _, m, hm => by cases hm
  | k + 1, hk, m, hm => by
    rw [lpR] at hm
    split at hm
    · exact lpR_lp hn hr k (by omega) m hm
    · rcases List.mem_append.1 hm with hm | hm
      · exact lpR_lp hn hr k (by omega) m hm
      · obtain ⟨t, w1, w2, w3, w4, w5⟩ := loop_of hn hr (show k < row.length by omega)
        rw [List.mem_singleton, w1] at hm
        rw [hm]
        exact ⟨k, t, rfl, rfl, TW_Seg (TW_of w4 w5)⟩
theorem lpR_rep {row : List Int} (hn : row.Nodup) (hr : ∀ n ∈ row, 0 ≤ n ∧ n ≤ (row.length : Int) - 1) : Rep row (lpR row row.length) :=
  have L := li hn hr row.length (Nat.le_refl _)
  ⟨lpR_lp hn hr _ (Nat.le_refl _), L.nd, L.rng, L.all⟩
end Go.Am.Hi
end

section
namespace Go.Am.Hi
open Go Go.Am Go.Proofs
set_option maxRecDepth 100000
set_option linter.unusedSimpArgs false
set_option linter.unusedVariables false

def nl (R : List Int) : Nat := (lpR R R.length).length
def idR (n : Nat) : List Int := (List.range n).map Int.ofNat
theorem idR_len (n : Nat) : (idR n).length = n := by simp [idR]
theorem idR_nx (n : Nat) (i : Nat) (h : i < n) : nx (idR n) i = i := by
  unfold nx idR
  rw [List.getD_eq_getElem?_getD, Int.toNat_natCast]
  simp [h]
theorem idR_rep (n : Nat) : Rep (idR n) ((idR n).map fun x => [x]) := by
  have hf : ((idR n).map fun x => [x]).flatten = idR n := by
    generalize idR n = l
    induction l with
    | nil => rfl
    | cons a r ih => simp only [List.map_cons, List.flatten_cons, ih]; rfl
  have hm : ∀ x ∈ idR n, 0 ≤ x ∧ x < (n : Int) := fun x hx => by
    obtain ⟨i, hi, rfl⟩ := List.mem_map.1 hx
    have := List.mem_range.1 hi
    exact ⟨by simp, by simp; omega⟩
  refine ⟨fun m hx => ?_, ?_, fun x hx => ?_, fun i hi => ?_⟩
  · obtain ⟨x, hx2, rfl⟩ := List.mem_map.1 hx
    have := hm x hx2
    refine ⟨x, [], rfl, rfl, ?_⟩
    have h2 := idR_nx n x.toNat (by omega)
    rw [Int.toNat_of_nonneg this.1] at h2
    exact h2
  · rw [hf]
    unfold idR
    rw [List.Nodup, List.pairwise_map]
    exact (List.nodup_range (n := n)).imp fun h h2 => h (by injection h2)
  · rw [hf] at hx
    rw [idR_len]
    exact hm x hx
  · rw [idR_len] at hi
    rw [hf]
    exact List.mem_map.2 ⟨i, List.mem_range.2 hi, rfl⟩
theorem swp_perm {R : List Int} {a b : Nat} (ha : a < R.length) (hb : b < R.length) : (swp R ((a : Int),(b : Int))).Perm R := by
  rw [swp_nat R a b ha hb]
  have h := Array.swap_perm (xs := R.toArray) (i := a) (j := b) (by simpa using ha) (by simpa using hb)
  have h2 := h.toList
  simpa using h2
theorem exch_all {n : Nat} : ∀ (l : List (Int × Int)) (R : List Int) (P : List (List Int)), Rep R P → R.length = n → (∀ x ∈ l, goodX n x = true) → (exch R l).Perm R ∧ ∃ Q, Rep (exch R l) Q ∧ Q.length ≤ P.length + l.length ∧ P.length ≤ Q.length + l.length ∧ (Q.length + l.length) % 2 = P.length % 2
  | [], R, P, h, _, _ => ⟨List.Perm.refl _, P, h, Nat.le_refl _, Nat.le_refl _, by simp⟩
  | x :: l, R, P, h, hn, hx => by
    have hg := goodX_iff.1 (hx x List.mem_cons_self)
    obtain ⟨a, b, rfl, ha, hb, hab⟩ : ∃ a b : Nat, x = ((a : Int),(b : Int)) ∧ a < R.length ∧ b < R.length ∧ a ≠ b := ⟨x.1.toNat, x.2.toNat, by rw [Int.toNat_of_nonneg hg.1.1, Int.toNat_of_nonneg hg.2.1.1], by omega, by omega, by omega⟩
    obtain ⟨Q, hQ, hl⟩ := h.swap ha hb hab
    obtain ⟨i1, T, i2, i3, i4, i5⟩ := exch_all l (swp R ((a : Int),(b : Int))) Q hQ (by rw [swp_len, hn]) fun y hy => hx y (List.mem_cons_of_mem _ hy)
    refine ⟨i1.trans (swp_perm ha hb), T, i2, ?_⟩
    rw [List.length_cons]
    rcases hl with ⟨hl, _⟩ | ⟨hl, _⟩ <;> refine ⟨by omega, by omega, by omega⟩
theorem rowB_perm {R S : List Int} (h : R.Perm S) (hb : rowB S = true) : rowB R = true := by
  rw [rowB_iff] at hb ⊢
  rw [h.length_eq]
  exact ⟨⟨h.nodup_iff.2 hb.1.1, fun x hx => hb.1.2 x (h.mem_iff.1 hx)⟩, hb.2⟩
theorem idR_row {n : Nat} (h1 : 1 ≤ n) (h2 : n ≤ 24) : rowB (idR n) = true := by
  rw [rowB_iff, idR_len]
  refine ⟨⟨?_, fun x hx => ?_⟩, h1, h2⟩
  · unfold idR
    rw [List.Nodup, List.pairwise_map]
    exact (List.nodup_range (n := n)).imp fun h h2 => h (by injection h2)
  · obtain ⟨i, hi, rfl⟩ := List.mem_map.1 hx
    have := List.mem_range.1 hi
    exact ⟨by simp, by simp; omega⟩
theorem nl_of {R : List Int} (hb : rowB R = true) {P : List (List Int)} (hP : Rep R P) : nl R = P.length := by
  have hR := rowB_iff.1 hb
  exact (lpR_rep hR.1.1 hR.1.2).count hP
theorem back_ok {n : Nat} (h1 : 1 ≤ n) (h2 : n ≤ 24) {l : List (Int × Int)} (h : exE (idR n) l = 0) : rowB (exch (idR n) l) = true ∧ n - nl (exch (idR n) l) ≤ l.length ∧ (l.length - (n - nl (exch (idR n) l))) % 2 = 0 ∧ nl (exch (idR n) l) ≤ n := by
  have hb := idR_row h1 h2
  have hg : ∀ x ∈ l, goodX n x = true := by
    unfold exE at h
    rw [if_pos hb] at h
    split at h
    · cases h
    · split at h
      · rename_i h3
        rw [idR_len] at h3
        exact fun x hx => List.all_eq_true.1 h3 x hx
      · cases h
  obtain ⟨p, Q, q1, q2, q3, q4⟩ := exch_all l (idR n) _ (idR_rep n) (idR_len n) hg
  have hb2 := rowB_perm p hb
  have := nl_of hb2 q1
  have h5 : nl (exch (idR n) l) ≤ n := by
    have := lpR_len (exch (idR n) l) (exch (idR n) l).length
    rw [exch_len, idR_len] at this
    unfold nl
    rw [exch_len, idR_len]
    exact this
  rw [List.length_map, idR_len] at q2 q3 q4
  refine ⟨hb2, by omega, by omega, h5⟩
end Go.Am.Hi
end

section
namespace Go.Am.Hi
open Go Go.Am Go.Proofs
set_option maxRecDepth 100000
set_option linter.unusedSimpArgs false
set_option linter.unusedVariables false

def fnd (row : List Int) (k : Nat) : List (Int × Int) := (List.range k).map fun (c : Nat) => ((c : Int), nx row c)
theorem fnd_succ (row : List Int) (k : Nat) : fnd row (k + 1) = fnd row k ++ [((k : Int), nx row k)] := by
  unfold fnd; rw [List.range_succ, List.map_append]; rfl
theorem fnd_len (row : List Int) (k : Nat) : (fnd row k).length = k := by simp [fnd]
theorem mem_fnd {row : List Int} {k : Nat} {x : Int × Int} : x ∈ fnd row k ↔ ∃ c : Nat, c < k ∧ x = ((c : Int), nx row c) := by
  unfold fnd
  rw [List.mem_map]
  exact ⟨fun ⟨c, hc, h⟩ => ⟨c, List.mem_range.1 hc, h.symm⟩, fun ⟨c, hc, h⟩ => ⟨c, List.mem_range.2 hc, h.symm⟩⟩
theorem fnd_lk {row : List Int} {k c : Nat} (h : c < k) : lk (fnd row k) c = some (nx row c) := by
  cases hl : lk (fnd row k) c with
  | none => exact absurd rfl (lk_none.1 hl ((c : Int), nx row c) (mem_fnd.2 ⟨c, h, rfl⟩))
  | some v =>
    obtain ⟨d, _, h2⟩ := mem_fnd.1 (lk_some hl)
    injection h2 with h3 h4
    rw [h4, show d = c by omega]
theorem fnd_lk_none {row : List Int} {k c : Nat} (h : k ≤ c) : lk (fnd row k) c = none := lk_none.2 fun y hy he => by
  obtain ⟨d, h1, rfl⟩ := mem_fnd.1 hy
  simp only at he
  omega
theorem fnd_fok {row : List Int} (hb : rowB row = true) {k : Nat} (hk : k ≤ row.length) : FOK row.length (fnd row k) := by
  have hR := rowB_iff.1 hb
  refine ⟨fun x hx => ?_, fun x hx y hy he => ?_, fun x hx y hy he => ?_⟩
  · obtain ⟨c, hc, rfl⟩ := mem_fnd.1 hx
    have := nx_in hR.1.2 (x := (c : Int)) (by omega) (by omega)
    exact ⟨by simp only; omega, this⟩
  · obtain ⟨c, hc, rfl⟩ := mem_fnd.1 hx
    obtain ⟨d, hd, rfl⟩ := mem_fnd.1 hy
    simp only at he
    rw [show c = d by omega]
  · obtain ⟨c, hc, rfl⟩ := mem_fnd.1 hx
    obtain ⟨d, hd, rfl⟩ := mem_fnd.1 hy
    simp only at he
    have := nx_inj hR.1.1 (by omega) (by omega) (by omega) (by omega) he
    rw [show c = d by omega]
theorem fndE_zero {n : Nat} : ∀ {F G : List (Int × Int)}, FOK n (G ++ F) → (∀ x ∈ F, ∀ y ∈ G, y ≠ x) → F.Nodup → fndE n G F = 0
  | [], _, _, _, _ => rfl
  | x :: r, G, h, hne, hn => by
    have h1 := h.1 x (by simp)
    rw [List.nodup_cons] at hn
    unfold fndE
    rw [if_pos (inF_iff.2 (by omega)), if_neg]
    · refine fndE_zero (F := r) (G := G ++ [x]) (by rw [List.append_assoc]; exact h) (fun y hy z hz he => ?_) hn.2
      rcases List.mem_append.1 hz with hz | hz
      · exact hne y (List.mem_cons_of_mem _ hy) z hz he
      · rw [List.mem_singleton] at hz
        exact hn.1 (by rw [← hz, he]; exact hy)
    · intro hc
      unfold clF at hc
      obtain ⟨y, hy, hyx⟩ := List.any_eq_true.1 hc
      simp only [Bool.or_eq_true, decide_eq_true_eq] at hyx
      rcases hyx with he | he
      · exact hne x List.mem_cons_self y hy (h.2.1 _ (List.mem_append_left _ hy) _ (by simp) he)
      · exact hne x List.mem_cons_self y hy (h.2.2 _ (List.mem_append_left _ hy) _ (by simp) he)
theorem fnd_exp {row : List Int} (hb : rowB row = true) {k : Nat} (hk : k ≤ row.length) : expE row.length (fnd row k) = 0 := by
  have hR := (rowB_iff.1 hb).2
  rw [expE_in (by omega) (by rw [fnd_len]; omega)]
  refine fndE_zero (by simpa using fnd_fok hb hk) (by simp) ?_
  unfold fnd
  rw [List.Nodup, List.pairwise_map]
  refine (List.nodup_range (n := k)).imp fun h h2 => h ?_
  injection h2 with h3 h4
  omega
theorem fnd_all {row : List Int} : rowX row.length (fnd row row.length) = row := by
  apply List.ext_getElem?
  intro i
  by_cases h : i < row.length
  · rw [List.getElem?_eq_getElem h]
    have : (rowX row.length (fnd row row.length))[i]? = some (cellX row.length (fnd row row.length) i) := by simp [rowX, h]
    rw [this, cellX, fnd_lk h]
    simp [nx, List.getD_eq_getElem?_getD, List.getElem?_eq_getElem h]
  · rw [List.getElem?_eq_none (by simp [rowX]; omega), List.getElem?_eq_none (by omega)]
theorem lk_of_mem {n : Nat} {F : List (Int × Int)} (hF : FOK n F) {c v : Int} (h : (c, v) ∈ F) : lk F c = some v := by
  cases hl : lk F c with
  | none => exact absurd rfl (lk_none.1 hl _ h)
  | some w =>
    have := hF.2.1 _ (lk_some hl) _ h rfl
    injection this with _ h2
    rw [h2]
theorem lk_sw_of_mem {n : Nat} {F : List (Int × Int)} (hF : FOK n F) {c v : Int} (h : (v, c) ∈ F) : lk (sw F) c = some v := by
  cases hl : lk (sw F) c with
  | none => exact absurd rfl (lk_sw_none.1 hl _ h)
  | some w =>
    have := hF.2.2 _ (lk_sw_some hl) _ h rfl
    injection this with h2 _
    rw [h2]
theorem chain_bck {n : Nat} {F : List (Int × Int)} (hF : FOK n F) {c : Int} : ∀ {l : List Int} {a : Int}, CH F c (a :: l) → ∀ j, bck F (l.length + j) c = bck F j a
  | [], a, h, j => by rw [show a = c from h]; simp
  | b :: r, a, h, j => by
    have ih := chain_bck hF h.2 (j + 1)
    rw [List.length_cons, show r.length + 1 + j = r.length + (j + 1) by omega, ih, bck, lk_sw_of_mem hF h.1]
theorem bck_stop {F : List (Int × Int)} {s : Int} (h : lk (sw F) s = none) : ∀ j, bck F j s = s
  | 0 => rfl
  | j + 1 => by rw [bck, h]
theorem chain_end {n : Nat} {F : List (Int × Int)} (hF : FOK n F) {c : Nat} (hcn : c < n) (hc : lk F c = none) {s : Int} {l : List Int} (h : CH F c (s :: l)) (hs : lk (sw F) s = none) : bck F (n + 1) c = s := by
  obtain ⟨s2, l2, e1, w1, w2⟩ := bck_chain hF hc n c [] (by simp) (WB.zero hcn)
  have h1 := chain_bck hF h (l2.length)
  have h2 := chain_bck hF w1.2.1 (l.length)
  rw [bck_stop hs] at h1
  rw [bck_stop w2, Nat.add_comm] at h2
  rw [e1, ← h1, h2]
theorem CH.more {F G : List (Int × Int)} (h : ∀ x ∈ F, x ∈ G) {c : Int} : ∀ {l : List Int}, CH F c l → CH G c l
  | [], h1 => h1
  | [a], h1 => h1
  | a :: b :: r, h1 => ⟨h _ h1.1, CH.more h h1.2⟩
theorem CH.join {F : List (Int × Int)} {c k p : Int} {r : List Int} (hp : (k, p) ∈ F) (h2 : CH F c (p :: r)) : ∀ {l : List Int}, CH F k l → CH F c (l ++ p :: r)
  | [], h => h.elim
  | [a], h => by
    have : a = k := h
    subst this
    exact ⟨hp, h2⟩
  | a :: b :: t, h => ⟨h.1, CH.join hp h2 h.2⟩
theorem CH.known {F : List (Int × Int)} {c : Int} : ∀ {l : List Int}, CH F c l → ∀ x ∈ l, x = c ∨ ∃ y ∈ l, (x, y) ∈ F
  | [], h, _, _ => h.elim
  | [a], h, x, hx => by
    rw [List.mem_singleton] at hx
    exact .inl (by rw [hx]; exact h)
  | a :: b :: r, h, x, hx => by
    rcases List.mem_cons.1 hx with rfl | hx
    · exact .inr ⟨b, by simp, h.1⟩
    · rcases CH.known h.2 x hx with h1 | ⟨y, h1, h2⟩
      · exact .inl h1
      · exact .inr ⟨y, List.mem_cons_of_mem _ h1, h2⟩
end Go.Am.Hi
end

section
namespace Go.Am.Hi
open Go Go.Am Go.Proofs
set_option maxRecDepth 100000
set_option linter.unusedSimpArgs false
set_option linter.unusedVariables false

theorem rowX_len (n : Nat) (F : List (Int × Int)) : (rowX n F).length = n := by simp [rowX]
theorem rowX_get (n : Nat) (F : List (Int × Int)) (i : Nat) (h : i < n) : (rowX n F)[i]? = some (cellX n F i) := by simp [rowX, h]
theorem rowX_nx (n : Nat) (F : List (Int × Int)) (i : Nat) (h : i < n) : nx (rowX n F) i = cellX n F i := by
  unfold nx
  rw [List.getD_eq_getElem?_getD, Int.toNat_natCast, rowX_get n F i h]; rfl
theorem sw_snoc_none {F : List (Int × Int)} {k p s : Int} (h : lk (sw F) s = none) (hp : s ≠ p) : lk (sw (F ++ [(k, p)])) s = none := by
  rw [sw_snoc, lk_snoc, h]
  simp only
  rw [if_neg (fun he => hp he.symm)]
theorem one_more {row : List Int} (hb : rowB row = true) {k : Nat} (hk : k < row.length) : nl (rowX row.length (fnd row (k + 1))) ≤ nl (rowX row.length (fnd row k)) := by
  have hR := rowB_iff.1 hb
  have hF := fnd_fok hb (show k ≤ row.length by omega)
  have hG := fnd_fok hb (show k + 1 ≤ row.length by omega)
  have hFG : ∀ x ∈ fnd row k, x ∈ fnd row (k + 1) := fun x hx => by rw [fnd_succ]; exact List.mem_append_left _ hx
  have hkp : ((k : Int), nx row k) ∈ fnd row (k + 1) := by rw [fnd_succ]; simp
  have hck := fnd_lk_none (row := row) (Nat.le_refl k)
  obtain ⟨s, l2, e1, w1, w2⟩ := bck_chain hF hck row.length k [] (by simp) (WB.zero hk)
  have hcell : ∀ i, i < row.length → i ≠ k → (∀ s', bck (fnd row k) (row.length + 1) i = s' → k < i → s' ≠ nx row k) → cellX row.length (fnd row (k + 1)) i = cellX row.length (fnd row k) i := fun i hi hik hs => by
    rcases Nat.lt_or_ge i k with h | h
    · rw [cellX, cellX, fnd_lk (by omega), fnd_lk h]
    · have hn1 := fnd_lk_none (row := row) h
      have hn2 := fnd_lk_none (row := row) (show k + 1 ≤ i by omega)
      rw [cellX, cellX, hn1, hn2]
      simp only
      obtain ⟨s3, l3, f1, v1, v2⟩ := bck_chain hF hn1 row.length i [] (by simp) (WB.zero hi)
      rw [f1]
      exact chain_end hG hi hn2 (v1.2.1.more hFG) (by rw [fnd_succ]; exact sw_snoc_none v2 (hs s3 f1 (by omega)))
  have hsk : cellX row.length (fnd row k) k = s := by rw [cellX, hck]; exact e1
  have hpk : cellX row.length (fnd row (k + 1)) k = nx row k := by rw [cellX, fnd_lk (by omega)]
  by_cases hps : nx row k = s
  · -- the way closes as it was
    have : rowX row.length (fnd row (k + 1)) = rowX row.length (fnd row k) := by
      unfold rowX
      apply List.map_congr_left
      intro i hi
      have hi := List.mem_range.1 hi
      by_cases hik : i = k
      · subst hik; rw [hpk, hsk, hps]
      · refine hcell i hi hik fun s' hs' hlt he => ?_
        exact hik (bck_inj hF hi hk (fnd_lk_none (by omega)) hck (by rw [hs', e1, he, hps]))
    rw [this]; exact Nat.le_refl _
  · -- two ways are joined
    have hrb := row_row hF hR.2.1 hR.2.2
    have hrb2 := row_row hG hR.2.1 hR.2.2
    have hX := rowB_iff.1 hrb
    have hpr := nx_in hR.1.2 (x := (k : Int)) (by omega) (by omega)
    have hrep := lpR_rep hX.1.1 hX.1.2
    have hpe : ∃ e : Nat, e < row.length ∧ cellX row.length (fnd row k) e = nx row k := by
      have h1 : (rowX row.length (fnd row k)).length ≤ (rowX row.length (fnd row k)).length := Nat.le_refl _
      obtain ⟨p, hp⟩ : ∃ p : Nat, nx row k = p := ⟨(nx row k).toNat, by omega⟩
      have hall : (p : Int) ∈ rowX row.length (fnd row k) := Classical.byContradiction fun hno => by
        have h2 := List.Nodup.length_le_of_subset (l₁ := (p : Int) :: rowX row.length (fnd row k)) (l₂ := idR row.length) (List.nodup_cons.2 ⟨hno, hX.1.1⟩) (fun x hx => by
          have hx2 : 0 ≤ x ∧ x < (row.length : Int) := by
            rcases List.mem_cons.1 hx with rfl | hx
            · omega
            · have := hX.1.2 x hx
              rw [rowX_len] at this
              omega
          exact List.mem_map.2 ⟨x.toNat, List.mem_range.2 (by omega), by simp; omega⟩)
        rw [List.length_cons, rowX_len, idR_len] at h2
        omega
      obtain ⟨e, he, hee⟩ := List.mem_map.1 hall
      exact ⟨e, List.mem_range.1 he, by rw [hp]; exact hee⟩
    obtain ⟨e, he, hce⟩ := hpe
    have hek : e ≠ k := fun h => by rw [h, hsk] at hce; exact hps hce.symm
    have hke : k < e := Nat.lt_of_not_le fun h => by
      have hlt : e < k := by omega
      rw [cellX, fnd_lk hlt] at hce
      have := nx_inj hR.1.1 (x := (e : Int)) (y := (k : Int)) (by omega) (by omega) (by omega) (by omega) hce
      omega
    have hne := fnd_lk_none (row := row) (show k ≤ e by omega)
    have hbe : bck (fnd row k) (row.length + 1) e = nx row k := by rw [cellX, hne] at hce; exact hce
    obtain ⟨s4, l4, g1, u1, u2⟩ := bck_chain hF hne row.length e [] (by simp) (WB.zero he)
    have hs4 : (s4 : Int) = nx row k := by rw [← g1, hbe]
    have hcee : cellX row.length (fnd row (k + 1)) e = s := by
      have hn2 := fnd_lk_none (row := row) (show k + 1 ≤ e by omega)
      rw [cellX, hn2]
      simp only
      have hj := CH.join hkp (by have := u1.2.1.more hFG; rw [hs4] at this; exact this) (w1.2.1.more hFG)
      exact chain_end hG he hn2 hj (by rw [fnd_succ]; exact sw_snoc_none w2 (fun h => hps h.symm))
    have hsw : swp (rowX row.length (fnd row k)) ((k : Int),(e : Int)) = rowX row.length (fnd row (k + 1)) := by
      have hg : ∀ i (h : i < row.length),(rowX row.length (fnd row k))[i]'(by rw [rowX_len]; exact h) = cellX row.length (fnd row k) i := fun i h => by
        have := rowX_get row.length (fnd row k) i h
        rw [List.getElem?_eq_getElem (by rw [rowX_len]; exact h)] at this
        injection this
      rw [swp_nat _ k e (by rw [rowX_len]; exact hk) (by rw [rowX_len]; exact he), hg e he, hg k hk, hsk, hce]
      apply List.ext_getElem?
      intro i
      by_cases hi : i < row.length
      · rw [List.getElem?_set, List.getElem?_set, List.length_set, rowX_len, rowX_get _ _ _ hi, rowX_get _ _ _ hi]
        by_cases h1 : e = i
        · subst h1; rw [if_pos rfl, if_pos he, hcee]
        · rw [if_neg h1]
          by_cases h2 : k = i
          · subst h2; rw [if_pos rfl, if_pos hk, hpk]
          · rw [if_neg h2, hcell i hi (fun h => h2 h.symm) fun s' hs' hlt hep => h1 (bck_inj hF he hi hne (fnd_lk_none (by omega)) (by rw [hs', hbe, hep]))]
      · rw [List.getElem?_eq_none (by simp [rowX_len]; omega), List.getElem?_eq_none (by rw [rowX_len]; omega)]
    obtain ⟨Q, hQ, hl⟩ := hrep.swap (a := k) (b := e) (by rw [rowX_len]; exact hk) (by rw [rowX_len]; exact he) (fun h => hek h.symm)
    rw [hsw] at hQ
    rw [nl_of hrb2 hQ]
    unfold nl
    rcases hl with ⟨hl, _⟩ | ⟨_, m, hm, hkm, hem⟩
    · omega
    · -- both in one loop: not so
      exfalso
      have hclosed : ∀ x ∈ (s : Int) :: l2, nx (rowX row.length (fnd row k)) x ∈ (s : Int) :: l2 := fun x hx => by
        have hr := w1.2.2.2.1 x hx
        have hxt : ((x.toNat : Nat) : Int) = x := Int.toNat_of_nonneg hr.1
        rcases w1.2.1.known x hx with h | ⟨y, h1, h2⟩
        · rw [h, rowX_nx _ _ _ hk, hsk]; exact List.mem_cons_self
        · have := rowX_nx row.length (fnd row k) x.toNat (by omega)
          rw [hxt] at this
          rw [this, cellX, lk_of_mem hF h2]
          exact h1
      have hkC : (k : Int) ∈ (s : Int) :: l2 := by
        have : ∀ {l : List Int}, CH (fnd row k) k l → (k : Int) ∈ l := fun {l} => by
          induction l with
          | nil => exact fun h => h.elim
          | cons a r ih =>
            intro h
            cases r with
            | nil => rw [show a = (k : Int) from h]; exact List.mem_cons_self
            | cons b t => exact List.mem_cons_of_mem _ (ih h.2)
        exact this w1.2.1
      obtain ⟨u, v, rfl⟩ := List.append_of_mem hkm
      obtain ⟨a, t, hae, has⟩ := (hrep.lp _ hm).turn
      injection hae with h1 h2
      subst h1; subst h2
      have := Seg.inside hclosed hkC has e (by
        simp only [List.mem_append, List.mem_cons] at hem ⊢
        rcases hem with h | h | h
        · exact .inr (.inr h)
        · exact .inl h
        · exact .inr (.inl h))
      rcases w1.2.1.known _ this with h | ⟨y, _, h2⟩
      · omega
      · obtain ⟨d, hd, h3⟩ := mem_fnd.1 h2
        injection h3 with h4 _
        omega
end Go.Am.Hi
end

section
namespace Go.Am.Hi
open Go Go.Am Go.Proofs
set_option maxRecDepth 100000
set_option maxHeartbeats 4000000
set_option linter.unusedSimpArgs false
set_option linter.unusedVariables false
attribute [local simp] vrun vwanted vyielded vop vopA vputAll VHeap.back hidI hidF backL bm Nat.testBit_eq_decide_div_mod_eq veval vevals vparts vO vbuiltin vlen vappend velems vcopy vmakeSlice vbuildSlice valloc vbox vmakeMap vload vpartT vpart vstore vfieldAddr vfield vindexAddr vindex vextract vslice vsliceZ vbounds vbnd zeroO vidx vlookup vmget vmapUpdate vdelete vclear vnilq vnilp vnils vbin vsc vsc1 vscs vscl abinOp aint ashift aunOp aconvert amaxs amax2 pvcV pvc pvcs tput tget vargs VHeap.get VHeap.alloc VHeap.put VHeap.drop VHeap.empty vlook vput vdrop psplice pfill preps chunk List.range List.range.loop vresults vresult vresultV frz frzL PV.isF PV.allF PV.scal PV.allS retP subT allFT PV.one PV.ids PV.idsL dropL beq_eq ble_dec blt_dec
theorem nlH {R : List Int} (hb : rowB R = true) : (lpH R R.length).length = nl R := by
  have hR := rowB_iff.1 hb
  rw [(li hR.1.1 hR.1.2 R.length (Nat.le_refl _)).same]; rfl
theorem nl_le (R : List Int) : nl R ≤ R.length := lpR_len R R.length
theorem plan_len {row : List Int} (hb : rowB row = true) : (plan row row.length).length + nl row = row.length := by
  have hR := rowB_iff.1 hb
  have h1 := (plan_ok hR.1.1 hR.1.2 row.length (Nat.le_refl _)).2.2
  rw [flat_len hR.1.1 hR.1.2] at h1
  exact h1
def mk (row : List Int) (k : Nat) : Int := (row.length : Int) - nl (rowX row.length (fnd row k))
def lessO (row : List Int) (k : Nat) : Int := if k = 0 then 0 else mk row (k - 1)
theorem mk_pos (row : List Int) (k : Nat) : 0 ≤ mk row k := by
  have := nl_le (rowX row.length (fnd row k))
  rw [rowX_len] at this
  unfold mk
  omega
theorem mk_succ {row : List Int} (hb : rowB row = true) {k : Nat} (hk : k < row.length) : mk row k ≤ mk row (k + 1) := by
  have := one_more hb hk
  unfold mk
  omega
theorem mk_le {row : List Int} (hb : rowB row = true) : ∀ j k, j + k ≤ row.length → mk row k ≤ mk row (j + k)
  | 0, k, _ => by rw [Nat.zero_add]; exact Int.le_refl _
  | j + 1, k, h => by
    have h1 := mk_le hb j k (by omega)
    have h2 := mk_succ hb (show j + k < row.length by omega)
    rw [show j + 1 + k = j + k + 1 by omega]
    omega
theorem mk_all {row : List Int} : mk row row.length = (row.length : Int) - nl row := by unfold mk; rw [fnd_all]
theorem less_le {row : List Int} (hb : rowB row = true) {k : Nat} (hk : k < row.length) : lessO row k ≤ mk row k := by
  unfold lessO
  split
  · exact mk_pos row k
  · have := mk_succ hb (show k - 1 < row.length by omega)
    rw [show k - 1 + 1 = k by omega] at this
    exact this
theorem exp_n {row : List Int} (hb : rowB row = true) {k : Nat} (hk : k ≤ row.length) : expE row.length (fnd row k) = 0 ∧ (expN row.length (fnd row k) fun r => (lpH r r.length).length) = mk row k := by
  have h := fnd_exp hb hk
  have h2 := row_row (fnd_fok hb hk) (rowB_iff.1 hb).2.1 (rowB_iff.1 hb).2.2
  refine ⟨h, ?_⟩
  rw [expN, if_pos h, Int.toNat_natCast, nlH h2]; rfl
theorem exp_l {row : List Int} (hb : rowB row = true) : expL row.length (fnd row row.length) = row := by
  rw [expL, if_pos (fnd_exp hb (Nat.le_refl _)), Int.toNat_natCast, fnd_all]
theorem fnd_take (row : List Int) (n k : Nat) (h : k ≤ n) : (fnd row n).take k = fnd row k := by
  unfold fnd
  rw [← List.map_take, List.take_range, Nat.min_eq_left h]
theorem cut_id (n : Nat) : cutG (fun c => (c : Int)) n n = idR n := by
  unfold cutG idR
  apply List.map_congr_left
  intro c hc
  rw [if_pos (List.mem_range.1 hc)]; rfl
theorem chk_len {row : List Int} {l : List (Int × Int)} (hb : rowB row = true) (h : chkS (lpH row row.length).length row l = 0) : (l.length : Int) = (plan row row.length).length := by
  unfold chkS at h
  split at h
  · split at h
    · rename_i h2
      have := plan_len hb
      rw [h2.2, nlH hb]
      omega
    · cases h
  · contradiction
theorem p9 (row : List Int) (l : List (Int × Int)) (H1 : row.length < 4611686018427387904) (H2 : l.length < 4611686018427387904) : VPure Tryz.prog 9 [ints row, .vec (l.map encX)] fun r => r = .bool true := by
  refine .of_body Tryz.func9 rfl rfl ?_
  refine .seq ?_
  refine .rn ?_
  refine .seq ?_
  refine .seq ?_
  refine .regionL [0,1,2,3,4,5,6,7] rfl zz0 ?_
  refine .rn [0,1,2,3] [4,5,6,7] ?_
  refine .split (t := 27) rfl (fun c27 => ?_) (fun c27 => ?_)
  · try rw [c27]
    try simp at c27
    refine .rn [4,5,6,7] [] ?_
    refine .done ?_
    refine .condT rfl ?_
    refine .seq ?_
    refine .regionL [0,1] rfl zz0 ?_
    refine .step rfl rfl (.pure rfl rfl rfl Tryz.call15 (by decide) (p15) (by first | rfl | simp [*]) ?_)
    rintro _ rfl
    refine .rn [1] [] ?_
    refine .done ?_
    refine .ret ?_
    refine ⟨_, _, zz2,zz2, ?_⟩
    first | rfl | (simp [*]; done) | (simp_all; done)
  · try rw [c27]
    try simp at c27
    refine .rn [4,5,6,7] [] ?_
    refine .done ?_
    refine .condS rfl (fun c31 => ?_) (fun c31 => ?_)
    · try simp at c31
      refine .seq ?_
      refine .regionL [0,1] rfl zz0 ?_
      refine .step rfl rfl (.pure rfl rfl rfl Tryz.call15 (by decide) (p15) (by first | rfl | simp [*]) ?_)
      rintro _ rfl
      refine .rn [1] [] ?_
      refine .done ?_
      refine .ret ?_
      refine ⟨_, _, zz2,zz2, ?_⟩
      first | rfl | (simp [*]; done) | (simp_all; done)
    · try simp at c31
      have h1 : row.length < 4294967296 := by omega
      have h2 : l.length < 4294967296 := by omega
      obtain ⟨q, hq1, hq2, hq3⟩ : ∃ q : List (Int × Int),(rowB row = true → RS row q) ∧ (rowB row = false → q = []) ∧ (rowB row = true → q = plan row row.length) := by
        cases hb : rowB row with
        | true => exact ⟨plan row row.length, fun _ => (plan_rs hb).1, fun h => (by cases h), fun _ => rfl⟩
        | false => exact ⟨[], fun h => (by cases h), fun _ => rfl, fun h => (by cases h)⟩
      refine .skip ?_
      refine .seq ?_
      refine .regionL [0,1,2,3,4,5,6] rfl zz0 ?_
      refine .rn [0] [1,2,3,4,5,6] ?_
      refine .step rfl rfl (.pure rfl rfl rfl Tryz.call48 (by decide) ((VPure.soft (p48 row q h1 hq1 hq2) (by simp [PV.isF]))) (by first | rfl | simp [*]) ?_)
      rintro _ rfl
      refine .rn [2,3,4,5,6] [] ?_
      refine .done ?_
      refine .seq ?_
      refine .seq ?_
      refine .rn ?_
      refine .condS rfl (fun c39 => ?_) (fun c39 => ?_)
      · try simp at c39
        have hqe : q = [] := hq2 (by rw [Bool.eq_false_iff]; exact fun h => c39 (lpsE_iff.2 h))
        refine .seq ?_
        refine .regionL [0,1,2,3,4,5,6] rfl zz0 ?_
        refine .step rfl rfl (.pure rfl rfl rfl Tryz.call15 (by decide) (p15) (by first | rfl | simp [*]) ?_)
        rintro _ rfl
        refine .rn [1] [2,3,4,5,6] ?_
        refine .split (t := 41) rfl (fun c41 => ?_) (fun c41 => ?_)
        · try rw [c41]
          try simp at c41
          refine .rn [2,3,4,5,6] [] ?_
          refine .done ?_
          refine .ret ?_
          refine ⟨_, _, zz2,zz2, ?_⟩
          first | rfl | (simp [*]; done) | (simp_all; done)
        · try rw [c41]
          try simp at c41
      · try simp at c39
        have hb := lpsE_iff.1 c39
        have hR := (rowB_iff.1 hb).2
        have hqp := hq3 hb
        have hql := plan_len hb
        rw [← hqp] at hql
        have hk0 : chkS (lpH row row.length).length row q = 0 := by rw [chk_eq, hqp]; exact (plan_rs hb).2
        have hq4 : q.length < 4294967296 := by omega
        have hcl : chkS (lpH row row.length).length row l = 0 → (l.length : Int) = q.length := fun h => by rw [hqp]; exact chk_len hb h
        clear hqp hq3 hq2
        refine .skip ?_
        refine .seq ?_
        refine .seq ?_
        refine .regionL [0,1,2,3,4,5,6,7,8,9,10,11,12,13,14,15,16] rfl zz0 ?_
        refine .rn [0,1] [2,3,4,5,6,7,8,9,10,11,12,13,14,15,16] ?_
        refine .step rfl rfl (.pure rfl rfl rfl Tryz.call51 (by decide) ((by first | exact p51 row q h1 hq4 | exact p51 row l h1 h2)) (by first | rfl | simp [*]) ?_)
        rintro _ rfl
        refine .rn [3,4] [5,6,7,8,9,10,11,12,13,14,15,16] ?_
        refine .split (t := 50) rfl (fun c50 => ?_) (fun c50 => ?_)
        · try rw [c50]
          try simp at c50
        · try rw [c50]
          try simp at c50
          refine .rn [5,6] [7,8,9,10,11,12,13,14,15,16] ?_
          refine .step rfl rfl (.pure rfl rfl rfl Tryz.call51 (by decide) ((by first | exact p51 row q h1 hq4 | exact p51 row l h1 h2)) (by first | rfl | simp [*]) ?_)
          rintro _ rfl
          refine .rn [8,9] [10,11,12,13,14,15,16] ?_
          refine .split (t := 55) rfl (fun c55 => ?_) (fun c55 => ?_)
          · try rw [c55]
            try simp at c55
            refine .rn [10,11,12,13,14,15,16] [] ?_
            refine .done ?_
            refine .condS rfl (fun c62 => ?_) (fun c62 => ?_)
            · try simp at c62
            · try simp at c62
              clear hcl
              refine .skip ?_
              refine .seq ?_
              refine .rn ?_
              refine .seq ?_
              refine .seq ?_
              refine .rn ?_
              refine .block ?_
              refine .loopS (fun k : Nat => ([(0, ints row),(1, .vec (l.map encX)),(5, .vec (q.map encX)),(7, .grow 0 k true),(63, ints row),(64, .int .i64 row.length),(65, .int .i64 k)], ⟨1,[(0, .grow 2 ((fnd row k).map encX))]⟩)) (fun k => k ≤ row.length) (fun k => row.length - k) 0 (by simp) (.mk [] [] zz4 zz5 rfl rfl rfl) ?_
              rintro k hk
              simp only at hk ⊢
              have hkl : ((fnd row k).map encX).length = k := by rw [List.length_map, fnd_len]
              have hk24 : k + 1 ≤ 4294967296 := by omega
              refine .seq ?_
              refine .rn ?_
              refine .seq ?_
              refine .condS rfl (fun c66 => ?_) (fun c66 => ?_)
              · try simp at c66
                have hw2 : IntKind.i64.wrap ((k : Int) + 1) = (k : Int) + 1 := wrap64 (by omega) (by omega)
                have hnk : nx row k = row[k] := by unfold nx; rw [Int.toNat_natCast, List.getD_eq_getElem?_getD, List.getElem?_eq_getElem c66, Option.getD_some]
                have hfs : (fnd row (k + 1)).map encX = (fnd row k).map encX ++ [.agg [.int .i64 k, .int .i64 row[k]]] := by rw [fnd_succ, List.map_append, hnk]; rfl
                refine .skip ?_
                refine .seq ?_
                refine .block ?_
                refine .seq ?_
                refine .rn ?_
                refine .rn ?_
                refine .rn ?_
                refine ⟨k + 1, c66,zz3,(.mk [] [(0,2)] zz4 zz5 rfl rfl rfl)⟩
              · try simp at c66
                have hkn : k = row.length := by omega
                subst hkn
                obtain ⟨hx1, hx2⟩ := exp_n hb (Nat.le_refl row.length)
                have hx3 := exp_l hb
                have hx4 : mk row row.length = q.length := by rw [mk_all]; omega
                have hfl : (fnd row row.length).length < 4294967296 := by rw [fnd_len]; exact h1
                have hmn : (fnd row row.length).length = row.length := fnd_len _ _
                refine .exit ?_
                refine .seq ?_
                refine .rec (vts2 := [(0, ints row),(1, .vec (l.map encX)),(5, .vec (q.map encX)),(7, .vec ((fnd row row.length).map encX))]) (vh2 := ⟨0,[]⟩) (.mk [0] [] zz4 zz5 rfl rfl rfl) ?_
                refine .regionL [0,1,2,3,4,5,6,7,8,9,10] rfl zz0 ?_
                refine .rn [0,1,2] [3,4,5,6,7,8,9,10] ?_
                refine .step rfl rfl (.pure rfl rfl rfl Tryz.call46 (by decide) ((by first | exact p46' row.length (fnd row row.length) hfl (exp_row _ _) | exact p46f)) (by first | rfl | simp [*]) ?_)
                rintro _ rfl
                refine .rn [4,5,6,7,8,9,10] [] ?_
                refine .done ?_
                refine .seq ?_
                refine .seq ?_
                refine .regionL [0,1,2,3,4,5,6,7,8,9,10,11,12,13] rfl zz0 ?_
                refine .rn [0,1,2] [3,4,5,6,7,8,9,10,11,12,13] ?_
                refine .split (t := 87) rfl (fun c87 => ?_) (fun c87 => ?_)
                · try rw [c87]
                  try simp at c87
                · try rw [c87]
                  try simp at c87
                  refine .rn [3,4] [5,6,7,8,9,10,11,12,13] ?_
                  refine .step rfl rfl (.pure rfl rfl rfl Tryz.call27 (by decide) (p27 row row h1 h1) (by first | rfl | simp [*]) ?_)
                  rintro _ rfl
                  refine .rn [6,7,8] [9,10,11,12,13] ?_
                  refine .split (t := 93) rfl (fun c93 => ?_) (fun c93 => ?_)
                  · try rw [c93]
                    try simp at c93
                  · try rw [c93]
                    try simp at c93
                    refine .rn [9,10,11,12,13] [] ?_
                    refine .done ?_
                    refine .condS rfl (fun c98 => ?_) (fun c98 => ?_)
                    · try simp at c98
                    · try simp at c98
                      refine .skip ?_
                      refine .seq ?_
                      refine .rn ?_
                      refine .seq ?_
                      refine .seq ?_
                      refine .rn ?_
                      refine .block ?_
                      refine .loopS (fun k : Nat => ([(0, ints row),(1, .vec (l.map encX)),(7, .vec ((fnd row row.length).map encX)),(11, .int .i64 (mk row row.length)),(13, .int .i64 (lessO row k)),(100, .int .i64 row.length),(101, .int .i64 k)], VHeap.empty)) (fun k => k ≤ row.length) (fun k => row.length - k) 0 (by simp) (.mk [] [] zz4 zz5 rfl rfl rfl) ?_
                      rintro k hk
                      simp only at hk ⊢
                      refine .seq ?_
                      refine .rn ?_
                      refine .seq ?_
                      refine .condS rfl (fun c102 => ?_) (fun c102 => ?_)
                      · try simp at c102
                        have hw3 : IntKind.i64.wrap ((k : Int) + 1) = (k : Int) + 1 := wrap64 (by omega) (by omega)
                        obtain ⟨hy1, hy2⟩ := exp_n hb (show k ≤ row.length by omega)
                        have hfk : (fnd row k).length < 4294967296 := by rw [fnd_len]; omega
                        have hTk : ((fnd row row.length).map encX).take k = (fnd row k).map encX := by rw [← List.map_take, fnd_take _ _ _ (by omega)]
                        have p46f := p46' row.length (fnd row k) hfk (exp_row _ _)
                        have hle := less_le hb c102
                        have hle2 := mk_le hb (row.length - k) k (by omega)
                        rw [show row.length - k + k = row.length by omega] at hle2
                        have hlo : lessO row (k + 1) = mk row k := by simp [lessO]
                        refine .skip ?_
                        refine .seq ?_
                        refine .block ?_
                        refine .seq ?_
                        refine .rn ?_
                        refine .seq ?_
                        refine .regionL [0,1,2,3,4,5,6,7,8,9,10,11,12] rfl zz0 ?_
                        refine .rn [0,1,2,3,4] [5,6,7,8,9,10,11,12] ?_
                        refine .step rfl rfl (.pure rfl rfl rfl Tryz.call46 (by decide) ((by first | exact p46' row.length (fnd row row.length) hfl (exp_row _ _) | exact p46f)) (by first | rfl | simp [*]) ?_)
                        rintro _ rfl
                        refine .rn [6,7,8,9,10,11,12] [] ?_
                        refine .done ?_
                        refine .seq ?_
                        refine .seq ?_
                        refine .regionL [0,1,2,3,4,5,6,7,8,9,10,11] rfl zz0 ?_
                        refine .rn [0,1,2] [3,4,5,6,7,8,9,10,11] ?_
                        refine .split (t := 116) rfl (fun c116 => ?_) (fun c116 => ?_)
                        · try rw [c116]
                          try simp at c116
                        · try rw [c116]
                          try simp at c116
                          refine .rn [3,4,5,6,7] [8,9,10,11] ?_
                          refine .split (t := 121) rfl (fun c121 => ?_) (fun c121 => ?_)
                          · try rw [c121]
                            try simp at c121
                            omega
                          · try rw [c121]
                            try simp at c121
                            refine .rn [8,9,10,11] [] ?_
                            refine .done ?_
                            refine .condS rfl (fun c125 => ?_) (fun c125 => ?_)
                            · try simp at c125
                              omega
                            · try simp at c125
                              refine .skip ?_
                              refine .rn ?_
                              refine .rn ?_
                              refine ⟨k + 1, c102,zz3,(.mk [] [] zz4 zz5 rfl rfl rfl)⟩
                      · try simp at c102
                        have hl2 : ((row.length : Nat) : Int) ≤ 4294967296 := by omega
                        have hzc := cutG_zero (fun c => (c : Int)) row.length
                        refine .exit ?_
                        refine .seq ?_
                        refine .rn ?_
                        refine .seq ?_
                        refine .seq ?_
                        refine .rn ?_
                        refine .block ?_
                        refine .loopS (fun k : Nat => ([(1, .vec (l.map encX)),(18, .own 0 0 row.length row.length),(132, .int .i64 row.length),(133, .int .i64 k)], ⟨1,[(0, .arr false 1 ((cutG (fun c => (c : Int)) row.length k).map (.int .i64)))]⟩)) (fun k => k ≤ row.length) (fun k => row.length - k) 0 (by simp) (.mk [] [] zz4 zz5 rfl rfl rfl) ?_
                        rintro k hk
                        simp only at hk ⊢
                        obtain ⟨O, hO⟩ : ∃ O, cutG (fun c => (c : Int)) row.length k = O := ⟨_, rfl⟩
                        have hOl : O.length = row.length := by rw [← hO, cutG_len]
                        rw [hO]
                        refine .seq ?_
                        refine .rn ?_
                        refine .seq ?_
                        refine .condS rfl (fun c134 => ?_) (fun c134 => ?_)
                        · try simp at c134
                          have hw4 : IntKind.i64.wrap ((k : Int) + 1) = (k : Int) + 1 := wrap64 (by omega) (by omega)
                          have hcm : k + 1 ≤ row.length := c134
                          have hput := set_put O k k (by omega)
                          have hO2 : cutG (fun c => (c : Int)) row.length (k + 1) = O.set k k := by rw [← hO, cutG_put _ _ k c134]
                          refine .skip ?_
                          refine .seq ?_
                          refine .block ?_
                          refine .seq ?_
                          refine .rn ?_
                          refine .rn ?_
                          refine .rn ?_
                          refine ⟨k + 1, c134,zz3,(.mk [] [] zz4 zz5 rfl rfl rfl)⟩
                        · try simp at c134
                          have hkn : k = row.length := by omega
                          have hOi : O = idR row.length := by rw [← hO, hkn, cut_id]
                          have hil : (idR row.length).length = row.length := idR_len _
                          have hvel : ∀ vh : VHeap, vh.get 0 = some (.arr false 1 (O.map (.int .i64))) → velems vh 1 (.own 0 0 row.length row.length) = some ((idR row.length).map (.int .i64)) := fun vh hg => by
                            have hv2 := velems_own vh 0 row.length (idR row.length) (by rw [← hOi]; exact hg)
                            rw [hil] at hv2; exact hv2
                          refine .exit ?_
                          refine .seq ?_
                          refine .rec (vts2 := [(1, .vec (l.map encX)),(18, ints (idR row.length))]) (vh2 := ⟨0,[]⟩) (.mk [0] [] (by repeat' (first | exact trivial | refine And.intro (Exists.intro _ (And.intro rfl ?_)) ?_ | exact Alt.fown 0 0 row.length row.length false 1 _ _ rfl rfl (hvel _ rfl) | (refine Alt.same _ ?_; first | rfl | (simp [*]; done)))) zz5 rfl rfl rfl) ?_
                          refine .regionL [0,1,2,3,4,5,6,7] rfl zz0 ?_
                          refine .rn [0,1] [2,3,4,5,6,7] ?_
                          refine .step rfl rfl (.pure rfl rfl rfl Tryz.call44 (by decide) (p44' (idR row.length) l (by omega) h2) (by first | rfl | simp [*]) ?_)
                          rintro _ rfl
                          refine .rn [3,4,5,6,7] [] ?_
                          refine .done ?_
                          refine .seq ?_
                          refine .seq ?_
                          refine .rn ?_
                          refine .condS rfl (fun c148 => ?_) (fun c148 => ?_)
                          · try simp at c148
                            refine .seq ?_
                            refine .regionL [0,1] rfl zz0 ?_
                            refine .step rfl rfl (.pure rfl rfl rfl Tryz.call15 (by decide) (p15) (by first | rfl | simp [*]) ?_)
                            rintro _ rfl
                            refine .rn [1] [] ?_
                            refine .done ?_
                            refine .ret ?_
                            refine ⟨_, _, zz2,zz2, ?_⟩
                            first | rfl | (simp [*]; done) | (simp_all; done)
                          · try simp at c148
                            obtain ⟨hz1, hz2, hz3, hz4⟩ := back_ok hR.1 hR.2 c148
                            have heL : excL (idR row.length) l = exch (idR row.length) l := by rw [excL, if_pos c148]
                            have hnl : (exch (idR row.length) l).length = row.length := by rw [exch_len, hil]
                            have hpl := plan_len hz1
                            have hlE := lpsE_iff.2 hz1
                            obtain ⟨T, hT⟩ : ∃ T, plan (exch (idR row.length) l) (exch (idR row.length) l).length = T := ⟨_, rfl⟩
                            rw [hT] at hpl
                            have hTRS : RS (exch (idR row.length) l) T := by rw [← hT]; exact (plan_rs hz1).1
                            have hTl : (T.length : Int) ≤ l.length := by omega
                            have hTw : IntKind.i64.wrap ((l.length : Int) - T.length) = (l.length : Int) - T.length := wrap64 (by omega) (by omega)
                            have hTm : ((l.length : Int) - T.length).tmod 2 = 0 := by
                              rw [show (l.length : Int) - T.length = ((l.length - T.length : Nat) : Int) by omega, Int.tmod_eq_emod_of_nonneg (by omega)]
                              omega
                            refine .skip ?_
                            refine .seq ?_
                            refine .regionL [0,1,2,3,4,5,6] rfl zz0 ?_
                            refine .rn [0] [1,2,3,4,5,6] ?_
                            refine .step rfl rfl (.pure rfl rfl rfl Tryz.call48 (by decide) ((VPure.soft (p48 (exch (idR row.length) l) T (by omega) (fun _ => hTRS) (fun h => by rw [hz1] at h; cases h)) (by simp [PV.isF]))) (by first | rfl | simp [*]) ?_)
                            rintro _ rfl
                            refine .rn [2,3,4,5,6] [] ?_
                            refine .done ?_
                            refine .seq ?_
                            refine .regionL [0,1,2,3,4,5,6,7,8,9,10,11,12,13,14,15,16,17,18,19,20,21] rfl zz0 ?_
                            refine .step rfl rfl (.pure rfl rfl rfl Tryz.call15 (by decide) (p15) (by first | rfl | simp [*]) ?_)
                            rintro _ rfl
                            refine .rn [1] [2,3,4,5,6,7,8,9,10,11,12,13,14,15,16,17,18,19,20,21] ?_
                            refine .split (t := 156) rfl (fun c156 => ?_) (fun c156 => ?_)
                            · try rw [c156]
                              try simp at c156
                              refine .rn [2,3,4,5] [6,7,8,9,10,11,12,13,14,15,16,17,18,19,20,21] ?_
                              refine .split (t := 160) rfl (fun c160 => ?_) (fun c160 => ?_)
                              · try rw [c160]
                                try simp at c160
                                refine .rn [6,7,8,9,10,11,12] [13,14,15,16,17,18,19,20,21] ?_
                                refine .split (t := 167) rfl (fun c167 => ?_) (fun c167 => ?_)
                                · try rw [c167]
                                  try simp at c167
                                  refine .rn [13,14,15,16,17,18,19,20,21] [] ?_
                                  refine .done ?_
                                  refine .ret ?_
                                  refine ⟨_, _, zz2,zz2, ?_⟩
                                  first | rfl | (simp [*]; done) | (simp_all; done)
                                · try rw [c167]
                                  try simp at c167
                              · try rw [c160]
                                try simp at c160
                            · try rw [c156]
                              try simp at c156
          · try rw [c55]
            try simp at c55
            refine .rn [10,11,12,13,14,15,16] [] ?_
            refine .done ?_
            refine .condF rfl ?_
            refine .skip ?_
            refine .seq ?_
            refine .rn ?_
            refine .seq ?_
            refine .seq ?_
            refine .rn ?_
            refine .block ?_
            refine .loopS (fun k : Nat => ([(0, ints row),(1, .vec (l.map encX)),(5, .vec (q.map encX)),(7, .grow 0 k true),(63, ints row),(64, .int .i64 row.length),(65, .int .i64 k)], ⟨1,[(0, .grow 2 ((fnd row k).map encX))]⟩)) (fun k => k ≤ row.length) (fun k => row.length - k) 0 (by simp) (.mk [] [] zz4 zz5 rfl rfl rfl) ?_
            rintro k hk
            simp only at hk ⊢
            have hkl : ((fnd row k).map encX).length = k := by rw [List.length_map, fnd_len]
            have hk24 : k + 1 ≤ 4294967296 := by omega
            refine .seq ?_
            refine .rn ?_
            refine .seq ?_
            refine .condS rfl (fun c66 => ?_) (fun c66 => ?_)
            · try simp at c66
              have hw2 : IntKind.i64.wrap ((k : Int) + 1) = (k : Int) + 1 := wrap64 (by omega) (by omega)
              have hnk : nx row k = row[k] := by unfold nx; rw [Int.toNat_natCast, List.getD_eq_getElem?_getD, List.getElem?_eq_getElem c66, Option.getD_some]
              have hfs : (fnd row (k + 1)).map encX = (fnd row k).map encX ++ [.agg [.int .i64 k, .int .i64 row[k]]] := by rw [fnd_succ, List.map_append, hnk]; rfl
              refine .skip ?_
              refine .seq ?_
              refine .block ?_
              refine .seq ?_
              refine .rn ?_
              refine .rn ?_
              refine .rn ?_
              refine ⟨k + 1, c66,zz3,(.mk [] [(0,2)] zz4 zz5 rfl rfl rfl)⟩
            · try simp at c66
              have hkn : k = row.length := by omega
              subst hkn
              obtain ⟨hx1, hx2⟩ := exp_n hb (Nat.le_refl row.length)
              have hx3 := exp_l hb
              have hx4 : mk row row.length = q.length := by rw [mk_all]; omega
              have hfl : (fnd row row.length).length < 4294967296 := by rw [fnd_len]; exact h1
              have hmn : (fnd row row.length).length = row.length := fnd_len _ _
              refine .exit ?_
              refine .seq ?_
              refine .rec (vts2 := [(0, ints row),(1, .vec (l.map encX)),(5, .vec (q.map encX)),(7, .vec ((fnd row row.length).map encX))]) (vh2 := ⟨0,[]⟩) (.mk [0] [] zz4 zz5 rfl rfl rfl) ?_
              refine .regionL [0,1,2,3,4,5,6,7,8,9,10] rfl zz0 ?_
              refine .rn [0,1,2] [3,4,5,6,7,8,9,10] ?_
              refine .step rfl rfl (.pure rfl rfl rfl Tryz.call46 (by decide) ((by first | exact p46' row.length (fnd row row.length) hfl (exp_row _ _) | exact p46f)) (by first | rfl | simp [*]) ?_)
              rintro _ rfl
              refine .rn [4,5,6,7,8,9,10] [] ?_
              refine .done ?_
              refine .seq ?_
              refine .seq ?_
              refine .regionL [0,1,2,3,4,5,6,7,8,9,10,11,12,13] rfl zz0 ?_
              refine .rn [0,1,2] [3,4,5,6,7,8,9,10,11,12,13] ?_
              refine .split (t := 87) rfl (fun c87 => ?_) (fun c87 => ?_)
              · try rw [c87]
                try simp at c87
              · try rw [c87]
                try simp at c87
                refine .rn [3,4] [5,6,7,8,9,10,11,12,13] ?_
                refine .step rfl rfl (.pure rfl rfl rfl Tryz.call27 (by decide) (p27 row row h1 h1) (by first | rfl | simp [*]) ?_)
                rintro _ rfl
                refine .rn [6,7,8] [9,10,11,12,13] ?_
                refine .split (t := 93) rfl (fun c93 => ?_) (fun c93 => ?_)
                · try rw [c93]
                  try simp at c93
                · try rw [c93]
                  try simp at c93
                  refine .rn [9,10,11,12,13] [] ?_
                  refine .done ?_
                  refine .condS rfl (fun c98 => ?_) (fun c98 => ?_)
                  · try simp at c98
                  · try simp at c98
                    refine .skip ?_
                    refine .seq ?_
                    refine .rn ?_
                    refine .seq ?_
                    refine .seq ?_
                    refine .rn ?_
                    refine .block ?_
                    refine .loopS (fun k : Nat => ([(0, ints row),(1, .vec (l.map encX)),(7, .vec ((fnd row row.length).map encX)),(11, .int .i64 (mk row row.length)),(13, .int .i64 (lessO row k)),(100, .int .i64 row.length),(101, .int .i64 k)], VHeap.empty)) (fun k => k ≤ row.length) (fun k => row.length - k) 0 (by simp) (.mk [] [] zz4 zz5 rfl rfl rfl) ?_
                    rintro k hk
                    simp only at hk ⊢
                    refine .seq ?_
                    refine .rn ?_
                    refine .seq ?_
                    refine .condS rfl (fun c102 => ?_) (fun c102 => ?_)
                    · try simp at c102
                      have hw3 : IntKind.i64.wrap ((k : Int) + 1) = (k : Int) + 1 := wrap64 (by omega) (by omega)
                      obtain ⟨hy1, hy2⟩ := exp_n hb (show k ≤ row.length by omega)
                      have hfk : (fnd row k).length < 4294967296 := by rw [fnd_len]; omega
                      have hTk : ((fnd row row.length).map encX).take k = (fnd row k).map encX := by rw [← List.map_take, fnd_take _ _ _ (by omega)]
                      have p46f := p46' row.length (fnd row k) hfk (exp_row _ _)
                      have hle := less_le hb c102
                      have hle2 := mk_le hb (row.length - k) k (by omega)
                      rw [show row.length - k + k = row.length by omega] at hle2
                      have hlo : lessO row (k + 1) = mk row k := by simp [lessO]
                      refine .skip ?_
                      refine .seq ?_
                      refine .block ?_
                      refine .seq ?_
                      refine .rn ?_
                      refine .seq ?_
                      refine .regionL [0,1,2,3,4,5,6,7,8,9,10,11,12] rfl zz0 ?_
                      refine .rn [0,1,2,3,4] [5,6,7,8,9,10,11,12] ?_
                      refine .step rfl rfl (.pure rfl rfl rfl Tryz.call46 (by decide) ((by first | exact p46' row.length (fnd row row.length) hfl (exp_row _ _) | exact p46f)) (by first | rfl | simp [*]) ?_)
                      rintro _ rfl
                      refine .rn [6,7,8,9,10,11,12] [] ?_
                      refine .done ?_
                      refine .seq ?_
                      refine .seq ?_
                      refine .regionL [0,1,2,3,4,5,6,7,8,9,10,11] rfl zz0 ?_
                      refine .rn [0,1,2] [3,4,5,6,7,8,9,10,11] ?_
                      refine .split (t := 116) rfl (fun c116 => ?_) (fun c116 => ?_)
                      · try rw [c116]
                        try simp at c116
                      · try rw [c116]
                        try simp at c116
                        refine .rn [3,4,5,6,7] [8,9,10,11] ?_
                        refine .split (t := 121) rfl (fun c121 => ?_) (fun c121 => ?_)
                        · try rw [c121]
                          try simp at c121
                          omega
                        · try rw [c121]
                          try simp at c121
                          refine .rn [8,9,10,11] [] ?_
                          refine .done ?_
                          refine .condS rfl (fun c125 => ?_) (fun c125 => ?_)
                          · try simp at c125
                            omega
                          · try simp at c125
                            refine .skip ?_
                            refine .rn ?_
                            refine .rn ?_
                            refine ⟨k + 1, c102,zz3,(.mk [] [] zz4 zz5 rfl rfl rfl)⟩
                    · try simp at c102
                      have hl2 : ((row.length : Nat) : Int) ≤ 4294967296 := by omega
                      have hzc := cutG_zero (fun c => (c : Int)) row.length
                      refine .exit ?_
                      refine .seq ?_
                      refine .rn ?_
                      refine .seq ?_
                      refine .seq ?_
                      refine .rn ?_
                      refine .block ?_
                      refine .loopS (fun k : Nat => ([(1, .vec (l.map encX)),(18, .own 0 0 row.length row.length),(132, .int .i64 row.length),(133, .int .i64 k)], ⟨1,[(0, .arr false 1 ((cutG (fun c => (c : Int)) row.length k).map (.int .i64)))]⟩)) (fun k => k ≤ row.length) (fun k => row.length - k) 0 (by simp) (.mk [] [] zz4 zz5 rfl rfl rfl) ?_
                      rintro k hk
                      simp only at hk ⊢
                      obtain ⟨O, hO⟩ : ∃ O, cutG (fun c => (c : Int)) row.length k = O := ⟨_, rfl⟩
                      have hOl : O.length = row.length := by rw [← hO, cutG_len]
                      rw [hO]
                      refine .seq ?_
                      refine .rn ?_
                      refine .seq ?_
                      refine .condS rfl (fun c134 => ?_) (fun c134 => ?_)
                      · try simp at c134
                        have hw4 : IntKind.i64.wrap ((k : Int) + 1) = (k : Int) + 1 := wrap64 (by omega) (by omega)
                        have hcm : k + 1 ≤ row.length := c134
                        have hput := set_put O k k (by omega)
                        have hO2 : cutG (fun c => (c : Int)) row.length (k + 1) = O.set k k := by rw [← hO, cutG_put _ _ k c134]
                        refine .skip ?_
                        refine .seq ?_
                        refine .block ?_
                        refine .seq ?_
                        refine .rn ?_
                        refine .rn ?_
                        refine .rn ?_
                        refine ⟨k + 1, c134,zz3,(.mk [] [] zz4 zz5 rfl rfl rfl)⟩
                      · try simp at c134
                        have hkn : k = row.length := by omega
                        have hOi : O = idR row.length := by rw [← hO, hkn, cut_id]
                        have hil : (idR row.length).length = row.length := idR_len _
                        have hvel : ∀ vh : VHeap, vh.get 0 = some (.arr false 1 (O.map (.int .i64))) → velems vh 1 (.own 0 0 row.length row.length) = some ((idR row.length).map (.int .i64)) := fun vh hg => by
                          have hv2 := velems_own vh 0 row.length (idR row.length) (by rw [← hOi]; exact hg)
                          rw [hil] at hv2; exact hv2
                        refine .exit ?_
                        refine .seq ?_
                        refine .rec (vts2 := [(1, .vec (l.map encX)),(18, ints (idR row.length))]) (vh2 := ⟨0,[]⟩) (.mk [0] [] (by repeat' (first | exact trivial | refine And.intro (Exists.intro _ (And.intro rfl ?_)) ?_ | exact Alt.fown 0 0 row.length row.length false 1 _ _ rfl rfl (hvel _ rfl) | (refine Alt.same _ ?_; first | rfl | (simp [*]; done)))) zz5 rfl rfl rfl) ?_
                        refine .regionL [0,1,2,3,4,5,6,7] rfl zz0 ?_
                        refine .rn [0,1] [2,3,4,5,6,7] ?_
                        refine .step rfl rfl (.pure rfl rfl rfl Tryz.call44 (by decide) (p44' (idR row.length) l (by omega) h2) (by first | rfl | simp [*]) ?_)
                        rintro _ rfl
                        refine .rn [3,4,5,6,7] [] ?_
                        refine .done ?_
                        refine .seq ?_
                        refine .seq ?_
                        refine .rn ?_
                        refine .condS rfl (fun c148 => ?_) (fun c148 => ?_)
                        · try simp at c148
                          refine .seq ?_
                          refine .regionL [0,1] rfl zz0 ?_
                          refine .step rfl rfl (.pure rfl rfl rfl Tryz.call15 (by decide) (p15) (by first | rfl | simp [*]) ?_)
                          rintro _ rfl
                          refine .rn [1] [] ?_
                          refine .done ?_
                          refine .ret ?_
                          refine ⟨_, _, zz2,zz2, ?_⟩
                          first | rfl | (simp [*]; done) | (simp_all; done)
                        · try simp at c148
                          obtain ⟨hz1, hz2, hz3, hz4⟩ := back_ok hR.1 hR.2 c148
                          have heL : excL (idR row.length) l = exch (idR row.length) l := by rw [excL, if_pos c148]
                          have hnl : (exch (idR row.length) l).length = row.length := by rw [exch_len, hil]
                          have hpl := plan_len hz1
                          have hlE := lpsE_iff.2 hz1
                          obtain ⟨T, hT⟩ : ∃ T, plan (exch (idR row.length) l) (exch (idR row.length) l).length = T := ⟨_, rfl⟩
                          rw [hT] at hpl
                          have hTRS : RS (exch (idR row.length) l) T := by rw [← hT]; exact (plan_rs hz1).1
                          have hTl : (T.length : Int) ≤ l.length := by omega
                          have hTw : IntKind.i64.wrap ((l.length : Int) - T.length) = (l.length : Int) - T.length := wrap64 (by omega) (by omega)
                          have hTm : ((l.length : Int) - T.length).tmod 2 = 0 := by
                            rw [show (l.length : Int) - T.length = ((l.length - T.length : Nat) : Int) by omega, Int.tmod_eq_emod_of_nonneg (by omega)]
                            omega
                          refine .skip ?_
                          refine .seq ?_
                          refine .regionL [0,1,2,3,4,5,6] rfl zz0 ?_
                          refine .rn [0] [1,2,3,4,5,6] ?_
                          refine .step rfl rfl (.pure rfl rfl rfl Tryz.call48 (by decide) ((VPure.soft (p48 (exch (idR row.length) l) T (by omega) (fun _ => hTRS) (fun h => by rw [hz1] at h; cases h)) (by simp [PV.isF]))) (by first | rfl | simp [*]) ?_)
                          rintro _ rfl
                          refine .rn [2,3,4,5,6] [] ?_
                          refine .done ?_
                          refine .seq ?_
                          refine .regionL [0,1,2,3,4,5,6,7,8,9,10,11,12,13,14,15,16,17,18,19,20,21] rfl zz0 ?_
                          refine .step rfl rfl (.pure rfl rfl rfl Tryz.call15 (by decide) (p15) (by first | rfl | simp [*]) ?_)
                          rintro _ rfl
                          refine .rn [1] [2,3,4,5,6,7,8,9,10,11,12,13,14,15,16,17,18,19,20,21] ?_
                          refine .split (t := 156) rfl (fun c156 => ?_) (fun c156 => ?_)
                          · try rw [c156]
                            try simp at c156
                            refine .rn [2,3,4,5] [6,7,8,9,10,11,12,13,14,15,16,17,18,19,20,21] ?_
                            refine .split (t := 160) rfl (fun c160 => ?_) (fun c160 => ?_)
                            · try rw [c160]
                              try simp at c160
                              refine .rn [6,7,8,9,10,11,12] [13,14,15,16,17,18,19,20,21] ?_
                              refine .split (t := 167) rfl (fun c167 => ?_) (fun c167 => ?_)
                              · try rw [c167]
                                try simp at c167
                                refine .rn [13,14,15,16,17,18,19,20,21] [] ?_
                                refine .done ?_
                                refine .ret ?_
                                refine ⟨_, _, zz2,zz2, ?_⟩
                                first | rfl | (simp [*]; done) | (simp_all; done)
                              · try rw [c167]
                                try simp at c167
                            · try rw [c160]
                              try simp at c160
                          · try rw [c156]
                            try simp at c156
end Go.Am.Hi
end
