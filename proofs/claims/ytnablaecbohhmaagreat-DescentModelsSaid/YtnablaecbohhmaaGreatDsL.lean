/-
  What is used in the proof of a statement (part DsL); no condition.
-/
import Derived.Test.YtnablaecbohhmaaGreatDsT
import Derived.Test.YtnablaecbohhmaaGreatVm2
import Derived.Test.YtnablaecbohhmaaGreatDsJ
set_option linter.all false
section
namespace Go.Am.Ds
open Go Go.Am Go.Proofs
set_option maxRecDepth 100000
set_option maxHeartbeats 4000000
set_option linter.unusedSimpArgs false
set_option linter.unusedVariables false
attribute [local simp] vrun vwanted vyielded vop vopA vputAll VHeap.back hidI hidF backL bm Nat.testBit_eq_decide_div_mod_eq veval vevals vparts vO vbuiltin vlen vappend velems vcopy vmakeSlice vbuildSlice valloc vbox vmakeMap vload vpartT vpart vstore vfieldAddr vfield vindexAddr vindex vextract vslice vsliceZ vbounds vbnd zeroO vidx vlookup vmget vmapUpdate vdelete vclear vnilq vnilp vnils vbin vsc vsc1 vscs vscl abinOp aint ashift aunOp aconvert amaxs amax2 pvcV pvc pvcs tput tget vargs VHeap.get VHeap.alloc VHeap.put VHeap.drop VHeap.empty vlook vput vdrop psplice pfill preps chunk List.range List.range.loop vresults vresult vresultV frz frzL PV.isF PV.allF PV.scal PV.allS retP subT allFT PV.one PV.ids PV.idsL dropL beq_eq ble_dec blt_dec
attribute [local simp] zW tup2
def kinE : KinR → Int
  | .err e => e
  | _ => 0
def kinE_err {s : List Wit} {a b : Int} (h : checkS s ≠ 0) : kinE (kinR s a b) = checkS s := by unfold kinR; rw [if_neg h]; rfl
theorem kinE_n {s : List Wit} {a b : Int} (h : checkS s = 0) (h2 : getW s a = none) : kinE (kinR s a b) = 5 := by unfold kinR; rw [if_pos h, h2]; rfl
theorem kinE_nn {s : List Wit} {a b : Int} {c : Wit} (h : checkS s = 0) (h2 : getW s a = some c) (hb : b ≠ 0) (h3 : getW s b = none) : kinE (kinR s a b) = 5 := by unfold kinR; rw [if_pos h, h2]; simp only; rw [if_neg hb, h3]; rfl
theorem kinE_s {s : List Wit} {a b : Int} {c p : Wit} (h : checkS s = 0) (h2 : getW s a = some c) (hb : b ≠ 0) (h3 : getW s b = some p) : kinE (kinR s a b) = 0 := by unfold kinR; rw [if_pos h, h2]; simp only; rw [if_neg hb, h3]; rfl
theorem kinE_t {s : List Wit} {a b : Int} {c : Wit} (h : checkS s = 0) (h2 : getW s a = some c) (hb : b = 0) : kinE (kinR s a b) = 0 := by unfold kinR; rw [if_pos h, h2]; simp only; rw [if_pos hb]; rfl
theorem p102 (s : List Wit) (a b : Int) (hl : s.length < 4294967296) (hli : ∀ w ∈ s, w.slips.length < 4294967296 ∧ w.mended.length < 4294967296 ∧ w.models.length < 4294967296) : VPure Tryz.prog 102 [encS s, .agg [.int .i64 a, .int .i64 b]] fun r => r = .int .i64 (kinE (kinR s a b)) := by
  refine .of_body Tryz.func102 rfl rfl ?_
  refine .seq ?_
  refine .rn ?_
  refine .seq ?_
  refine .regionL [0,1,2] rfl zz0 ?_
  refine .rn [0] [1,2] ?_
  refine .step rfl rfl (.pure rfl rfl rfl Tryz.call52 (by decide) (p52 s hl hli) (by first | rfl | simp [*]) ?_)
  rintro _ rfl
  refine .rn [2] [] ?_
  refine .done ?_
  refine .seq ?_
  refine .seq ?_
  refine .rn ?_
  refine .condS rfl (fun c9 => ?_) (fun c9 => ?_)
  · try simp at c9
    refine .seq ?_
    refine .rn ?_
    refine .ret ?_
    refine ⟨_, _, zz4,zz4, ?_⟩
    rw [kinE_err c9]
  · try simp at c9
    refine .skip ?_
    refine .seq ?_
    refine .seq ?_
    refine .regionL [0,1,2,3,4,5,6,7,8,9,10,11,12,13,14,15,16] rfl zz0 ?_
    refine .rn [0,1,2] [3,4,5,6,7,8,9,10,11,12,13,14,15,16] ?_
    refine .step rfl rfl (.pure rfl rfl rfl Tryz.call104 (by decide) (p104 s a hl) (by first | rfl | simp [*]) ?_)
    rintro _ rfl
    refine .rn [4,5] [6,7,8,9,10,11,12,13,14,15,16] ?_
    refine .split (t := 16) rfl (fun c16 => ?_) (fun c16 => ?_)
    · try rw [c16]
      try simp at c16
      have hn := getW_none c16
      refine .rn [6,7,8,9,10,11,12,13,14,15,16] [] ?_
      refine .done ?_
      refine .condT rfl ?_
      refine .seq ?_
      refine .rn ?_
      refine .ret ?_
      refine ⟨_, _, zz4,zz4, ?_⟩
      rw [kinE_n c9 hn]
    · try rw [c16]
      try simp at c16
      obtain ⟨i, hi, hie, hga⟩ := getW_some c16
      refine .rn [6,7,8,9] [10,11,12,13,14,15,16] ?_
      refine .split (t := 20) rfl (fun c20 => ?_) (fun c20 => ?_)
      · try rw [c20]
        try simp at c20
        refine .rn [10,11,12] [13,14,15,16] ?_
        refine .step rfl rfl (.pure rfl rfl rfl Tryz.call104 (by decide) (p104 s b hl) (by first | rfl | simp [*]) ?_)
        rintro _ rfl
        refine .rn [14,15,16] [] ?_
        refine .done ?_
        refine .condS rfl (fun c27 => ?_) (fun c27 => ?_)
        · try simp at c27
          have hn := getW_none c27
          refine .seq ?_
          refine .rn ?_
          refine .ret ?_
          refine ⟨_, _, zz4,zz4, ?_⟩
          rw [kinE_nn c9 hga c20 hn]
        · try simp at c27
          obtain ⟨j, hj, hje, hgb⟩ := getW_some c27
          refine .skip ?_
          refine .seq ?_
          refine .rn ?_
          refine .ret ?_
          refine ⟨_, _, zz4,zz4, ?_⟩
          rw [kinE_s c9 hga c20 hgb]
      · try rw [c20]
        try simp at c20
        refine .rn [10,11,12,13,14,15,16] [] ?_
        refine .done ?_
        refine .condF rfl ?_
        refine .skip ?_
        refine .seq ?_
        refine .rn ?_
        refine .ret ?_
        refine ⟨_, _, zz4,zz4, ?_⟩
        rw [kinE_t c9 hga c20]
theorem p29 (s : List Wit) (a b : Int) (hl : s.length < 4294967296) (hli : ∀ w ∈ s, w.slips.length < 4294967296 ∧ w.mended.length < 4294967296 ∧ w.models.length < 4294967296) : VPure Tryz.prog 29 [encS s, .agg [.int .i64 a, .int .i64 b]] fun r => r = .agg [.int .i64 (whyR (kinR s a b)).1, .int .i64 (whyR (kinR s a b)).2.1, .int .i64 (whyR (kinR s a b)).2.2] := by
  have h102 := p102 s a b hl hli
  refine .of_body Tryz.func29 rfl rfl ?_
  rcases hk : kinR s a b with e | c | ⟨c, p⟩
  ·
    have he := kinR_err hk
    rw [hk] at h102
    simp only [kinE] at h102
    refine .seq ?_
    refine .rn ?_
    refine .seq ?_
    refine .regionL [0,1,2,3] rfl zz0 ?_
    refine .rn [0,1] [2,3] ?_
    refine .step rfl rfl (.pure rfl rfl rfl Tryz.call102 (by decide) (h102) (by first | rfl | simp [*]) ?_)
    rintro _ rfl
    refine .rn [3] [] ?_
    refine .done ?_
    refine .seq ?_
    refine .seq ?_
    refine .rn ?_
    refine .condS rfl (fun c12 => ?_) (fun c12 => ?_)
    · try simp at c12
      refine .seq ?_
      refine .rn ?_
      refine .ret ?_
      refine ⟨_, _, zz4,zz4, ?_⟩
      simp [whyR, tup2, *]
    · try simp at c12
      exact absurd c12 he
  ·
    obtain ⟨hc0, hg, hb0⟩ := kinR_text hk
    obtain ⟨i, hi, hie, rfl⟩ := getW_idx hg
    subst hb0
    rw [hk] at h102
    simp only [kinE] at h102
    have h104 := p104 s a hl
    rw [hie] at h104
    have h103 := p103a s i hi hl (hli _ (List.getElem_mem hi)).2.2
    refine .seq ?_
    refine .rn ?_
    refine .seq ?_
    refine .regionL [0,1,2,3] rfl zz0 ?_
    refine .rn [0,1] [2,3] ?_
    refine .step rfl rfl (.pure rfl rfl rfl Tryz.call102 (by decide) (h102) (by first | rfl | simp [*]) ?_)
    rintro _ rfl
    refine .rn [3] [] ?_
    refine .done ?_
    refine .seq ?_
    refine .seq ?_
    refine .rn ?_
    refine .condS rfl (fun c12 => ?_) (fun c12 => ?_)
    · try simp at c12
    · try simp at c12
      refine .skip ?_
      refine .seq ?_
      refine .drawn (ms := [0,0,0,4,14,0,32,127,255,511,511,1023,4095]) (W := [4,7]) (items := [.op 0, .op 1, .op 2, .op 3, .op 5, .op 6, .op 4, .ck 6, .ck 0, .op 7, .op 8, .op 9, .op 10, .op 11, .op 12]) rfl zz0 zz0 zz0 ?_
      refine .rd rfl rfl (by decide) rfl (by decide) zz1 ?_   -- 0
      refine .rd rfl rfl (by decide) rfl (by decide) zz1 ?_   -- 1
      refine .rd rfl rfl (by decide) rfl (by decide) zz1 ?_   -- 2
      refine .rd rfl rfl (by decide) rfl (by decide) zz1 ?_   -- 3
      refine .rd rfl rfl (by decide) rfl (by decide) zz1 ?_   -- 5
      refine .rd rfl rfl (by decide) rfl (by decide) zz1 ?_   -- 6
      refine .wr rfl rfl (by decide) (.pure rfl rfl rfl Tryz.call104 (by decide) (h104) (by first | rfl | simp [*]) ?_)
      rintro _ rfl
      refine .ck rfl zz0 ?_   -- 6
      refine .ck rfl zz0 ?_   -- 0
      refine .wr rfl rfl (by decide) (.pure rfl rfl rfl Tryz.call103 (by decide) (h103) (by first | rfl | simp [*]) ?_)
      rintro _ rfl
      refine .rd rfl rfl (by decide) rfl (by decide) zz1 ?_   -- 8
      refine .rd rfl rfl (by decide) rfl (by decide) zz1 ?_   -- 9
      refine .rd rfl rfl (by decide) rfl (by decide) zz1 ?_   -- 10
      refine .rd rfl rfl (by decide) rfl (by decide) zz1 ?_   -- 11
      refine .rd rfl rfl (by decide) rfl (by decide) zz1 ?_   -- 12
      refine .done ?_
      refine .seq ?_
      refine .rn ?_
      refine .ret ?_
      refine ⟨_, _, zz4,zz4, ?_⟩
      simp [whyR, tup2, *]
  ·
    obtain ⟨hc0, hg, hb0, hg2⟩ := kinR_of hk
    obtain ⟨i, hi, hie, rfl⟩ := getW_idx hg
    obtain ⟨j, hj, hje, rfl⟩ := getW_idx hg2
    rw [hk] at h102
    simp only [kinE] at h102
    have h104 := p104 s a hl
    rw [hie] at h104
    have h103 := p103b s i j hi hj b hb0 hje (getW_mem hg2).2 hl (hli _ (List.getElem_mem hi)).1 (hli _ (List.getElem_mem hi)).2.1 (hli _ (List.getElem_mem hi)).2.2 (hli _ (List.getElem_mem hj)).1
    refine .seq ?_
    refine .rn ?_
    refine .seq ?_
    refine .regionL [0,1,2,3] rfl zz0 ?_
    refine .rn [0,1] [2,3] ?_
    refine .step rfl rfl (.pure rfl rfl rfl Tryz.call102 (by decide) (h102) (by first | rfl | simp [*]) ?_)
    rintro _ rfl
    refine .rn [3] [] ?_
    refine .done ?_
    refine .seq ?_
    refine .seq ?_
    refine .rn ?_
    refine .condS rfl (fun c12 => ?_) (fun c12 => ?_)
    · try simp at c12
    · try simp at c12
      refine .skip ?_
      refine .seq ?_
      refine .drawn (ms := [0,0,0,4,14,0,32,127,255,511,511,1023,4095]) (W := [4,7]) (items := [.op 0, .op 1, .op 2, .op 3, .op 5, .op 6, .op 4, .ck 6, .ck 0, .op 7, .op 8, .op 9, .op 10, .op 11, .op 12]) rfl zz0 zz0 zz0 ?_
      refine .rd rfl rfl (by decide) rfl (by decide) zz1 ?_   -- 0
      refine .rd rfl rfl (by decide) rfl (by decide) zz1 ?_   -- 1
      refine .rd rfl rfl (by decide) rfl (by decide) zz1 ?_   -- 2
      refine .rd rfl rfl (by decide) rfl (by decide) zz1 ?_   -- 3
      refine .rd rfl rfl (by decide) rfl (by decide) zz1 ?_   -- 5
      refine .rd rfl rfl (by decide) rfl (by decide) zz1 ?_   -- 6
      refine .wr rfl rfl (by decide) (.pure rfl rfl rfl Tryz.call104 (by decide) (h104) (by first | rfl | simp [*]) ?_)
      rintro _ rfl
      refine .ck rfl zz0 ?_   -- 6
      refine .ck rfl zz0 ?_   -- 0
      refine .wr rfl rfl (by decide) (.pure rfl rfl rfl Tryz.call103 (by decide) (h103) (by first | rfl | simp [*]) ?_)
      rintro _ rfl
      refine .rd rfl rfl (by decide) rfl (by decide) zz1 ?_   -- 8
      refine .rd rfl rfl (by decide) rfl (by decide) zz1 ?_   -- 9
      refine .rd rfl rfl (by decide) rfl (by decide) zz1 ?_   -- 10
      refine .rd rfl rfl (by decide) rfl (by decide) zz1 ?_   -- 11
      refine .rd rfl rfl (by decide) rfl (by decide) zz1 ?_   -- 12
      refine .done ?_
      refine .seq ?_
      refine .rn ?_
      refine .ret ?_
      refine ⟨_, _, zz4,zz4, ?_⟩
      simp [whyR, tup2, *]
def refL (s : List Wit) (a : Int) : List Int := match kinR s a 0 with
  | .text c => modR s c
  | _ => []
theorem bestR_ne {s : List Wit} {c : Wit} (h : modR s c ≠ []) : bestR s c ≠ [] := by
  have : ∀ (f : Int → Nat) (l : List Int), l ≠ [] → ∃ b ∈ l, ∀ x ∈ l, f b ≤ f x := by
    intro f l
    induction l with
    | nil => intro h; exact absurd rfl h
    | cons a r ih =>
      intro _
      by_cases hr : r = []
      · subst hr; exact ⟨a, List.mem_cons_self, fun x hx => by simp at hx; subst hx; exact Nat.le_refl _⟩
      · obtain ⟨b, h1, h2⟩ := ih hr
        rcases Nat.le_total (f a) (f b) with h3 | h3
        · refine ⟨a, List.mem_cons_self, fun x hx => ?_⟩
          rcases List.mem_cons.1 hx with rfl | hx
          · exact Nat.le_refl _
          · exact Nat.le_trans h3 (h2 x hx)
        · refine ⟨b, List.mem_cons_of_mem _ h1, fun x hx => ?_⟩
          rcases List.mem_cons.1 hx with rfl | hx
          · exact h3
          · exact h2 x hx
  obtain ⟨b, h1, h2⟩ := this (fun b => (frS s c b).length) _ h
  intro h0
  have hm : b ∈ bestR s c := List.mem_filter.2 ⟨h1, by unfold isB; rw [List.all_eq_true]; intro x hx; simpa using h2 x hx⟩
  rw [h0] at hm; cases hm
theorem p31 (s : List Wit) (a : Int) (hl : s.length < 4294967296) (hli : ∀ w ∈ s, w.slips.length < 4294967296 ∧ w.mended.length < 4294967296 ∧ w.models.length < 4294967296) : VPure Tryz.prog 31 [encS s, .int .i64 a] fun r => Soft r (.agg [ints (refL s a), .int .i64 (kinE (kinR s a 0))]) := by
  have h102 := p102 s a 0 hl hli
  refine .of_body Tryz.func31 rfl rfl ?_
  rcases hk : kinR s a 0 with e | c | ⟨c, p⟩
  rotate_left 2; exact absurd rfl (kinR_of hk).2.2.1
  ·
    have he := kinR_err hk
    rw [hk] at h102
    simp only [kinE] at h102
    refine .seq ?_
    refine .rn ?_
    refine .seq ?_
    refine .regionL [0,1,2,3,4] rfl zz0 ?_
    refine .rn [0,1,2] [3,4] ?_
    refine .step rfl rfl (.pure rfl rfl rfl Tryz.call102 (by decide) (h102) (by first | rfl | simp [*]) ?_)
    rintro _ rfl
    refine .rn [4] [] ?_
    refine .done ?_
    refine .seq ?_
    refine .seq ?_
    refine .rn ?_
    refine .condS rfl (fun c11 => ?_) (fun c11 => ?_)
    · try simp at c11
      refine .seq ?_
      refine .rn ?_
      refine .ret ?_
      refine ⟨_, _, zz4,zz4, ?_⟩
      rw [refL, hk]
      exact .agg' (AltL.cons .sl0v (AltL.cons (.same _ rfl) AltL.nil))
    · try simp at c11
      exact absurd c11 he
  ·
    obtain ⟨hc0, hg, hb0⟩ := kinR_text hk
    obtain ⟨i, hi, hie, rfl⟩ := getW_idx hg
    rw [hk] at h102
    simp only [kinE] at h102
    have h104 := p104 s a hl
    rw [hie] at h104
    have h107 := p107 s i hi (okS_of hc0)
    refine .seq ?_
    refine .rn ?_
    refine .seq ?_
    refine .regionL [0,1,2,3,4] rfl zz0 ?_
    refine .rn [0,1,2] [3,4] ?_
    refine .step rfl rfl (.pure rfl rfl rfl Tryz.call102 (by decide) (h102) (by first | rfl | simp [*]) ?_)
    rintro _ rfl
    refine .rn [4] [] ?_
    refine .done ?_
    refine .seq ?_
    refine .seq ?_
    refine .rn ?_
    refine .condS rfl (fun c11 => ?_) (fun c11 => ?_)
    · try simp at c11
    · try simp at c11
      refine .skip ?_
      refine .seq ?_
      refine .drawn (ms := [0,0,0,6,15,31,63]) (W := [3,4,6]) (items := [.op 0, .op 1, .op 2, .op 3, .ck 0, .op 4, .op 5, .op 6]) rfl zz0 zz0 zz0 ?_
      refine .rd rfl rfl (by decide) rfl (by decide) zz1 ?_   -- 0
      refine .rd rfl rfl (by decide) rfl (by decide) zz1 ?_   -- 1
      refine .rd rfl rfl (by decide) rfl (by decide) zz1 ?_   -- 2
      refine .wr rfl rfl (by decide) (.pure rfl rfl rfl Tryz.call104 (by decide) (h104) (by first | rfl | simp [*]) ?_)
      rintro _ rfl
      refine .ck rfl zz0 ?_   -- 0
      refine .wr rfl rfl (by decide) (.pure rfl rfl rfl Tryz.call107 (by decide) (h107) (by first | rfl | simp [*]) ?_)
      rintro _ rfl
      refine .rd rfl rfl (by decide) rfl (by decide) zz1 ?_   -- 5
      refine .wr rfl rfl (by decide) (.vop zz1 (by decide) ?_)   -- 6
      refine .done ?_
      refine .ret ?_
      refine ⟨_, _, zz4,zz4, ?_⟩
      rw [refL, hk]
      exact soft_rfl rfl
def madeR (s : List Wit) (a b : Int) : Int × Int := match kinR s a b with
  | .err e => (0, e)
  | .text c => if ∃ w ∈ s, modR s w = [] then (0,9) else if lastS c 0 ≠ 0 then (0,8) else (((frS s c 0).length : Int) - ((frS s c ((bestR s c).headD 0)).length : Int),0)
  | .of c p => if ∃ w ∈ s, modR s w = [] then (0,9) else if (whyP c p).1 ≠ 0 then (0,8) else (((frS s c b).length : Int) - ((frS s c ((bestR s c).headD 0)).length : Int),0)
theorem any_mod {s : List Wit} {i : Nat} (hi : i < s.length) (h : ∀ w ∈ s, ¬ modR s w = []) : ∃ b r, bestR s s[i] = b :: r ∧ (b = 0 ∨ ∃ w ∈ s, w.id = b) := by
  cases hb : bestR s s[i] with
  | nil => exact absurd hb (bestR_ne (h s[i] (List.getElem_mem hi)))
  | cons b r => exact ⟨b, r, rfl, mem_modR (List.mem_filter.1 (show b ∈ (modR s s[i]).filter (isB s s[i]) by show b ∈ bestR s s[i]; rw [hb]; exact List.mem_cons_self)).1⟩
theorem frS_len (s : List Wit) (c : Wit) (b : Int) : (frS s c b).length ≤ c.slips.length := by
  unfold frS
  split
  · exact Nat.le_refl _
  · exact List.length_filter_le _ _
theorem p33 (s : List Wit) (a b : Int) (hl : s.length < 4294967296) (hli : ∀ w ∈ s, w.slips.length < 4294967296 ∧ w.mended.length < 4294967296 ∧ w.models.length < 4294967296) : VPure Tryz.prog 33 [encS s, .agg [.int .i64 a, .int .i64 b]] fun r => r = .agg [.int .i64 (madeR s a b).1, .int .i64 (madeR s a b).2] := by
  have h102 := p102 s a b hl hli
  refine .of_body Tryz.func33 rfl rfl ?_
  rcases hk : kinR s a b with e | c | ⟨c, p⟩
  ·
    have he := kinR_err hk
    rw [hk] at h102
    simp only [kinE] at h102
    refine .seq ?_
    refine .rn ?_
    refine .seq ?_
    refine .regionL [0,1,2,3] rfl zz0 ?_
    refine .rn [0,1] [2,3] ?_
    refine .step rfl rfl (.pure rfl rfl rfl Tryz.call102 (by decide) (h102) (by first | rfl | simp [*]) ?_)
    rintro _ rfl
    refine .rn [3] [] ?_
    refine .done ?_
    refine .seq ?_
    refine .seq ?_
    refine .rn ?_
    refine .condS rfl (fun c14 => ?_) (fun c14 => ?_)
    · try simp at c14
      refine .seq ?_
      refine .rn ?_
      refine .ret ?_
      refine ⟨_, _, zz4,zz4, ?_⟩
      simp [madeR, hk]
    · try simp at c14
      exact absurd c14 he
  ·
    obtain ⟨hc0, hg, hb0⟩ := kinR_text hk
    obtain ⟨i, hi, hie, rfl⟩ := getW_idx hg
    subst hb0
    rw [hk] at h102
    simp only [kinE] at h102
    have ok := okS_of hc0
    have h104 := p104 s a hl
    rw [hie] at h104
    have h103 := p103a s i hi hl (hli _ (List.getElem_mem hi)).2.2
    have hbm : (0 : Int) = 0 ∨ ∃ w ∈ s, w.id = 0 := .inl rfl
    have hmr : madeR s a 0 = if ∃ w ∈ s, modR s w = [] then (0,9) else if lastS s[i] 0 ≠ 0 then (0,8) else (((frS s s[i] 0).length : Int) - ((frS s s[i] ((bestR s s[i]).headD 0)).length : Int),0) := by unfold madeR; rw [hk]
    refine .seq ?_
    refine .rn ?_
    refine .seq ?_
    refine .regionL [0,1,2,3] rfl zz0 ?_
    refine .rn [0,1] [2,3] ?_
    refine .step rfl rfl (.pure rfl rfl rfl Tryz.call102 (by decide) (h102) (by first | rfl | simp [*]) ?_)
    rintro _ rfl
    refine .rn [3] [] ?_
    refine .done ?_
    refine .seq ?_
    refine .seq ?_
    refine .rn ?_
    refine .condS rfl (fun c14 => ?_) (fun c14 => ?_)
    · try simp at c14
    · try simp at c14
      refine .skip ?_
      refine .seq ?_
      refine .regionL [0,1,2] rfl zz0 ?_
      refine .rn [0] [1,2] ?_
      refine .step rfl rfl (.pure rfl rfl rfl Tryz.call110 (by decide) (p110 s ok) (by first | rfl | simp [*]) ?_)
      rintro _ rfl
      refine .rn [2] [] ?_
      refine .done ?_
      refine .seq ?_
      refine .seq ?_
      refine .rn ?_
      refine .condS rfl (fun c19 => ?_) (fun c19 => ?_)
      · try simp at c19
        rw [if_pos c19] at hmr
        refine .seq ?_
        refine .rn ?_
        refine .ret ?_
        refine ⟨_, _, zz4,zz4, ?_⟩
        simp [hmr]
      · try simp at c19
        obtain ⟨b0, br, hbr, hbm0⟩ := any_mod hi c19
        have hb1 := frS_len s s[i] 0
        have hb2 := frS_len s s[i] b0
        have hi1 := (hli _ (List.getElem_mem hi)).1
        rw [if_neg (fun ⟨w, h1, h2⟩ => c19 w h1 h2)] at hmr
        rw [hbr, List.headD_cons] at hmr
        have hwr : IntKind.i64.wrap (((frS s s[i] 0).length : Int) - ((frS s s[i] b0).length : Int)) = ((frS s s[i] 0).length : Int) - ((frS s s[i] b0).length : Int) := wrap64 (by omega) (by omega)
        refine .skip ?_
        refine .seq ?_
        refine .regionL [0,1,2,3,4] rfl zz0 ?_
        refine .rn [0,1,2] [3,4] ?_
        refine .step rfl rfl (.pure rfl rfl rfl Tryz.call104 (by decide) (h104) (by first | rfl | simp [*]) ?_)
        rintro _ rfl
        refine .rn [4] [] ?_
        refine .done ?_
        refine .seq ?_
        refine .regionL [0,1,2,3,4,5,6,7,8,9] rfl zz0 ?_
        refine .rn [0,1,2,3] [4,5,6,7,8,9] ?_
        refine .step rfl rfl (.pure rfl rfl rfl Tryz.call103 (by decide) (h103) (by first | rfl | simp [*]) ?_)
        rintro _ rfl
        refine .rn [5,6,7,8,9] [] ?_
        refine .done ?_
        refine .seq ?_
        refine .seq ?_
        refine .rn ?_
        refine .condS rfl (fun c34 => ?_) (fun c34 => ?_)
        · try simp at c34
          rw [if_pos c34] at hmr
          refine .seq ?_
          refine .rn ?_
          refine .ret ?_
          refine ⟨_, _, zz4,zz4, ?_⟩
          simp [hmr]
        · try simp at c34
          rw [if_neg (by simp [c34])] at hmr
          refine .skip ?_
          refine .seq ?_
          refine .drawn (ms := [0,0,0,4,15,31,0,0,0,0,799,1823,3871,8159,16351,32767,65535,131071]) (W := [4,10,13,17]) (items := [.op 0, .op 1, .op 2, .op 3, .op 6, .op 7, .op 8, .op 9, .op 4, .ck 8, .ck 6, .op 5, .op 10, .ck 5, .ck 6, .op 11, .op 12, .op 13, .ck 5, .op 14, .op 15, .op 16, .op 17]) rfl zz0 zz0 zz0 ?_
          refine .rd rfl rfl (by decide) rfl (by decide) zz1 ?_   -- 0
          refine .rd rfl rfl (by decide) rfl (by decide) zz1 ?_   -- 1
          refine .rd rfl rfl (by decide) rfl (by decide) zz1 ?_   -- 2
          refine .rd rfl rfl (by decide) rfl (by decide) zz1 ?_   -- 3
          refine .rd rfl rfl (by decide) rfl (by decide) zz1 ?_   -- 6
          refine .rd rfl rfl (by decide) rfl (by decide) zz1 ?_   -- 7
          refine .rd rfl rfl (by decide) rfl (by decide) zz1 ?_   -- 8
          refine .rd rfl rfl (by decide) rfl (by decide) zz1 ?_   -- 9
          refine .wr rfl rfl (by decide) (.pure rfl rfl rfl Tryz.call111 (by decide) (p111 s i hi ok _ hbm) (by first | rfl | simp [*]) ?_)
          rintro _ rfl
          refine .ck rfl zz0 ?_   -- 8
          refine .ck rfl zz0 ?_   -- 6
          refine .rd rfl rfl (by decide) rfl (by decide) zz1 ?_   -- 5
          refine .wr rfl rfl (by decide) (.pure rfl rfl rfl Tryz.call112 (by decide) (p112 s i hi ok) (by first | rfl | simp [*]) ?_)
          rintro _ rfl
          refine .ck rfl zz0 ?_   -- 5
          refine .ck rfl zz0 ?_   -- 6
          refine .rd rfl rfl (by decide) rfl (by decide) zz1 ?_   -- 11
          refine .rd rfl rfl (by decide) rfl (by decide) zz1 ?_   -- 12
          refine .wr rfl rfl (by decide) (.pure rfl rfl rfl Tryz.call111 (by decide) (p111 s i hi ok _ hbm0) (by first | rfl | simp [*]) ?_)
          rintro _ rfl
          refine .ck rfl zz0 ?_   -- 5
          refine .rd rfl rfl (by decide) rfl (by decide) zz1 ?_   -- 14
          refine .rd rfl rfl (by decide) rfl (by decide) zz1 ?_   -- 15
          refine .rd rfl rfl (by decide) rfl (by decide) zz1 ?_   -- 16
          refine .wr rfl rfl (by decide) (.vop zz1 (by decide) ?_)   -- 17
          refine .done ?_
          refine .ret ?_
          refine ⟨_, _, zz4,zz4, ?_⟩
          simp [hmr]
  ·
    obtain ⟨hc0, hg, hb0, hg2⟩ := kinR_of hk
    obtain ⟨i, hi, hie, rfl⟩ := getW_idx hg
    obtain ⟨j, hj, hje, rfl⟩ := getW_idx hg2
    rw [hk] at h102
    simp only [kinE] at h102
    have ok := okS_of hc0
    have h104 := p104 s a hl
    rw [hie] at h104
    have h103 := p103b s i j hi hj b hb0 hje (getW_mem hg2).2 hl (hli _ (List.getElem_mem hi)).1 (hli _ (List.getElem_mem hi)).2.1 (hli _ (List.getElem_mem hi)).2.2 (hli _ (List.getElem_mem hj)).1
    have hbm : b = 0 ∨ ∃ w ∈ s, w.id = b := .inr ⟨s[j], List.getElem_mem hj, (getW_mem hg2).2⟩
    have hmr : madeR s a b = if ∃ w ∈ s, modR s w = [] then (0,9) else if (whyP s[i] s[j]).1 ≠ 0 then (0,8) else (((frS s s[i] b).length : Int) - ((frS s s[i] ((bestR s s[i]).headD 0)).length : Int),0) := by unfold madeR; rw [hk]
    refine .seq ?_
    refine .rn ?_
    refine .seq ?_
    refine .regionL [0,1,2,3] rfl zz0 ?_
    refine .rn [0,1] [2,3] ?_
    refine .step rfl rfl (.pure rfl rfl rfl Tryz.call102 (by decide) (h102) (by first | rfl | simp [*]) ?_)
    rintro _ rfl
    refine .rn [3] [] ?_
    refine .done ?_
    refine .seq ?_
    refine .seq ?_
    refine .rn ?_
    refine .condS rfl (fun c14 => ?_) (fun c14 => ?_)
    · try simp at c14
    · try simp at c14
      refine .skip ?_
      refine .seq ?_
      refine .regionL [0,1,2] rfl zz0 ?_
      refine .rn [0] [1,2] ?_
      refine .step rfl rfl (.pure rfl rfl rfl Tryz.call110 (by decide) (p110 s ok) (by first | rfl | simp [*]) ?_)
      rintro _ rfl
      refine .rn [2] [] ?_
      refine .done ?_
      refine .seq ?_
      refine .seq ?_
      refine .rn ?_
      refine .condS rfl (fun c19 => ?_) (fun c19 => ?_)
      · try simp at c19
        rw [if_pos c19] at hmr
        refine .seq ?_
        refine .rn ?_
        refine .ret ?_
        refine ⟨_, _, zz4,zz4, ?_⟩
        simp [hmr]
      · try simp at c19
        obtain ⟨b0, br, hbr, hbm0⟩ := any_mod hi c19
        have hb1 := frS_len s s[i] b
        have hb2 := frS_len s s[i] b0
        have hi1 := (hli _ (List.getElem_mem hi)).1
        rw [if_neg (fun ⟨w, h1, h2⟩ => c19 w h1 h2)] at hmr
        rw [hbr, List.headD_cons] at hmr
        have hwr : IntKind.i64.wrap (((frS s s[i] b).length : Int) - ((frS s s[i] b0).length : Int)) = ((frS s s[i] b).length : Int) - ((frS s s[i] b0).length : Int) := wrap64 (by omega) (by omega)
        refine .skip ?_
        refine .seq ?_
        refine .regionL [0,1,2,3,4] rfl zz0 ?_
        refine .rn [0,1,2] [3,4] ?_
        refine .step rfl rfl (.pure rfl rfl rfl Tryz.call104 (by decide) (h104) (by first | rfl | simp [*]) ?_)
        rintro _ rfl
        refine .rn [4] [] ?_
        refine .done ?_
        refine .seq ?_
        refine .regionL [0,1,2,3,4,5,6,7,8,9] rfl zz0 ?_
        refine .rn [0,1,2,3] [4,5,6,7,8,9] ?_
        refine .step rfl rfl (.pure rfl rfl rfl Tryz.call103 (by decide) (h103) (by first | rfl | simp [*]) ?_)
        rintro _ rfl
        refine .rn [5,6,7,8,9] [] ?_
        refine .done ?_
        refine .seq ?_
        refine .seq ?_
        refine .rn ?_
        refine .condS rfl (fun c34 => ?_) (fun c34 => ?_)
        · try simp at c34
          rw [if_pos c34] at hmr
          refine .seq ?_
          refine .rn ?_
          refine .ret ?_
          refine ⟨_, _, zz4,zz4, ?_⟩
          simp [hmr]
        · try simp at c34
          rw [if_neg (by simp [c34])] at hmr
          refine .skip ?_
          refine .seq ?_
          refine .drawn (ms := [0,0,0,4,15,31,0,0,0,0,799,1823,3871,8159,16351,32767,65535,131071]) (W := [4,10,13,17]) (items := [.op 0, .op 1, .op 2, .op 3, .op 6, .op 7, .op 8, .op 9, .op 4, .ck 8, .ck 6, .op 5, .op 10, .ck 5, .ck 6, .op 11, .op 12, .op 13, .ck 5, .op 14, .op 15, .op 16, .op 17]) rfl zz0 zz0 zz0 ?_
          refine .rd rfl rfl (by decide) rfl (by decide) zz1 ?_   -- 0
          refine .rd rfl rfl (by decide) rfl (by decide) zz1 ?_   -- 1
          refine .rd rfl rfl (by decide) rfl (by decide) zz1 ?_   -- 2
          refine .rd rfl rfl (by decide) rfl (by decide) zz1 ?_   -- 3
          refine .rd rfl rfl (by decide) rfl (by decide) zz1 ?_   -- 6
          refine .rd rfl rfl (by decide) rfl (by decide) zz1 ?_   -- 7
          refine .rd rfl rfl (by decide) rfl (by decide) zz1 ?_   -- 8
          refine .rd rfl rfl (by decide) rfl (by decide) zz1 ?_   -- 9
          refine .wr rfl rfl (by decide) (.pure rfl rfl rfl Tryz.call111 (by decide) (p111 s i hi ok _ hbm) (by first | rfl | simp [*]) ?_)
          rintro _ rfl
          refine .ck rfl zz0 ?_   -- 8
          refine .ck rfl zz0 ?_   -- 6
          refine .rd rfl rfl (by decide) rfl (by decide) zz1 ?_   -- 5
          refine .wr rfl rfl (by decide) (.pure rfl rfl rfl Tryz.call112 (by decide) (p112 s i hi ok) (by first | rfl | simp [*]) ?_)
          rintro _ rfl
          refine .ck rfl zz0 ?_   -- 5
          refine .ck rfl zz0 ?_   -- 6
          refine .rd rfl rfl (by decide) rfl (by decide) zz1 ?_   -- 11
          refine .rd rfl rfl (by decide) rfl (by decide) zz1 ?_   -- 12
          refine .wr rfl rfl (by decide) (.pure rfl rfl rfl Tryz.call111 (by decide) (p111 s i hi ok _ hbm0) (by first | rfl | simp [*]) ?_)
          rintro _ rfl
          refine .ck rfl zz0 ?_   -- 5
          refine .rd rfl rfl (by decide) rfl (by decide) zz1 ?_   -- 14
          refine .rd rfl rfl (by decide) rfl (by decide) zz1 ?_   -- 15
          refine .rd rfl rfl (by decide) rfl (by decide) zz1 ?_   -- 16
          refine .wr rfl rfl (by decide) (.vop zz1 (by decide) ?_)   -- 17
          refine .done ?_
          refine .ret ?_
          refine ⟨_, _, zz4,zz4, ?_⟩
          simp [hmr]
end Go.Am.Ds
end

section
namespace Go.Am.Ds
open Go Go.Am Go.Proofs
set_option maxRecDepth 100000
set_option maxHeartbeats 4000000
set_option linter.unusedSimpArgs false
set_option linter.unusedVariables false
attribute [local simp] vrun vwanted vyielded vop vopA vputAll VHeap.back hidI hidF backL bm Nat.testBit_eq_decide_div_mod_eq veval vevals vparts vO vbuiltin vlen vappend velems vcopy vmakeSlice vbuildSlice valloc vbox vmakeMap vload vpartT vpart vstore vfieldAddr vfield vindexAddr vindex vextract vslice vsliceZ vbounds vbnd zeroO vidx vlookup vmget vmapUpdate vdelete vclear vnilq vnilp vnils vbin vsc vsc1 vscs vscl abinOp aint ashift aunOp aconvert amaxs amax2 pvcV pvc pvcs tput tget vargs VHeap.get VHeap.alloc VHeap.put VHeap.drop VHeap.empty vlook vput vdrop psplice pfill preps chunk List.range List.range.loop vresults vresult vresultV frz frzL PV.isF PV.allF PV.scal PV.allS retP subT allFT PV.one PV.ids PV.idsL dropL beq_eq ble_dec blt_dec
attribute [local simp] zW tup2
theorem p108' (s : List Wit) (hl : s.length < 4294967296) : VPure Tryz.prog 108 [encS s] fun r => r = .tup [.vec ((chL s).map encC), .int .i64 (chE s)] := VPure.soft (p108 s hl) rfl
theorem parS_le {s : List Wit} {c : Wit} {y : Int × Int} (h : y ∈ parS s c) : 0 ≤ y.2 ∧ y.2 ≤ (c.slips.length : Int) := by
  unfold parS at h
  rcases List.mem_append.1 h with h | h
  · unfold headP at h
    split at h
    · simp at h; subst h; simp
    · cases h
  · obtain ⟨id, _, h2⟩ := List.mem_filterMap.1 h
    unfold stepP at h2
    split at h2
    · cases h2
    · split at h2
      · injection h2 with h2; subst h2
        simp only
        have : (ariS c ‹Wit›).length ≤ c.slips.length := List.length_filter_le _ _
        omega
      · cases h2
theorem choF_le (s : List Wit) (c : Wit) : 0 ≤ (choF s c).2 ∧ (choF s c).2 ≤ (c.slips.length : Int) := by
  have : ∀ (l : List (Int × Int)) (x : List Int × Int),(∀ y ∈ l, 0 ≤ y.2 ∧ y.2 ≤ (c.slips.length : Int)) → 0 ≤ x.2 ∧ x.2 ≤ (c.slips.length : Int) → 0 ≤ (l.foldl stepC x).2 ∧ (l.foldl stepC x).2 ≤ (c.slips.length : Int) := by
    intro l
    induction l with
    | nil => intro x _ h; exact h
    | cons y r ih =>
      intro x hy hx
      refine ih _ (fun z hz => hy z (List.mem_cons_of_mem _ hz)) ?_
      have h1 := hy y List.mem_cons_self
      unfold stepC
      split
      · exact hx
      · split
        · exact h1
        · exact hx
  exact this _ _ (fun y hy => parS_le hy) (by simp)
def madeP (s : List Wit) (a b : Int) : Int × Int := match kinR s a b with
  | .err e => (0, e)
  | .text c => if chE s ≠ 0 then (0, chE s) else if lastS c 0 ≠ 0 then (0,8) else ((c.slips.length : Int) - (choF s c).2,0)
  | .of c p => if chE s ≠ 0 then (0, chE s) else if (whyP c p).1 ≠ 0 then (0,8) else (((ariS c p).length : Int) - (choF s c).2,0)
theorem p32 (s : List Wit) (a b : Int) (hl : s.length < 4294967296) : VPure Tryz.prog 32 [encS s, .agg [.int .i64 a, .int .i64 b]] fun r => r = .tup [.int .i64 (madeP s a b).1, .int .i64 (madeP s a b).2] := by
  refine .of_body Tryz.func32 rfl rfl ?_
  rcases hk : kinR s a b with e | c | ⟨c, p⟩
  ·
    have he := kinR_err hk
    have hp100 := p100 s a b hl
    rw [hk] at hp100
    simp only [KinR.enc] at hp100
    refine .seq ?_
    refine .rn ?_
    refine .seq ?_
    refine .regionL [0,1,2,3,4,5,6,7,8,9,10] rfl zz0 ?_
    refine .rn [0,1] [2,3,4,5,6,7,8,9,10] ?_
    refine .step rfl rfl (.pure rfl rfl rfl Tryz.call100 (by decide) (hp100) (by first | rfl | simp [*]) ?_)
    rintro _ rfl
    refine .rn [3,4,5,6,7,8,9,10] [] ?_
    refine .done ?_
    refine .seq ?_
    refine .seq ?_
    refine .rn ?_
    refine .condS rfl (fun c20 => ?_) (fun c20 => ?_)
    · try simp at c20
      refine .seq ?_
      refine .rn ?_
      refine .ret ?_
      refine ⟨_, _, zz4,zz4, ?_⟩
      simp [madeP, hk]
    · try simp at c20
      exact absurd c20 he
  ·
    obtain ⟨hc0, hg, -⟩ := kinR_text hk
    obtain ⟨i, hi, hie, rfl⟩ := getW_idx hg
    have hlen := checkS_lens hc0 s[i] (List.getElem_mem hi)
    have hp100 := p100 s a b hl
    rw [hk] at hp100
    simp only [KinR.enc] at hp100
    have hwhy := p101a s[i] hlen.2.2
    have hari := p109a s[i]
    have hmr : madeP s a b = if chE s ≠ 0 then (0, chE s) else if lastS s[i] 0 ≠ 0 then (0,8) else ((s[i].slips.length : Int) - (choF s s[i]).2,0) := by unfold madeP; rw [hk]
    have hwr : IntKind.i64.wrap ((s[i].slips.length : Int) - (choF s s[i]).2) = (s[i].slips.length : Int) - (choF s s[i]).2 := by have := choF_le s s[i]; exact wrap64 (by omega) (by omega)
    have h105 := p105' s a hl
    rw [hie] at h105
    refine .seq ?_
    refine .rn ?_
    refine .seq ?_
    refine .regionL [0,1,2,3,4,5,6,7,8,9,10] rfl zz0 ?_
    refine .rn [0,1] [2,3,4,5,6,7,8,9,10] ?_
    refine .step rfl rfl (.pure rfl rfl rfl Tryz.call100 (by decide) (hp100) (by first | rfl | simp [*]) ?_)
    rintro _ rfl
    refine .rn [3,4,5,6,7,8,9,10] [] ?_
    refine .done ?_
    refine .seq ?_
    refine .seq ?_
    refine .rn ?_
    refine .condS rfl (fun c20 => ?_) (fun c20 => ?_)
    · try simp at c20
    · try simp at c20
      refine .skip ?_
      refine .seq ?_
      refine .regionL [0,1,2,3,4,5,6] rfl zz0 ?_
      refine .rn [0] [1,2,3,4,5,6] ?_
      refine .step rfl rfl (.pure rfl rfl rfl Tryz.call108 (by decide) (p108' s hl) (by first | rfl | simp [*]) ?_)
      rintro _ rfl
      refine .rn [2,3,4,5,6] [] ?_
      refine .done ?_
      refine .seq ?_
      refine .seq ?_
      refine .rn ?_
      refine .condS rfl (fun c28 => ?_) (fun c28 => ?_)
      · try simp at c28
        rw [if_pos c28] at hmr
        refine .seq ?_
        refine .rn ?_
        refine .ret ?_
        refine ⟨_, _, zz4,zz4, ?_⟩
        simp [hmr]
      · try simp at c28
        rw [if_neg (by simp [c28])] at hmr
        have hL : chL s = s.map (choF s) := by unfold chL; rw [if_pos c28]
        have hEc : encC (choF s s[i]) = .agg [ints (choF s s[i]).1, .int .i64 (choF s s[i]).2] := rfl
        refine .skip ?_
        refine .seq ?_
        refine .seq ?_
        refine .regionL [0,1,2,3,4,5,6,7] rfl zz0 ?_
        refine .rn [0,1] [2,3,4,5,6,7] ?_
        refine .step rfl rfl (.pure rfl rfl rfl Tryz.call101 (by decide) (hwhy) (by first | rfl | simp [*]) ?_)
        rintro _ rfl
        refine .rn [3,4,5,6,7] [] ?_
        refine .done ?_
        refine .seq ?_
        refine .rn ?_
        refine .condS rfl (fun c37 => ?_) (fun c37 => ?_)
        · try simp at c37
          rw [if_pos c37] at hmr
          refine .seq ?_
          refine .rn ?_
          refine .ret ?_
          refine ⟨_, _, zz4,zz4, ?_⟩
          simp [hmr]
        · try simp at c37
          rw [if_neg (by simp [c37])] at hmr
          refine .skip ?_
          refine .seq ?_
          refine .drawn (ms := [0,0,3,7,0,0,0,64,231,503,1015,2039,4095,8191,16383]) (W := [2,8]) (items := [.op 0, .op 1, .op 4, .op 5, .op 6, .op 7, .op 2, .ck 7, .ck 5, .op 3, .op 8, .ck 3, .op 9, .op 10, .op 11, .op 12, .op 13, .op 14]) rfl zz0 zz0 zz0 ?_
          refine .rd rfl rfl (by decide) rfl (by decide) zz1 ?_   -- 0
          refine .rd rfl rfl (by decide) rfl (by decide) zz1 ?_   -- 1
          refine .rd rfl rfl (by decide) rfl (by decide) zz1 ?_   -- 4
          refine .rd rfl rfl (by decide) rfl (by decide) zz1 ?_   -- 5
          refine .rd rfl rfl (by decide) rfl (by decide) zz1 ?_   -- 6
          refine .rd rfl rfl (by decide) rfl (by decide) zz1 ?_   -- 7
          refine .wr rfl rfl (by decide) (.pure rfl rfl rfl Tryz.call109 (by decide) (hari) (by first | rfl | simp [*]) ?_)
          rintro _ rfl
          refine .ck rfl zz0 ?_   -- 7
          refine .ck rfl zz0 ?_   -- 5
          refine .rd rfl rfl (by decide) rfl (by decide) zz1 ?_   -- 3
          refine .wr rfl rfl (by decide) (.pure rfl rfl rfl Tryz.call105 (by decide) (h105) (by first | rfl | simp [*]) ?_)
          rintro _ rfl
          refine .ck rfl zz0 ?_   -- 3
          refine .rd rfl rfl (by decide) rfl (by decide) zz1 ?_   -- 9
          refine .rd rfl rfl (by decide) rfl (by decide) zz1 ?_   -- 10
          refine .rd rfl rfl (by decide) rfl (by decide) zz1 ?_   -- 11
          refine .rd rfl rfl (by decide) rfl (by decide) zz1 ?_   -- 12
          refine .rd rfl rfl (by decide) rfl (by decide) zz1 ?_   -- 13
          refine .rd rfl rfl (by decide) rfl (by decide) zz1 ?_   -- 14
          refine .done ?_
          refine .ret ?_
          refine ⟨_, _, zz4,zz4, ?_⟩
          simp [hmr]
  ·
    obtain ⟨hc0, hg, -, hg2⟩ := kinR_of hk
    obtain ⟨i, hi, hie, rfl⟩ := getW_idx hg
    have hlen := checkS_lens hc0 s[i] (List.getElem_mem hi)
    have hlen2 := checkS_lens hc0 p (getW_mem hg2).1
    have hp100 := p100 s a b hl
    rw [hk] at hp100
    simp only [KinR.enc] at hp100
    have hwhy := p101b s[i] p hlen.1 hlen.2.1 hlen.2.2 hlen2.1
    have hari := p109 s[i] p hlen.1 hlen2.1
    have hmr : madeP s a b = if chE s ≠ 0 then (0, chE s) else if (whyP s[i] p).1 ≠ 0 then (0,8) else (((ariS s[i] p).length : Int) - (choF s s[i]).2,0) := by unfold madeP; rw [hk]
    have hwr : IntKind.i64.wrap (((ariS s[i] p).length : Int) - (choF s s[i]).2) = ((ariS s[i] p).length : Int) - (choF s s[i]).2 := by
      have := choF_le s s[i]
      have : (ariS s[i] p).length ≤ s[i].slips.length := List.length_filter_le _ _
      exact wrap64 (by omega) (by omega)
    have h105 := p105' s a hl
    rw [hie] at h105
    refine .seq ?_
    refine .rn ?_
    refine .seq ?_
    refine .regionL [0,1,2,3,4,5,6,7,8,9,10] rfl zz0 ?_
    refine .rn [0,1] [2,3,4,5,6,7,8,9,10] ?_
    refine .step rfl rfl (.pure rfl rfl rfl Tryz.call100 (by decide) (hp100) (by first | rfl | simp [*]) ?_)
    rintro _ rfl
    refine .rn [3,4,5,6,7,8,9,10] [] ?_
    refine .done ?_
    refine .seq ?_
    refine .seq ?_
    refine .rn ?_
    refine .condS rfl (fun c20 => ?_) (fun c20 => ?_)
    · try simp at c20
    · try simp at c20
      refine .skip ?_
      refine .seq ?_
      refine .regionL [0,1,2,3,4,5,6] rfl zz0 ?_
      refine .rn [0] [1,2,3,4,5,6] ?_
      refine .step rfl rfl (.pure rfl rfl rfl Tryz.call108 (by decide) (p108' s hl) (by first | rfl | simp [*]) ?_)
      rintro _ rfl
      refine .rn [2,3,4,5,6] [] ?_
      refine .done ?_
      refine .seq ?_
      refine .seq ?_
      refine .rn ?_
      refine .condS rfl (fun c28 => ?_) (fun c28 => ?_)
      · try simp at c28
        rw [if_pos c28] at hmr
        refine .seq ?_
        refine .rn ?_
        refine .ret ?_
        refine ⟨_, _, zz4,zz4, ?_⟩
        simp [hmr]
      · try simp at c28
        rw [if_neg (by simp [c28])] at hmr
        have hL : chL s = s.map (choF s) := by unfold chL; rw [if_pos c28]
        have hEc : encC (choF s s[i]) = .agg [ints (choF s s[i]).1, .int .i64 (choF s s[i]).2] := rfl
        refine .skip ?_
        refine .seq ?_
        refine .seq ?_
        refine .regionL [0,1,2,3,4,5,6,7] rfl zz0 ?_
        refine .rn [0,1] [2,3,4,5,6,7] ?_
        refine .step rfl rfl (.pure rfl rfl rfl Tryz.call101 (by decide) (hwhy) (by first | rfl | simp [*]) ?_)
        rintro _ rfl
        refine .rn [3,4,5,6,7] [] ?_
        refine .done ?_
        refine .seq ?_
        refine .rn ?_
        refine .condS rfl (fun c37 => ?_) (fun c37 => ?_)
        · try simp at c37
          rw [if_pos c37] at hmr
          refine .seq ?_
          refine .rn ?_
          refine .ret ?_
          refine ⟨_, _, zz4,zz4, ?_⟩
          simp [hmr]
        · try simp at c37
          rw [if_neg (by simp [c37])] at hmr
          refine .skip ?_
          refine .seq ?_
          refine .drawn (ms := [0,0,3,7,0,0,0,64,231,503,1015,2039,4095,8191,16383]) (W := [2,8]) (items := [.op 0, .op 1, .op 4, .op 5, .op 6, .op 7, .op 2, .ck 7, .ck 5, .op 3, .op 8, .ck 3, .op 9, .op 10, .op 11, .op 12, .op 13, .op 14]) rfl zz0 zz0 zz0 ?_
          refine .rd rfl rfl (by decide) rfl (by decide) zz1 ?_   -- 0
          refine .rd rfl rfl (by decide) rfl (by decide) zz1 ?_   -- 1
          refine .rd rfl rfl (by decide) rfl (by decide) zz1 ?_   -- 4
          refine .rd rfl rfl (by decide) rfl (by decide) zz1 ?_   -- 5
          refine .rd rfl rfl (by decide) rfl (by decide) zz1 ?_   -- 6
          refine .rd rfl rfl (by decide) rfl (by decide) zz1 ?_   -- 7
          refine .wr rfl rfl (by decide) (.pure rfl rfl rfl Tryz.call109 (by decide) (hari) (by first | rfl | simp [*]) ?_)
          rintro _ rfl
          refine .ck rfl zz0 ?_   -- 7
          refine .ck rfl zz0 ?_   -- 5
          refine .rd rfl rfl (by decide) rfl (by decide) zz1 ?_   -- 3
          refine .wr rfl rfl (by decide) (.pure rfl rfl rfl Tryz.call105 (by decide) (h105) (by first | rfl | simp [*]) ?_)
          rintro _ rfl
          refine .ck rfl zz0 ?_   -- 3
          refine .rd rfl rfl (by decide) rfl (by decide) zz1 ?_   -- 9
          refine .rd rfl rfl (by decide) rfl (by decide) zz1 ?_   -- 10
          refine .rd rfl rfl (by decide) rfl (by decide) zz1 ?_   -- 11
          refine .rd rfl rfl (by decide) rfl (by decide) zz1 ?_   -- 12
          refine .rd rfl rfl (by decide) rfl (by decide) zz1 ?_   -- 13
          refine .rd rfl rfl (by decide) rfl (by decide) zz1 ?_   -- 14
          refine .done ?_
          refine .ret ?_
          refine ⟨_, _, zz4,zz4, ?_⟩
          simp [hmr]
end Go.Am.Ds
end
