/-
  What is used in the proof of a statement (part HiA); no condition.
-/
import Derived.Test.YtmgglkdilpglgaaGreatHiZ
import Derived.Test.YtmgglkdilpglgaaGreatVm2
import Derived.Test.YtmgglkdilpglgaaGreatHiT
set_option linter.all false
section
namespace Go.Am.Hi
open Go Go.Am Go.Proofs
set_option maxRecDepth 100000
set_option maxHeartbeats 4000000
set_option linter.unusedSimpArgs false
set_option linter.unusedVariables false
attribute [local simp] vrun vwanted vyielded vop vopA vputAll VHeap.back hidI hidF backL bm Nat.testBit_eq_decide_div_mod_eq veval vevals vparts vO vbuiltin vlen vappend velems vcopy vmakeSlice vbuildSlice valloc vbox vmakeMap vload vpartT vpart vstore vfieldAddr vfield vindexAddr vindex vextract vslice vsliceZ vbounds vbnd zeroO vidx vlookup vmget vmapUpdate vdelete vclear vnilq vnilp vnils vbin vsc vsc1 vscs vscl abinOp aint ashift aunOp aconvert amaxs amax2 pvcV pvc pvcs tput tget vargs VHeap.get VHeap.alloc VHeap.put VHeap.drop VHeap.empty vlook vput vdrop psplice pfill preps chunk List.range List.range.loop vresults vresult vresultV frz frzL PV.isF PV.allF PV.scal PV.allS retP subT allFT PV.one PV.ids PV.idsL dropL beq_eq ble_dec blt_dec
theorem p70 (n a b : Int) : VPure Tryz.prog 70 [.int .i64 n, .int .i64 a, .int .i64 b] fun r => r = .bool (decide (a ≤ n) && decide (n ≤ b)) := by
  refine .of_body Tryz.func70 rfl rfl ?_
  refine .seq ?_
  refine .rn ?_
  refine .seq ?_
  refine .regionL [0,1,2,3,4,5,6,7,8] rfl zz0 ?_
  refine .rn [0,1,2,3] [4,5,6,7,8] ?_
  refine .split (t := 10) rfl (fun c10 => ?_) (fun c10 => ?_)
  · try rw [c10]
    try simp at c10
    refine .rn [4,5,6,7,8] [] ?_
    refine .done ?_
    refine .ret ?_
    refine ⟨_, _, zz2,zz2, ?_⟩
    simp <;> omega
  · try rw [c10]
    try simp at c10
    refine .rn [4,5,6,7,8] [] ?_
    refine .done ?_
    refine .ret ?_
    refine ⟨_, _, zz2,zz2, ?_⟩
    simp <;> omega
theorem p80 (n a b : Int) : VPure Tryz.prog 80 [.int .i64 n, .int .i64 a, .int .i64 b] fun r => r = .bool (decide (a ≤ n) && decide (n ≤ b)) := by
  refine .of_body Tryz.func80 rfl rfl ?_
  refine .seq ?_
  refine .rn ?_
  refine .seq ?_
  refine .regionL [0,1,2,3,4,5,6,7,8] rfl zz0 ?_
  refine .rn [0,1,2,3] [4,5,6,7,8] ?_
  refine .split (t := 10) rfl (fun c10 => ?_) (fun c10 => ?_)
  · try rw [c10]
    try simp at c10
    refine .rn [4,5,6,7,8] [] ?_
    refine .done ?_
    refine .ret ?_
    refine ⟨_, _, zz2,zz2, ?_⟩
    simp <;> omega
  · try rw [c10]
    try simp at c10
    refine .rn [4,5,6,7,8] [] ?_
    refine .done ?_
    refine .ret ?_
    refine ⟨_, _, zz2,zz2, ?_⟩
    simp <;> omega
def idxF {α : Type} (p : α → Bool) : Nat → List α → Int
  | _, [] => -1
  | i, a :: r => if p a then i else idxF p (i + 1) r
theorem idxF_drop {α : Type} (p : α → Bool) (l : List α) (i : Nat) (h : i < l.length) : idxF p i (l.drop i) = if p l[i] then (i : Int) else idxF p (i + 1) (l.drop (i + 1)) := by
  rw [List.drop_eq_getElem_cons h]; rfl
theorem idxF_ge {α : Type} (p : α → Bool) : ∀ (l : List α) (i : Nat),(idxF p i l = -1 ∧ l.any p = false) ∨ ((i : Int) ≤ idxF p i l ∧ idxF p i l < i + l.length ∧ l.any p = true)
  | [], i => .inl ⟨rfl, rfl⟩
  | a :: r, i => by
    simp only [idxF, List.any_cons, List.length_cons]
    cases h : p a with
    | true => exact .inr ⟨by simp, by simp; omega, rfl⟩
    | false =>
      rcases idxF_ge p r (i + 1) with ⟨h1, h2⟩ | ⟨h1, h2, h3⟩
      · exact .inl ⟨by simpa using h1, by simpa using h2⟩
      · exact .inr ⟨by simp; omega, by simp; omega, by simpa using h3⟩
theorem idxF_any {α : Type} (p : α → Bool) (l : List α) (i : Nat) : decide (idxF p i l ≥ 0) = l.any p := by
  rcases idxF_ge p l i with ⟨h1, h2⟩ | ⟨h1, h2, h3⟩
  · rw [h1, h2]; decide
  · rw [h3]; simp; omega
theorem any_mem (l : List Int) (v : Int) : (l.any fun a => decide (v = a)) = decide (v ∈ l) := by
  induction l with
  | nil => rfl
  | cons a r ih => simp only [List.any_cons, ih, List.mem_cons]; by_cases h1 : v = a <;> by_cases h2 : v ∈ r <;> simp [h1, h2]
def prm (l : List Int) : Bool := decide (l.Nodup ∧ ∀ n ∈ l, 0 ≤ n ∧ n ≤ (l.length : Int) - 1)
def PrmK (l : List Int) (i : Nat) : Prop := (l.take i).Nodup ∧ ∀ n ∈ l.take i, 0 ≤ n ∧ n ≤ (l.length : Int) - 1
theorem prmK_zero (l : List Int) : PrmK l 0 := by simp [PrmK]
theorem prmK_succ {l : List Int} {i : Nat} (h : i < l.length) (hk : PrmK l i) (h1 : 0 ≤ l[i]) (h2 : l[i] ≤ (l.length : Int) - 1) (h3 : l[i] ∉ l.take i) : PrmK l (i + 1) := by
  unfold PrmK at hk ⊢
  rw [List.take_succ_eq_append_getElem h]
  refine ⟨?_, fun n hn => ?_⟩
  · rw [List.nodup_append]
    refine ⟨hk.1, by simp, fun a ha b hb hab => h3 ?_⟩
    rw [List.mem_singleton] at hb
    rw [← hb, ← hab]; exact ha
  · rcases List.mem_append.1 hn with hn | hn
    · exact hk.2 n hn
    · rw [List.mem_singleton] at hn; subst hn; exact ⟨h1, h2⟩
theorem prmK_all {l : List Int} (hk : PrmK l l.length) : prm l = true := by
  unfold PrmK at hk
  rw [List.take_length] at hk
  exact decide_eq_true hk
theorem prm_out {l : List Int} {i : Nat} (h : i < l.length) (h1 : ¬(0 ≤ l[i] ∧ l[i] ≤ (l.length : Int) - 1)) : prm l = false :=
  decide_eq_false fun hp => h1 (hp.2 _ (List.getElem_mem h))
theorem prm_twice {l : List Int} {i : Nat} (h : i < l.length) (h1 : l[i] ∈ l.take i) : prm l = false :=
  decide_eq_false fun hp => by
    obtain ⟨j, hj, he⟩ := List.mem_iff_getElem.1 h1
    rw [List.length_take] at hj
    rw [List.getElem_take] at he
    exact (List.pairwise_iff_getElem.1 hp.1) j i (by omega) h (by omega) he
def rowB (l : List Int) : Bool := prm l && (decide (1 ≤ l.length) && decide (l.length ≤ 24))
theorem rowB_len {l : List Int} (h : (l.length : Int) < 1 ∨ 24 < (l.length : Int)) : rowB l = false := by
  unfold rowB
  rcases h with h | h
  · rw [decide_eq_false (show ¬1 ≤ l.length by omega)]; simp
  · rw [decide_eq_false (show ¬l.length ≤ 24 by omega)]; simp
theorem rowB_prm {l : List Int} (h : prm l = false) : rowB l = false := by unfold rowB; rw [h]; rfl
theorem rowB_ok {l : List Int} (h1 : 1 ≤ (l.length : Int)) (h2 : (l.length : Int) ≤ 24) (h : prm l = true) : rowB l = true := by
  unfold rowB
  rw [h, decide_eq_true (show 1 ≤ l.length by omega), decide_eq_true (show l.length ≤ 24 by omega)]; rfl
theorem rowB_eq {l : List Int} (h : prm l = true) : rowB l = (decide (1 ≤ (l.length : Int)) && decide ((l.length : Int) ≤ 24)) := by
  unfold rowB
  rw [h, Bool.true_and]
  congr 1 <;> rw [decide_eq_decide] <;> omega
theorem rowB_iff {l : List Int} : rowB l = true ↔ (l.Nodup ∧ ∀ n ∈ l, 0 ≤ n ∧ n ≤ (l.length : Int) - 1) ∧ 1 ≤ l.length ∧ l.length ≤ 24 := by
  unfold rowB prm
  simp only [Bool.and_eq_true, decide_eq_true_eq]
theorem same_step {a b : List Int} {i : Nat} (ha : i < a.length) (hb : i < b.length) : decide (a.drop i = b.drop i) = (decide (a[i] = b[i]) && decide (a.drop (i + 1) = b.drop (i + 1))) := by
  rw [List.drop_eq_getElem_cons ha, List.drop_eq_getElem_cons hb, Bool.eq_iff_iff]
  simp only [decide_eq_true_eq, Bool.and_eq_true, List.cons.injEq]
theorem p151 (l : List Int) (v : Int) (hl : l.length < 4294967296) : VPure Tryz.prog 151 [ints l, .int .i64 v] fun r => r = .int .i64 (idxF (fun a => decide (v = a)) 0 l) := by
  refine .of_body Tryz.func151 rfl rfl ?_
  refine .seq ?_
  refine .rn ?_
  refine .seq ?_
  refine .seq ?_
  refine .rn ?_
  refine .block ?_
  refine .loopS (fun s : Nat => ([(0, ints l),(1, .int .i64 v),(7, .int .i64 l.length),(8, .int .i64 s)], VHeap.empty)) (fun s => s ≤ l.length ∧ idxF (fun a => decide (v = a)) s (l.drop s) = idxF (fun a => decide (v = a)) 0 l) (fun s => l.length - s) 0 ⟨by simp, by simp⟩ (.pure (by simp [*]) (by simp)) ?_
  rintro i ⟨hi, hr⟩
  simp only at hi hr ⊢
  refine .seq ?_
  refine .rn ?_
  refine .seq ?_
  refine .condS rfl (fun c9 => ?_) (fun c9 => ?_)
  · try simp at c9
    have hw2 : IntKind.i64.wrap ((i : Int) + 1) = (i : Int) + 1 := wrap64 (by omega) (by omega)
    rw [idxF_drop _ l i c9] at hr
    refine .skip ?_
    refine .seq ?_
    refine .block ?_
    refine .seq ?_
    refine .rn ?_
    refine .seq ?_
    refine .rn ?_
    refine .condS rfl (fun c16 => ?_) (fun c16 => ?_)
    · try simp at c16
      refine .seq ?_
      refine .rn ?_
      refine .ret ?_
      refine ⟨_, _, zz2,zz2, ?_⟩
      rw [← hr, if_pos (by simp [c16])]
    · try simp at c16
      refine .skip ?_
      refine .rn ?_
      refine ⟨i + 1, ⟨zz3, ?_⟩, zz3, .pure (by simp [*]) (by simp)⟩
      rw [← hr, if_neg (by simp [c16])]
  · try simp at c9
    have : i = l.length := by omega
    refine .exit ?_
    refine .seq ?_
    refine .rn ?_
    refine .ret ?_
    refine ⟨_, _, zz2,zz2, ?_⟩
    rw [← hr, this, List.drop_length]; rfl
theorem p99 (l : List Int) (v : Int) (hl : l.length < 4294967296) : VPure Tryz.prog 99 [ints l, .int .i64 v] fun r => r = .bool (decide (v ∈ l)) := by
  refine .of_body Tryz.func99 rfl rfl ?_
  refine .seq ?_
  refine .rn ?_
  refine .seq ?_
  refine .regionL [0,1,2,3,4] rfl zz0 ?_
  refine .rn [0,1] [2,3,4] ?_
  refine .step rfl rfl (.pure rfl rfl rfl Tryz.call151 (by decide) (p151 l v hl) (by first | rfl | simp [*]) ?_)
  rintro _ rfl
  refine .rn [3,4] [] ?_
  refine .done ?_
  refine .ret ?_
  refine ⟨_, _, zz2,zz2, ?_⟩
  rw [← any_mem, ← idxF_any _ l 0]
theorem p107 (l : List Int) (v : Int) (hl : l.length < 4294967296) : VPure Tryz.prog 107 [ints l, .int .i64 v] fun r => r = .bool (decide (v ∈ l)) := by
  refine .of_body Tryz.func107 rfl rfl ?_
  refine .seq ?_
  refine .rn ?_
  refine .seq ?_
  refine .seq ?_
  refine .rn ?_
  refine .block ?_
  refine .loopS (fun s : Nat => ([(0, ints l),(1, .int .i64 v),(5, .int .i64 s)], VHeap.empty)) (fun s => s ≤ l.length ∧ decide (v ∈ l.drop s) = decide (v ∈ l)) (fun s => l.length - s) 0 ⟨by simp, by simp⟩ (.pure (by simp [*]) (by simp)) ?_
  rintro i ⟨hi, hr⟩
  simp only at hi hr ⊢
  refine .seq ?_
  refine .seq ?_
  refine .rn ?_
  refine .condS rfl (fun c9 => ?_) (fun c9 => ?_)
  · try simp at c9
    have hw2 : IntKind.i64.wrap ((i : Int) + 1) = (i : Int) + 1 := wrap64 (by omega) (by omega)
    rw [List.drop_eq_getElem_cons c9] at hr
    refine .skip ?_
    refine .seq ?_
    refine .block ?_
    refine .seq ?_
    refine .rn ?_
    refine .condS rfl (fun c17 => ?_) (fun c17 => ?_)
    · try simp at c17
      refine .seq ?_
      refine .rn ?_
      refine .ret ?_
      refine ⟨_, _, zz2,zz2, ?_⟩
      rw [← hr, c17]; simp
    · try simp at c17
      refine .skip ?_
      refine .rn ?_
      refine ⟨i + 1, ⟨zz3, ?_⟩, zz3, .pure (by simp [*]) (by simp)⟩
      rw [← hr, decide_eq_decide, List.mem_cons]
      exact ⟨.inr, fun h => h.resolve_left (Ne.symm c17)⟩
  · try simp at c9
    have : i = l.length := by omega
    refine .exit ?_
    refine .seq ?_
    refine .rn ?_
    refine .ret ?_
    refine ⟨_, _, zz2,zz2, ?_⟩
    rw [← hr, this, List.drop_length]; rfl
theorem p154 (l : List Int) (hl : l.length < 4294967296) : VPure Tryz.prog 154 [ints l] fun r => r = .bool (prm l) := by
  have hw : IntKind.i64.wrap ((l.length : Int) - 1) = (l.length : Int) - 1 := wrap64 (by omega) (by omega)
  refine .of_body Tryz.func154 rfl rfl ?_
  refine .seq ?_
  refine .rn ?_
  refine .seq ?_
  refine .seq ?_
  refine .rn ?_
  refine .block ?_
  refine .loopS (fun s : Nat => ([(0, ints l),(5, ints l),(6, .int .i64 l.length),(7, .int .i64 s)], VHeap.empty)) (fun s => s ≤ l.length ∧ PrmK l s) (fun s => l.length - s) 0 ⟨by simp, prmK_zero l⟩ (.pure (by simp [*]) (by simp)) ?_
  rintro i ⟨hi, hr⟩
  simp only at hi hr ⊢
  refine .seq ?_
  refine .rn ?_
  refine .seq ?_
  refine .condS rfl (fun c8 => ?_) (fun c8 => ?_)
  · try simp at c8
    have hw2 : IntKind.i64.wrap ((i : Int) + 1) = (i : Int) + 1 := wrap64 (by omega) (by omega)
    have htl : (l.take i).length < 4294967296 := by rw [List.length_take]; omega
    refine .skip ?_
    refine .seq ?_
    refine .block ?_
    refine .seq ?_
    refine .rn ?_
    refine .seq ?_
    refine .regionL [0,1,2,3,4,5,6,7,8,9,10,11,12] rfl zz0 ?_
    refine .rn [0,1,2,3] [4,5,6,7,8,9,10,11,12] ?_
    refine .step rfl rfl (.pure rfl rfl rfl Tryz.call70 (by decide) (p70 l[i] 0 ((l.length : Int) - 1)) (by first | rfl | simp [*]) ?_)
    rintro _ rfl
    refine .rn [5,6] [7,8,9,10,11,12] ?_
    refine .split (t := 18) rfl (fun c18 => ?_) (fun c18 => ?_)
    · try rw [c18]
      try simp at c18
      refine .rn [7,8,9,10,11,12] [] ?_
      refine .done ?_
      refine .condT rfl ?_
      refine .seq ?_
      refine .rn ?_
      refine .ret ?_
      refine ⟨_, _, zz2,zz2, ?_⟩
      rw [prm_out c8 (by omega)]
    · try rw [c18]
      try simp at c18
      refine .rn [7,8,9,10] [11,12] ?_
      refine .step rfl rfl (.pure rfl rfl rfl Tryz.call99 (by decide) ((by have := p99 (l.take i) l[i] htl; rw [ints, List.map_take] at this; exact this)) (by first | rfl | simp [*]) ?_)
      rintro _ rfl
      refine .rn [12] [] ?_
      refine .done ?_
      refine .condS rfl (fun c24 => ?_) (fun c24 => ?_)
      · try simp at c24
        refine .seq ?_
        refine .rn ?_
        refine .ret ?_
        refine ⟨_, _, zz2,zz2, ?_⟩
        rw [prm_twice c8 c24]
      · try simp at c24
        refine .skip ?_
        refine .rn ?_
        refine ⟨i + 1, ⟨zz3, prmK_succ c8 hr c18.1 c18.2 c24⟩, zz3, .pure (by simp [*]) (by simp)⟩
  · try simp at c8
    have : i = l.length := by omega
    subst this
    refine .exit ?_
    refine .seq ?_
    refine .rn ?_
    refine .ret ?_
    refine ⟨_, _, zz2,zz2, ?_⟩
    rw [prmK_all hr]
theorem p109 (l : List Int) (hl : l.length < 4294967296) : VPure Tryz.prog 109 [ints l] fun r => r = .int .i64 (if rowB l then 0 else 1) := by
  refine .of_body Tryz.func109 rfl rfl ?_
  refine .seq ?_
  refine .rn ?_
  refine .seq ?_
  refine .seq ?_
  refine .regionL [0,1,2,3,4,5,6,7,8] rfl zz0 ?_
  refine .rn [0,1] [2,3,4,5,6,7,8] ?_
  refine .step rfl rfl (.pure rfl rfl rfl Tryz.call70 (by decide) (p70 l.length 1 24) (by first | rfl | simp [*]) ?_)
  rintro _ rfl
  refine .rn [3,4] [5,6,7,8] ?_
  refine .split (t := 7) rfl (fun c7 => ?_) (fun c7 => ?_)
  · try rw [c7]
    try simp at c7
    refine .rn [5,6,7,8] [] ?_
    refine .done ?_
    refine .condT rfl ?_
    refine .seq ?_
    refine .rn ?_
    refine .ret ?_
    refine ⟨_, _, zz2,zz2, ?_⟩
    simp [rowB_len c7]
  · try rw [c7]
    try simp at c7
    refine .rn [5] [6,7,8] ?_
    refine .step rfl rfl (.pure rfl rfl rfl Tryz.call154 (by decide) (p154 l hl) (by first | rfl | simp [*]) ?_)
    rintro _ rfl
    refine .rn [7,8] [] ?_
    refine .done ?_
    refine .condS rfl (fun c11 => ?_) (fun c11 => ?_)
    · try simp at c11
      refine .seq ?_
      refine .rn ?_
      refine .ret ?_
      refine ⟨_, _, zz2,zz2, ?_⟩
      simp [rowB_prm c11]
    · try simp at c11
      refine .skip ?_
      refine .seq ?_
      refine .rn ?_
      refine .ret ?_
      refine ⟨_, _, zz2,zz2, ?_⟩
      simp [rowB_ok c7.1 c7.2 c11]
theorem p153 (l : List Int) (hl : l.length < 4294967296) : VPure Tryz.prog 153 [ints l] fun r => r = .bool (prm l) := by
  have hw : IntKind.i64.wrap ((l.length : Int) - 1) = (l.length : Int) - 1 := wrap64 (by omega) (by omega)
  refine .of_body Tryz.func153 rfl rfl ?_
  refine .seq ?_
  refine .rn ?_
  refine .seq ?_
  refine .seq ?_
  refine .rn ?_
  refine .block ?_
  refine .loopS (fun s : Nat => ([(0, ints l),(3, .int .i64 s)], VHeap.empty)) (fun s => s ≤ l.length ∧ PrmK l s) (fun s => l.length - s) 0 ⟨by simp, prmK_zero l⟩ (.pure (by simp [*]) (by simp)) ?_
  rintro i ⟨hi, hr⟩
  simp only at hi hr ⊢
  refine .seq ?_
  refine .seq ?_
  refine .rn ?_
  refine .condS rfl (fun c8 => ?_) (fun c8 => ?_)
  · try simp at c8
    have hw2 : IntKind.i64.wrap ((i : Int) + 1) = (i : Int) + 1 := wrap64 (by omega) (by omega)
    have htl : (l.take i).length < 4294967296 := by rw [List.length_take]; omega
    refine .skip ?_
    refine .seq ?_
    refine .block ?_
    refine .seq ?_
    refine .drawn (ms := [0,0,3,0,0,24,56,127,255]) (W := [7]) (items := [.op 0, .op 1, .op 2, .op 3, .op 4, .op 5, .op 6, .op 7, .op 8]) rfl zz0 zz0 zz0 ?_
    refine .rd rfl rfl (by decide) rfl (by decide) zz1 ?_   -- 0
    refine .rd rfl rfl (by decide) rfl (by decide) zz1 ?_   -- 1
    refine .rd rfl rfl (by decide) rfl (by decide) zz1 ?_   -- 2
    refine .rd rfl rfl (by decide) rfl (by decide) zz1 ?_   -- 3
    refine .rd rfl rfl (by decide) rfl (by decide) zz1 ?_   -- 4
    refine .rd rfl rfl (by decide) rfl (by decide) zz1 ?_   -- 5
    refine .rd rfl rfl (by decide) rfl (by decide) zz1 ?_   -- 6
    refine .wr rfl rfl (by decide) (.pure rfl rfl rfl Tryz.call107 (by decide) ((by have := p107 (l.take i) l[i] htl; rw [ints, List.map_take] at this; exact this)) (by first | rfl | simp [*]) ?_)
    rintro _ rfl
    refine .rd rfl rfl (by decide) rfl (by decide) zz1 ?_   -- 8
    refine .done ?_
    refine .seq ?_
    refine .regionL [0,1,2,3,4,5,6,7,8,9,10,11] rfl zz0 ?_
    refine .rn [0,1] [2,3,4,5,6,7,8,9,10,11] ?_
    refine .split (t := 20) rfl (fun c20 => ?_) (fun c20 => ?_)
    · try rw [c20]
      try simp at c20
      refine .rn [2,3,4,5,6,7,8,9,10,11] [] ?_
      refine .done ?_
      refine .condT rfl ?_
      refine .seq ?_
      refine .rn ?_
      refine .ret ?_
      refine ⟨_, _, zz2,zz2, ?_⟩
      rw [prm_twice c8 c20]
    · try rw [c20]
      try simp at c20
      refine .rn [2,3,4,5,6,7,8] [9,10,11] ?_
      refine .step rfl rfl (.pure rfl rfl rfl Tryz.call80 (by decide) (p80 l[i] 0 ((l.length : Int) - 1)) (by first | rfl | simp [*]) ?_)
      rintro _ rfl
      refine .rn [10,11] [] ?_
      refine .done ?_
      refine .condS rfl (fun c30 => ?_) (fun c30 => ?_)
      · try simp at c30
        refine .seq ?_
        refine .rn ?_
        refine .ret ?_
        refine ⟨_, _, zz2,zz2, ?_⟩
        rw [prm_out c8 (by omega)]
      · try simp at c30
        refine .skip ?_
        refine .rn ?_
        refine ⟨i + 1, ⟨zz3, prmK_succ c8 hr c30.1 c30.2 c20⟩, zz3, .pure (by simp [*]) (by simp)⟩
  · try simp at c8
    have : i = l.length := by omega
    subst this
    refine .exit ?_
    refine .seq ?_
    refine .rn ?_
    refine .ret ?_
    refine ⟨_, _, zz2,zz2, ?_⟩
    rw [prmK_all hr]
theorem p111 (l : List Int) (hl : l.length < 4294967296) : VPure Tryz.prog 111 [ints l] fun r => r = .bool (rowB l) := by
  refine .of_body Tryz.func111 rfl rfl ?_
  refine .seq ?_
  refine .rn ?_
  refine .seq ?_
  refine .regionL [0,1,2] rfl zz0 ?_
  refine .rn [0] [1,2] ?_
  refine .step rfl rfl (.pure rfl rfl rfl Tryz.call153 (by decide) (p153 l hl) (by first | rfl | simp [*]) ?_)
  rintro _ rfl
  refine .rn [2] [] ?_
  refine .done ?_
  refine .seq ?_
  refine .regionL [0,1,2,3,4,5,6] rfl zz0 ?_
  refine .rn [0,1] [2,3,4,5,6] ?_
  refine .split (t := 7) rfl (fun c7 => ?_) (fun c7 => ?_)
  · try rw [c7]
    try simp at c7
    refine .rn [2,3] [4,5,6] ?_
    refine .step rfl rfl (.pure rfl rfl rfl Tryz.call80 (by decide) (p80 l.length 1 24) (by first | rfl | simp [*]) ?_)
    rintro _ rfl
    refine .rn [5,6] [] ?_
    refine .done ?_
    refine .ret ?_
    refine ⟨_, _, zz2,zz2, ?_⟩
    rw [rowB_eq c7]
  · try rw [c7]
    try simp at c7
    refine .rn [2,3,4,5,6] [] ?_
    refine .done ?_
    refine .ret ?_
    refine ⟨_, _, zz2,zz2, ?_⟩
    simp [rowB, c7]
theorem p27 (a b : List Int) (hl : a.length < 4294967296) (hb : b.length < 4294967296) : VPure Tryz.prog 27 [ints a, ints b] fun r => r = .bool (decide (a = b)) := by
  refine .of_body Tryz.func27 rfl rfl ?_
  refine .seq ?_
  refine .rn ?_
  refine .seq ?_
  refine .seq ?_
  refine .rn ?_
  refine .condS rfl (fun c10 => ?_) (fun c10 => ?_)
  · try simp at c10
    refine .seq ?_
    refine .rn ?_
    refine .ret ?_
    refine ⟨_, _, zz2,zz2, ?_⟩
    rw [decide_eq_false fun h => c10 (by rw [h])]
  · try simp at c10
    refine .skip ?_
    refine .seq ?_
    refine .seq ?_
    refine .rn ?_
    refine .block ?_
    refine .loopS (fun s : Nat => ([(0, ints a),(1, ints b),(5, .int .i64 s)], VHeap.empty)) (fun s => s ≤ a.length ∧ decide (a.drop s = b.drop s) = decide (a = b)) (fun s => a.length - s) 0 ⟨by simp, by simp⟩ (.pure (by simp [*]) (by simp)) ?_
    rintro i ⟨hi, hr⟩
    simp only at hi hr ⊢
    refine .seq ?_
    refine .seq ?_
    refine .rn ?_
    refine .condS rfl (fun c14 => ?_) (fun c14 => ?_)
    · try simp at c14
      have hw2 : IntKind.i64.wrap ((i : Int) + 1) = (i : Int) + 1 := wrap64 (by omega) (by omega)
      have hib : i < b.length := by omega
      have hia : i < a.length := by omega
      rw [same_step hia hib] at hr
      refine .skip ?_
      refine .seq ?_
      refine .block ?_
      refine .seq ?_
      refine .drawn (ms := [0,0,3,7,0,0,48,112,255]) (W := []) (items := [.op 0, .op 1, .op 2, .op 3, .op 4, .op 5, .op 6, .op 7, .op 8]) rfl zz0 zz0 zz0 ?_
      refine .rd rfl rfl (by decide) rfl (by decide) zz1 ?_   -- 0
      refine .rd rfl rfl (by decide) rfl (by decide) zz1 ?_   -- 1
      refine .rd rfl rfl (by decide) rfl (by decide) zz1 ?_   -- 2
      refine .rd rfl rfl (by decide) rfl (by decide) zz1 ?_   -- 3
      refine .rd rfl rfl (by decide) rfl (by decide) zz1 ?_   -- 4
      refine .rd rfl rfl (by decide) rfl (by decide) zz1 ?_   -- 5
      refine .rd rfl rfl (by decide) rfl (by decide) zz1 ?_   -- 6
      refine .rd rfl rfl (by decide) rfl (by decide) zz1 ?_   -- 7
      refine .rd rfl rfl (by decide) rfl (by decide) zz1 ?_   -- 8
      refine .done ?_
      refine .condS rfl (fun c25 => ?_) (fun c25 => ?_)
      · try simp at c25
        refine .seq ?_
        refine .rn ?_
        refine .ret ?_
        refine ⟨_, _, zz2,zz2, ?_⟩
        rw [← hr]; simp [c25]
      · try simp at c25
        refine .skip ?_
        refine .rn ?_
        refine ⟨i + 1, ⟨zz3, ?_⟩, zz3, .pure (by simp [*]) (by simp)⟩
        rw [← hr, c25]; simp
    · try simp at c14
      have : i = a.length := by omega
      refine .exit ?_
      refine .seq ?_
      refine .rn ?_
      refine .ret ?_
      refine ⟨_, _, zz2,zz2, ?_⟩
      rw [← hr, this, List.drop_length, List.drop_eq_nil_of_le (by omega)]; rfl
end Go.Am.Hi
end

section
namespace Go.Am.Hi
open Go Go.Am Go.Proofs
set_option maxRecDepth 100000
set_option maxHeartbeats 4000000
set_option linter.unusedSimpArgs false
set_option linter.unusedVariables false
attribute [local simp] vrun vwanted vyielded vop vopA vputAll VHeap.back hidI hidF backL bm Nat.testBit_eq_decide_div_mod_eq veval vevals vparts vO vbuiltin vlen vappend velems vcopy vmakeSlice vbuildSlice valloc vbox vmakeMap vload vpartT vpart vstore vfieldAddr vfield vindexAddr vindex vextract vslice vsliceZ vbounds vbnd zeroO vidx vlookup vmget vmapUpdate vdelete vclear vnilq vnilp vnils vbin vsc vsc1 vscs vscl abinOp aint ashift aunOp aconvert amaxs amax2 pvcV pvc pvcs tput tget vargs VHeap.get VHeap.alloc VHeap.put VHeap.drop VHeap.empty vlook vput vdrop psplice pfill preps chunk List.range List.range.loop vresults vresult vresultV frz frzL PV.isF PV.allF PV.scal PV.allS retP subT allFT PV.one PV.ids PV.idsL dropL beq_eq ble_dec blt_dec
def nx (row : List Int) (c : Int) : Int := row.getD c.toNat 0
def wlk (row bar : List Int) : Nat → Int → List Int → List Int
  | 0, _, l => l
  | k + 1, c, l => if c ∈ bar ++ l then l else wlk row bar k (nx row c) (l ++ [c])
def lpH (row : List Int) : Nat → List (List Int)
  | 0 => []
  | k + 1 => if (k : Int) ∈ (lpH row k).flatten then lpH row k else lpH row k ++ [wlk row (lpH row k).flatten (row.length + 1) k []]
def lpR (row : List Int) : Nat → List (List Int)
  | 0 => []
  | k + 1 => if (k : Int) ∈ (lpR row k).flatten then lpR row k else lpR row k ++ [wlk row [] (row.length + 1) k []]
def seenV (n : Nat) (S : List Int) : List PV := (List.range n).map fun (i : Nat) => PV.bool (decide ((i : Int) ∈ S))
@[simp] theorem seenV_len (n : Nat) (S : List Int) : (seenV n S).length = n := by simp [seenV, -List.range, -List.range.loop]
@[simp] theorem seenV_one (n : Nat) (S : List Int) : (seenV n S).all PV.one = true := by simp [seenV, PV.one]
@[simp] theorem seenV_allF (n : Nat) (S : List Int) : PV.allF (seenV n S) = true := by
  unfold seenV
  exact allF_map (fun _ => rfl) _
theorem seenV_get (n : Nat) (S : List Int) (i : Nat) (h : i < n) : (seenV n S)[i]? = some (PV.bool (decide ((i : Int) ∈ S))) := by
  simp [seenV, h, -List.range, -List.range.loop]
theorem preps1 (z : PV) (n : Nat) : preps [z] n = List.replicate n z := by
  unfold preps
  induction n with
  | zero => rfl
  | succ n ih => simp only [List.replicate_succ, List.flatten_cons, ih]; rfl
theorem seenV_nil (n : Nat) : List.replicate n (PV.bool false) = seenV n [] := by
  simp [seenV, List.map_const', -List.range, -List.range.loop]
theorem seenV_at (n : Nat) (S : List Int) (i : Nat) (h : i < n) : (seenV n S)[i]'(by simpa using h) = PV.bool (decide ((i : Int) ∈ S)) := by
  have := seenV_get n S i h
  rw [List.getElem?_eq_getElem (by simpa using h)] at this
  injection this
theorem seenV_put (n : Nat) (S : List Int) (i : Nat) (h : i < n) : (seenV n S).take i ++ PV.bool true :: (seenV n S).drop (i + 1) = seenV n (S ++ [(i : Int)]) := by
  apply List.ext_getElem?
  intro j
  by_cases hj : j < n
  · rw [seenV_get n _ j hj, List.getElem?_append]
    simp only [List.length_take, seenV_len, Nat.min_eq_left (Nat.le_of_lt h), List.mem_append, List.mem_singleton]
    by_cases h1 : j < i
    · rw [if_pos h1, List.getElem?_take_of_lt h1, seenV_get n _ j hj]
      have : ¬((j : Int) = i) := by omega
      simp [this]
    · rw [if_neg h1]
      by_cases h2 : j = i
      · subst h2; simp
      · rw [show j - i = (j - i - 1) + 1 by omega, List.getElem?_cons_succ, List.getElem?_drop, show i + 1 + (j - i - 1) = j by omega, seenV_get n _ j hj]
        have : ¬((j : Int) = i) := by omega
        simp [this]
  · rw [List.getElem?_eq_none (by simp; omega), List.getElem?_eq_none (by simp; omega)]
theorem in_len {l : List Int} {n : Nat} (h1 : l.Nodup) (h2 : ∀ x ∈ l, 0 ≤ x ∧ x < (n : Int)) : l.length ≤ n := by
  have := h1.length_le_of_subset (l₂ := (List.range n).map Int.ofNat) fun x hx => by
    obtain ⟨h3, h4⟩ := h2 x hx
    exact List.mem_map.2 ⟨x.toNat, List.mem_range.2 (by omega), by simp; omega⟩
  rw [List.length_map, List.length_range] at this; exact this
def WK (row S : List Int) (c : Int) (a : Nat) (l : List Int) : Prop := a < row.length ∧ l.Nodup ∧ (∀ x ∈ l, 0 ≤ x ∧ x < (row.length : Int)) ∧ wlk row S (row.length + 1 - l.length) a l = wlk row S (row.length + 1) c []
theorem WK.len {row S : List Int} {c : Int} {a : Nat} {l : List Int} (h : WK row S c a l) : l.length ≤ row.length := in_len h.2.1 h.2.2.1
theorem WK.stop {row S : List Int} {c : Int} {a : Nat} {l : List Int} (h : WK row S c a l) (hm : (a : Int) ∈ S ++ l) : wlk row S (row.length + 1) c [] = l := by
  rw [← h.2.2.2]
  have := h.len
  rw [show row.length + 1 - l.length = (row.length - l.length) + 1 by omega, wlk, if_pos hm]
theorem WK.next {row S : List Int} {c : Int} {a : Nat} {l : List Int} (hr : ∀ n ∈ row, 0 ≤ n ∧ n ≤ (row.length : Int) - 1) (h : WK row S c a l) (hm : (a : Int) ∉ S ++ l) : WK row S c (row[a]'h.1).toNat (l ++ [(a : Int)]) := by
  have hlen := h.len
  obtain ⟨h1, h2, h3, h4⟩ := h
  have hx := hr _ (List.getElem_mem h1)
  refine ⟨by omega, ?_, fun x hx => ?_, ?_⟩
  · rw [List.nodup_append]
    refine ⟨h2, by simp, fun x hx b hb hab => hm ?_⟩
    rw [List.mem_singleton] at hb
    rw [List.mem_append, ← hb, ← hab]; exact .inr hx
  · rcases List.mem_append.1 hx with hx | hx
    · exact h3 x hx
    · rw [List.mem_singleton] at hx; omega
  · have e1 : row.length + 1 - (l ++ [(a : Int)]).length = row.length - l.length := by rw [List.length_append, List.length_singleton]; omega
    rw [show row.length + 1 - l.length = (row.length - l.length) + 1 by omega, wlk, if_neg hm] at h4
    rw [e1]
    refine Eq.trans ?_ h4
    congr 1
    unfold nx
    rw [Int.toNat_natCast, List.getD_eq_getElem?_getD, List.getElem?_eq_getElem h1, Option.getD_some]
    omega
theorem WK.zero {row S : List Int} {k : Nat} (h : k < row.length) : WK row S k k [] := ⟨h, by simp, by simp, rfl⟩
theorem wlk_len (row S : List Int) : ∀ (k : Nat) (c : Int) (l : List Int), l.length ≤ (wlk row S k c l).length
  | 0, _, l => Nat.le_refl _
  | k + 1, c, l => by
    unfold wlk
    split
    · exact Nat.le_refl _
    · have := wlk_len row S k (nx row c) (l ++ [c])
      rw [List.length_append] at this
      exact Nat.le_trans (Nat.le_add_right _ _) this
theorem lpH_s1 {row S l : List Int} {L : List (List Int)} {k : Nat} (hL : lpH row k = L) (hS : L.flatten = S) (h : wlk row S (row.length + 1) k [] = l) (h0 : 0 < l.length) : lpH row (k + 1) = L ++ [l] := by
  have : (k : Int) ∉ S := fun hm => by
    rw [wlk, if_pos (by simpa using hm)] at h
    subst h; simp at h0
  rw [lpH, hL, hS, if_neg this, h]
theorem lpH_s0 {row S : List Int} {L : List (List Int)} {k : Nat} (hL : lpH row k = L) (hS : L.flatten = S) (h : wlk row S (row.length + 1) k [] = []) : lpH row (k + 1) = L := by
  have : (k : Int) ∈ S := Classical.byContradiction fun hm => by
    rw [wlk, if_neg (by simpa using hm)] at h
    have := wlk_len row S row.length (nx row k) ([] ++ [(k : Int)])
    rw [h] at this
    simp at this
  rw [lpH, hL, hS, if_pos this]
theorem lpH_len (row : List Int) : ∀ k, (lpH row k).length ≤ k
  | 0 => Nat.le_refl _
  | k + 1 => by
    have := lpH_len row k
    unfold lpH
    split
    · omega
    · rw [List.length_append, List.length_singleton]; omega
@[simp] theorem allSz_ints (l : List (List Int)) : allSz 1 (l.map ints) = true := allSz_map (f := ints) (n := 1) (fun _ => rfl) l
@[simp] theorem allOne_ints (l : List (List Int)) : allOne (l.map ints) = true := allOne_map (f := ints) (fun _ => rfl) l
theorem p110 (row : List Int) (hb : rowB row = true) : VPure Tryz.prog 110 [ints row] fun r => r = .vec ((lpH row row.length).map ints) := by
  have hR := rowB_iff.1 hb
  have hl : row.length ≤ 24 := hR.2.2
  have hl1 : 1 ≤ row.length := hR.2.1
  have hsn := seenV_nil row.length
  have hl2 : ((row.length : Nat) : Int) ≤ 4294967296 := by omega
  refine .of_body Tryz.func110 rfl rfl ?_
  refine .seq ?_
  refine .rn ?_
  refine .seq ?_
  refine .rn ?_
  refine .seq ?_
  refine .rn ?_
  refine .seq ?_
  refine .seq ?_
  refine .rn ?_
  refine .block ?_
  refine .loopS (fun k : Nat => ([(0, ints row),(3, .grow 1 (lpH row k).length true),(4, .own 0 0 row.length row.length),(12, .int .i64 row.length),(13, .int .i64 k)], ⟨2,[(1, .grow 1 ((lpH row k).map ints)),(0, .arr false 1 (seenV row.length (lpH row k).flatten))]⟩)) (fun k => k ≤ row.length) (fun k => row.length - k) 0 (by simp) (.mk [] [] zz4 zz5 rfl rfl rfl) ?_
  rintro k hk
  simp only at hk ⊢
  obtain ⟨L, hL⟩ : ∃ L, lpH row k = L := ⟨_, rfl⟩
  obtain ⟨S, hS⟩ : ∃ S, L.flatten = S := ⟨_, rfl⟩
  have hLl := lpH_len row k
  rw [hL] at hLl
  rw [hL, hS]
  refine .seq ?_
  refine .rn ?_
  refine .seq ?_
  refine .condS rfl (fun c14 => ?_) (fun c14 => ?_)
  · try simp at c14
    have hw2 : IntKind.i64.wrap ((k : Int) + 1) = (k : Int) + 1 := wrap64 (by omega) (by omega)
    refine .skip ?_
    refine .seq ?_
    refine .block ?_
    refine .seq ?_
    refine .rn ?_
    refine .seq ?_
    refine .rn ?_
    refine .seq ?_
    refine .seq ?_
    refine .rn ?_
    refine .block ?_
    refine .loopS (fun s : Nat × List Int => ([(0, ints row),(3, .grow 1 L.length true),(4, .own 0 0 row.length row.length),(6, .grow 2 s.2.length true),(7, .int .i64 s.1),(12, .int .i64 row.length),(13, .int .i64 k)], ⟨3,[(2, .grow 1 (s.2.map (.int .i64))),(1, .grow 1 (L.map ints)),(0, .arr false 1 (seenV row.length (S ++ s.2)))]⟩)) (fun s => WK row S k s.1 s.2) (fun s => row.length + 1 - s.2.length) (k, []) (WK.zero c14) (.mk [] [] zz4 zz5 rfl rfl rfl) ?_
    rintro ⟨a, l⟩ hW
    simp only at hW ⊢
    have hWa := hW.1
    have hWa2 : a + 1 ≤ row.length := hWa
    have hWl := hW.len
    have hget := seenV_at row.length (S ++ l) a hWa
    have hW2 : (l.length : Int) + 1 ≤ 4294967296 := by omega
    have hW3 : l.length + 1 ≤ 4294967296 := by omega
    refine .seq ?_
    refine .seq ?_
    refine .rn ?_
    refine .condS rfl (fun c21 => ?_) (fun c21 => ?_)
    · try simp at c21
      have hN := hW.next hR.1.2 (fun h => by rcases List.mem_append.1 h with h | h; exact c21.1 h; exact c21.2 h)
      have hput := seenV_put row.length (S ++ l) a hWa
      have hx := hR.1.2 _ (List.getElem_mem hWa)
      have hxt : ((row[a].toNat : Nat) : Int) = row[a] := Int.toNat_of_nonneg hx.1
      refine .skip ?_
      refine .seq ?_
      refine .block ?_
      refine .seq ?_
      refine .rn ?_
      refine .rn ?_
      refine .rn ?_
      refine ⟨(row[a].toNat, l ++ [(a : Int)]), hN, by simp; omega, (.mk [] [(2,4)] zz4 zz5 rfl rfl rfl)⟩
    · try simp at c21
      have hst := hW.stop (by rw [List.mem_append]; exact Classical.or_iff_not_imp_left.2 c21)
      refine .exit ?_
      refine .seq ?_
      refine .rn ?_
      refine .condS rfl (fun c35 => ?_) (fun c35 => ?_)
      · try simp at c35
        have hk2 := lpH_s1 hL hS hst c35
        have hf2 : (lpH row (k + 1)).flatten = S ++ l := by rw [hk2, List.flatten_append, hS]; simp
        have hLl2 : L.length + 1 ≤ 4294967296 := by omega
        refine .rec (vts2 := [(0, ints row),(3, .grow 1 L.length true),(4, .own 0 0 row.length row.length),(6, ints l),(12, .int .i64 row.length),(13, .int .i64 k)]) (vh2 := ⟨2,[(1, .grow 1 (L.map ints)),(0, .arr false 1 (seenV row.length (S ++ l)))]⟩) (.mk [2] [] zz4 zz5 rfl rfl rfl) ?_
        refine .rn ?_
        refine .rn ?_
        refine ⟨k + 1, c14,zz3,(.mk [] [(1,3)] zz4 zz5 rfl rfl rfl)⟩
      · try simp at c35
        have hl0 : l = [] := by simpa using c35
        subst hl0
        have hk2 := lpH_s0 hL hS hst
        refine .skip ?_
        refine .rn ?_
        refine ⟨k + 1, c14,zz3,(.mk [] [] zz4 zz5 rfl rfl rfl)⟩
  · try simp at c14
    refine .exit ?_
    refine .seq ?_
    refine .rn ?_
    refine .ret ?_
    refine ⟨_, _, zz2,zz2, ?_⟩
    have hkn : k = row.length := by omega
    subst hkn
    rw [hL]
end Go.Am.Hi
end

section
namespace Go.Am.Hi
open Go Go.Am Go.Proofs
set_option maxRecDepth 100000
set_option maxHeartbeats 4000000
set_option linter.unusedSimpArgs false
set_option linter.unusedVariables false
attribute [local simp] vrun vwanted vyielded vop vopA vputAll VHeap.back hidI hidF backL bm Nat.testBit_eq_decide_div_mod_eq veval vevals vparts vO vbuiltin vlen vappend velems vcopy vmakeSlice vbuildSlice valloc vbox vmakeMap vload vpartT vpart vstore vfieldAddr vfield vindexAddr vindex vextract vslice vsliceZ vbounds vbnd zeroO vidx vlookup vmget vmapUpdate vdelete vclear vnilq vnilp vnils vbin vsc vsc1 vscs vscl abinOp aint ashift aunOp aconvert amaxs amax2 pvcV pvc pvcs tput tget vargs VHeap.get VHeap.alloc VHeap.put VHeap.drop VHeap.empty vlook vput vdrop psplice pfill preps chunk List.range List.range.loop vresults vresult vresultV frz frzL PV.isF PV.allF PV.scal PV.allS retP subT allFT PV.one PV.ids PV.idsL dropL beq_eq ble_dec blt_dec
def Soft (r v : PV) : Prop := Alt VHeap.empty 0 (fun _ => true) id r v
theorem VPure.soft {P : Program} {f : FuncId} {args : List PV} {v : PV} (hp : VPure P f args fun r => Soft r v) (hv : v.isF = true) : VPure P f args fun r => r = v := hp.alt fun r h => ⟨v, h, hv, rfl⟩
theorem soft_rfl {v : PV} (h : v.isF = true) : Soft v v := .same v h
theorem soft_tup {l l2 : List PV} (h : AltL VHeap.empty 0 (fun _ => true) id l l2) : Soft (.tup l) (.tup l2) := .tup' h
theorem soft_agg {l l2 : List PV} (h : AltL VHeap.empty 0 (fun _ => true) id l l2) : Soft (.agg l) (.agg l2) := .agg' h
theorem wlk_le (row S : List Int) : ∀ (k : Nat) (c : Int) (l : List Int),(wlk row S k c l).length ≤ l.length + k
  | 0, _, l => Nat.le_refl _
  | k + 1, c, l => by
    unfold wlk
    split
    · omega
    · have := wlk_le row S k (nx row c) (l ++ [c])
      rw [List.length_append, List.length_singleton] at this
      omega
theorem lpR_len (row : List Int) : ∀ k, (lpR row k).length ≤ k
  | 0 => Nat.le_refl _
  | k + 1 => by
    have := lpR_len row k
    unfold lpR
    split
    · omega
    · rw [List.length_append, List.length_singleton]; omega
theorem lpR_flat (row : List Int) : ∀ k, (lpR row k).flatten.length ≤ k * (row.length + 1)
  | 0 => Nat.zero_le _
  | k + 1 => by
    have := lpR_flat row k
    rw [Nat.succ_mul]
    unfold lpR
    split
    · omega
    · have h2 := wlk_le row [] (row.length + 1) k []
      rw [List.flatten_append, List.length_append]
      simp only [List.flatten_cons, List.flatten_nil, List.append_nil, List.length_nil] at h2 ⊢
      omega
theorem lpR_s1 {row S l : List Int} {L : List (List Int)} {k : Nat} (hL : lpR row k = L) (hS : L.flatten = S) (h : wlk row [] (row.length + 1) k [] = l) (hk : (k : Int) ∉ S) : lpR row (k + 1) = L ++ [l] := by
  rw [lpR, hL, hS, if_neg hk, h]
theorem lpR_s0 {row S : List Int} {L : List (List Int)} {k : Nat} (hL : lpR row k = L) (hS : L.flatten = S) (hk : (k : Int) ∈ S) : lpR row (k + 1) = L := by
  rw [lpR, hL, hS, if_pos hk]
def lpsE (row : List Int) : Int := if rowB row then 0 else 1
def lpsH (row : List Int) : List (List Int) := if rowB row then lpH row row.length else []
def lpsR (row : List Int) : List (List Int) := if rowB row then lpR row row.length else []
theorem p42 (row : List Int) (hl : row.length < 4294967296) : VPure Tryz.prog 42 [ints row] fun r => Soft r (.tup [.vec ((lpsH row).map ints), .int .i64 (lpsE row)]) := by
  refine .of_body Tryz.func42 rfl rfl ?_
  refine .seq ?_
  refine .rn ?_
  refine .seq ?_
  refine .seq ?_
  refine .regionL [0,1,2] rfl zz0 ?_
  refine .rn [0] [1,2] ?_
  refine .step rfl rfl (.pure rfl rfl rfl Tryz.call109 (by decide) (p109 row hl) (by first | rfl | simp [*]) ?_)
  rintro _ rfl
  refine .rn [2] [] ?_
  refine .done ?_
  refine .seq ?_
  refine .rn ?_
  refine .condS rfl (fun c8 => ?_) (fun c8 => ?_)
  · try simp at c8
    refine .seq ?_
    refine .rn ?_
    refine .ret ?_
    refine ⟨_, _, zz2,zz2, ?_⟩
    simp [lpsH, lpsE, c8]
    exact soft_tup (AltL.cons .sl0v (AltL.cons (.same _ rfl) AltL.nil))
  · try simp at c8
    refine .skip ?_
    refine .seq ?_
    refine .regionL [0,1,2,3] rfl zz0 ?_
    refine .rn [0] [1,2,3] ?_
    refine .step rfl rfl (.pure rfl rfl rfl Tryz.call110 (by decide) (p110 row c8) (by first | rfl | simp [*]) ?_)
    rintro _ rfl
    refine .rn [2,3] [] ?_
    refine .done ?_
    refine .ret ?_
    refine ⟨_, _, zz2,zz2, ?_⟩
    simp [lpsH, lpsE, c8]
    exact soft_rfl rfl
theorem p43 (row : List Int) (hl : row.length < 4294967296) : VPure Tryz.prog 43 [ints row] fun r => Soft r (.agg [.vec ((lpsR row).map ints), .int .i64 (lpsE row)]) := by
  refine .of_body Tryz.func43 rfl rfl ?_
  refine .seq ?_
  refine .rn ?_
  refine .seq ?_
  refine .regionL [0,1,2] rfl zz0 ?_
  refine .rn [0] [1,2] ?_
  refine .step rfl rfl (.pure rfl rfl rfl Tryz.call111 (by decide) (p111 row hl) (by first | rfl | simp [*]) ?_)
  rintro _ rfl
  refine .rn [2] [] ?_
  refine .done ?_
  refine .seq ?_
  refine .seq ?_
  refine .rn ?_
  refine .condS rfl (fun c13 => ?_) (fun c13 => ?_)
  · try simp at c13
    refine .seq ?_
    refine .rn ?_
    refine .ret ?_
    refine ⟨_, _, zz2,zz2, ?_⟩
    simp [lpsR, lpsE, c13]
    exact soft_agg (AltL.cons .sl0v (AltL.cons (.same _ rfl) AltL.nil))
  · try simp at c13
    have hR := rowB_iff.1 c13
    have hln : row.length ≤ 24 := hR.2.2
    have hl1 : 1 ≤ row.length := hR.2.1
    refine .skip ?_
    refine .seq ?_
    refine .rn ?_
    refine .seq ?_
    refine .rn ?_
    refine .seq ?_
    refine .seq ?_
    refine .rn ?_
    refine .block ?_
    refine .loopS (fun k : Nat => ([(0, ints row),(2, .ptr 0 0),(4, .ptr 1 0),(5, .grow 2 (lpR row k).flatten.length true),(6, .int .i64 k)], ⟨4,[(3, .grow 1 ((lpR row k).map ints)),(2, .grow 1 ((lpR row k).flatten.map (.int .i64))),(1, .box [.grow 3 (lpR row k).length true, .int .i64 0]),(0, .box [.sl0, .int .i64 0])]⟩)) (fun k => k ≤ row.length) (fun k => row.length - k) 0 (by simp) (.mk [] [] zz4 zz5 rfl rfl rfl) ?_
    rintro k hk
    simp only at hk ⊢
    obtain ⟨L, hL⟩ : ∃ L, lpR row k = L := ⟨_, rfl⟩
    obtain ⟨S, hS⟩ : ∃ S, L.flatten = S := ⟨_, rfl⟩
    have hLl := lpR_len row k
    have hSl := lpR_flat row k
    rw [hL] at hLl
    rw [hL, hS] at hSl
    have hSl2 : S.length ≤ 24 * 25 := Nat.le_trans hSl (Nat.mul_le_mul (by omega) (by omega))
    rw [hL, hS]
    refine .seq ?_
    refine .seq ?_
    refine .rn ?_
    refine .condS rfl (fun c19 => ?_) (fun c19 => ?_)
    · try simp at c19
      have hw2 : IntKind.i64.wrap ((k : Int) + 1) = (k : Int) + 1 := wrap64 (by omega) (by omega)
      refine .skip ?_
      refine .seq ?_
      refine .block ?_
      refine .seq ?_
      refine .regionL [0,1,2,3] rfl zz0 ?_
      refine .rn [0,1] [2,3] ?_
      refine .step rfl rfl (.borrow rfl rfl rfl Tryz.call107 (by decide) (by first | (simp <;> rfl) | (simp [*] <;> rfl) | (simp [*]; done)) (p107 S k (by omega)) (by rintro _ rfl <;> first | (simp; done) | rfl) ?_)
      rintro _ rfl
      refine .rn [3] [] ?_
      refine .done ?_
      refine .seq ?_
      refine .seq ?_
      refine .rn ?_
      refine .condS rfl (fun c25 => ?_) (fun c25 => ?_)
      · try simp at c25
        have hk2 := lpR_s0 hL hS c25
        refine .exit ?_
        refine .rn ?_
        refine ⟨k + 1, c19,zz3,(.mk [] [] zz4 zz5 rfl rfl rfl)⟩
      · try simp at c25
        refine .skip ?_
        refine .seq ?_
        refine .rn ?_
        refine .seq ?_
        refine .rn ?_
        refine .seq ?_
        refine .block ?_
        refine .loopS (fun s : Nat × List Int => ([(0, ints row),(2, .ptr 0 0),(4, .ptr 1 0),(5, .grow 2 S.length true),(6, .int .i64 k),(8, .grow 4 s.2.length true),(9, .int .i64 s.1)], ⟨5,[(4, .grow 1 (s.2.map (.int .i64))),(3, .grow 1 (L.map ints)),(2, .grow 1 (S.map (.int .i64))),(1, .box [.grow 3 L.length true, .int .i64 0]),(0, .box [.sl0, .int .i64 0])]⟩)) (fun s => WK row [] k s.1 s.2) (fun s => row.length + 1 - s.2.length) (k, []) (WK.zero c19) (.mk [] [] zz4 zz5 rfl rfl rfl) ?_
        rintro ⟨a, l⟩ hW
        simp only at hW ⊢
        have hWa := hW.1
        have hWl := hW.len
        have hW2 : (l.length : Int) + 1 ≤ 4294967296 := by omega
        have hW3 : l.length + 1 ≤ 4294967296 := by omega
        refine .seq ?_
        refine .seq ?_
        refine .regionL [0,1,2,3] rfl zz0 ?_
        refine .rn [0,1] [2,3] ?_
        refine .step rfl rfl (.borrow rfl rfl rfl Tryz.call107 (by decide) (by first | (simp <;> rfl) | (simp [*] <;> rfl) | (simp [*]; done)) (p107 l a (by omega)) (by rintro _ rfl <;> first | (simp; done) | rfl) ?_)
        rintro _ rfl
        refine .rn [3] [] ?_
        refine .done ?_
        refine .condS rfl (fun c30 => ?_) (fun c30 => ?_)
        · try simp at c30
          have hN := hW.next hR.1.2 (by simpa using c30)
          have hx := hR.1.2 _ (List.getElem_mem hWa)
          have hxt : ((row[a].toNat : Nat) : Int) = row[a] := Int.toNat_of_nonneg hx.1
          refine .skip ?_
          refine .block ?_
          refine .seq ?_
          refine .rn ?_
          refine .rn ?_
          refine ⟨(row[a].toNat, l ++ [(a : Int)]), hN, by simp; omega, (.mk [] [(4,6)] zz4 zz5 rfl rfl rfl)⟩
        · try simp at c30
          have hst := hW.stop (by simpa using c30)
          have hk2 := lpR_s1 hL hS hst c25
          have hf2 : (lpR row (k + 1)).flatten = S ++ l := by rw [hk2, List.flatten_append, hS]; simp
          have hLl2 : L.length + 1 ≤ 4294967296 := by omega
          have hSl3 : S.length + l.length ≤ 4294967296 := by omega
          refine .exit ?_
          refine .seq ?_
          refine .rec (vts2 := [(0, ints row),(2, .ptr 0 0),(4, .ptr 1 0),(5, .grow 2 S.length true),(6, .int .i64 k),(8, ints l)]) (vh2 := ⟨4,[(3, .grow 1 (L.map ints)),(2, .grow 1 (S.map (.int .i64))),(1, .box [.grow 3 L.length true, .int .i64 0]),(0, .box [.sl0, .int .i64 0])]⟩) (.mk [4] [] zz4 zz5 rfl rfl rfl) ?_
          refine .rn ?_
          refine .rn ?_
          refine .rn ?_
          refine ⟨k + 1, c19,zz3,(.mk [] [(2,6),(3,5)] zz4 zz5 rfl rfl rfl)⟩
    · try simp at c19
      refine .exit ?_
      refine .seq ?_
      refine .rn ?_
      refine .ret ?_
      have hkn : k = row.length := by omega
      subst hkn
      refine ⟨_, _, zz2,zz2, ?_⟩
      simp [lpsR, lpsE, c13, hL]
      exact soft_rfl rfl
theorem p42' (row : List Int) (hl : row.length < 4294967296) : VPure Tryz.prog 42 [ints row] fun r => r = .tup [.vec ((lpsH row).map ints), .int .i64 (lpsE row)] := VPure.soft (p42 row hl) rfl
theorem p43' (row : List Int) (hl : row.length < 4294967296) : VPure Tryz.prog 43 [ints row] fun r => r = .agg [.vec ((lpsR row).map ints), .int .i64 (lpsE row)] := VPure.soft (p43 row hl) rfl
end Go.Am.Hi
end

section
namespace Go.Am.Hi
open Go Go.Am Go.Proofs
set_option maxRecDepth 100000
set_option maxHeartbeats 4000000
set_option linter.unusedSimpArgs false
set_option linter.unusedVariables false
attribute [local simp] vrun vwanted vyielded vop vopA vputAll VHeap.back hidI hidF backL bm Nat.testBit_eq_decide_div_mod_eq veval vevals vparts vO vbuiltin vlen vappend velems vcopy vmakeSlice vbuildSlice valloc vbox vmakeMap vload vpartT vpart vstore vfieldAddr vfield vindexAddr vindex vextract vslice vsliceZ vbounds vbnd zeroO vidx vlookup vmget vmapUpdate vdelete vclear vnilq vnilp vnils vbin vsc vsc1 vscs vscl abinOp aint ashift aunOp aconvert amaxs amax2 pvcV pvc pvcs tput tget vargs VHeap.get VHeap.alloc VHeap.put VHeap.drop VHeap.empty vlook vput vdrop psplice pfill preps chunk List.range List.range.loop vresults vresult vresultV frz frzL PV.isF PV.allF PV.scal PV.allS retP subT allFT PV.one PV.ids PV.idsL dropL beq_eq ble_dec blt_dec
theorem flat_int (k : IntKind) : ∀ l : List Int, (l.map (PV.int k)).flatMap PV.cells = l.map (PV.int k)
  | [] => rfl
  | a :: r => by simp only [List.map_cons, List.flatMap_cons, flat_int k r]; rfl
@[simp] theorem all_one_int (k : IntKind) (l : List Int) : (l.map (PV.int k)).all PV.one = true := by simp [PV.one]
theorem frz_own_int (vh : VHeap) (i k : Nat) (l : List Int) (hg : vh.get i = some (.arr false 1 (l.map (PV.int .i64)))) : frz vh (.own i 0 l.length k) = some (ints l) := by
  by_cases h : l.length = 0
  · have := List.eq_nil_of_length_eq_zero h
    subst this; rfl
  · have h1 : Nat.beq l.length 0 = false := by rw [beq_eq]; simpa using h
    have h2 : (l.map (PV.int .i64)).take l.length = l.map (PV.int .i64) := by
      have := List.take_length (l := l.map (PV.int .i64)); simpa using this
    simp only [frz, h1, cond_false, hg, velems]
    simp only [all_one_int, beq_eq, ble_dec, List.drop_zero, chunk, cond_false, h2, List.length_map]
    simp
theorem vcopy_ints (P : Program) (t e : TypeId) (vh : VHeap) (i : Nat) (l : List Int) (ht : telem P t = some (e, 1)) (hg : vh.get i = some (.arr false 1 (preps [.int .i64 0] l.length))) :
    vcopy P vh t (.own i 0 l.length l.length) (ints l) = some (.int .i64 l.length, vh.put i (.arr false 1 (l.map (PV.int .i64)))) := by
  have h1 : velems vh 1 (ints l) = some (l.map (PV.int .i64)) := by simp [velems]
  simp only [vcopy, ht, h1, hg, preps1]
  have h2 : (l.map (PV.int .i64)).take l.length = l.map (PV.int .i64) := by
    have := List.take_length (l := l.map (PV.int .i64)); simpa using this
  rw [h2, flat_int]
  have h3 : psplice (List.replicate l.length (PV.int .i64 0)) 0 (l.map (PV.int .i64)) = l.map (PV.int .i64) := by simp [psplice]
  rw [h3]
  simp [blt_dec, ble_dec]
def encX (x : Int × Int) : PV := .agg [.int .i64 x.1, .int .i64 x.2]
@[simp] theorem encX_cells (x : Int × Int) : (encX x).cells = [.int .i64 x.1, .int .i64 x.2] := rfl
@[simp] theorem encX_isF (x : Int × Int) : (encX x).isF = true := rfl
def swp (r : List Int) (x : Int × Int) : List Int := (r.set x.1.toNat (r.getD x.2.toNat 0)).set x.2.toNat (r.getD x.1.toNat 0)
def exch (r : List Int) (l : List (Int × Int)) : List Int := l.foldl swp r
@[simp] theorem swp_len (r : List Int) (x : Int × Int) : (swp r x).length = r.length := by simp [swp]
theorem exch_len : ∀ (l : List (Int × Int)) (r : List Int),(exch r l).length = r.length
  | [], _ => rfl
  | x :: l, r => by
    have := exch_len l (swp r x)
    rw [swp_len] at this
    exact this
theorem exch_succ (r : List Int) (l : List (Int × Int)) (k : Nat) (h : k < l.length) : exch r (l.take (k + 1)) = swp (exch r (l.take k)) l[k] := by
  unfold exch
  rw [List.take_succ_eq_append_getElem h, List.foldl_append]; rfl
theorem set_put (r : List Int) (a : Nat) (y : Int) (h : a < r.length) : (r.map (PV.int .i64)).take a ++ PV.int .i64 y :: (r.map (PV.int .i64)).drop (a + 1) = (r.set a y).map (PV.int .i64) := by
  rw [List.map_set, List.set_eq_take_append_cons_drop, if_pos (by simpa using h)]
def okX (n : Nat) (l : List (Int × Int)) : Prop := ∀ x ∈ l, (0 ≤ x.1 ∧ x.1 ≤ (n : Int) - 1) ∧ 0 ≤ x.2 ∧ x.2 ≤ (n : Int) - 1
theorem okX_at {n : Nat} {l : List (Int × Int)} (h : okX n l) {k : Nat} (hk : k < l.length) : ∃ a b : Nat, l[k] = ((a : Int),(b : Int)) ∧ a < n ∧ b < n := by
  obtain ⟨h1, h2⟩ := h _ (List.getElem_mem hk)
  refine ⟨(l[k]).1.toNat, (l[k]).2.toNat, ?_, by omega, by omega⟩
  rw [Int.toNat_of_nonneg h1.1, Int.toNat_of_nonneg h2.1]
theorem swp_nat (r : List Int) (a b : Nat) (ha : a < r.length) (hb : b < r.length) : swp r ((a : Int),(b : Int)) = (r.set a r[b]).set b r[a] := by
  simp [swp, ha, hb]
def goodX (n : Nat) (x : Int × Int) : Bool := (decide (0 ≤ x.1) && decide (x.1 ≤ (n : Int) - 1)) && (decide (0 ≤ x.2) && decide (x.2 ≤ (n : Int) - 1)) && !decide (x.1 = x.2)
theorem goodX_ok {n : Nat} {x : Int × Int} (h1 : 0 ≤ x.1 ∧ x.1 ≤ (n : Int) - 1) (h2 : 0 ≤ x.2 ∧ x.2 ≤ (n : Int) - 1) (h3 : ¬x.1 = x.2) : goodX n x = true := by
  simp [goodX, h1, h2, h3]
def exE (row : List Int) (l : List (Int × Int)) : Int := if rowB row then (if 120 < l.length then 2 else if l.all (goodX row.length) then 0 else 1) else 1
theorem take_all {α : Type} {p : α → Prop} {l : List α} {k : Nat} (h : ∀ x ∈ l.take k, p x) (hk : k < l.length) (h1 : p l[k]) : ∀ x ∈ l.take (k + 1), p x := fun x hx => by
  rw [List.take_succ_eq_append_getElem hk] at hx
  rcases List.mem_append.1 hx with hx | hx
  · exact h x hx
  · rw [List.mem_singleton] at hx; rw [hx]; exact h1
theorem exE_bad {row : List Int} {l : List (Int × Int)} {k : Nat} (h1 : rowB row = true) (h2 : ¬120 < l.length) (hk : k < l.length) (h3 : goodX row.length l[k] = false) : exE row l = 1 := by
  have : l.all (goodX row.length) = false := Bool.eq_false_iff.2 fun h => by
    have := List.all_eq_true.1 h _ (List.getElem_mem hk)
    rw [h3] at this; cases this
  simp [exE, h1, h2, this]
theorem exE_ok {row : List Int} {l : List (Int × Int)} (h1 : rowB row = true) (h2 : ¬120 < l.length) (h3 : ∀ x ∈ l.take l.length, goodX row.length x = true) : exE row l = 0 := by
  rw [List.take_length] at h3
  simp [exE, h1, h2, List.all_eq_true.2 h3]
theorem p113 (row : List Int) (l : List (Int × Int)) (hn : row.length ≤ 24) (hl : l.length < 4294967296) (ho : okX row.length l) : VPure Tryz.prog 113 [ints row, .vec (l.map encX)] fun r => r = ints (exch row l) := by
  have hl2 : ((row.length : Nat) : Int) ≤ 4294967296 := by omega
  refine .of_body Tryz.func113 rfl rfl ?_
  refine .seq ?_
  refine .run zz0 (by simp [*, -vcopy, -preps, vcopy_ints] <;> first | exact ⟨rfl, rfl⟩ | exact rfl) ?_
  refine .seq ?_
  refine .run zz0 (by simp [*, -vcopy, -preps, vcopy_ints] <;> first | exact ⟨rfl, rfl⟩ | exact rfl) ?_
  refine .seq ?_
  refine .run zz0 (by simp [*, -vcopy, -preps, vcopy_ints] <;> first | exact ⟨rfl, rfl⟩ | exact rfl) ?_
  refine .seq ?_
  refine .seq ?_
  refine .run zz0 (by simp [*, -vcopy, -preps, vcopy_ints] <;> first | exact ⟨rfl, rfl⟩ | exact rfl) ?_
  refine .block ?_
  refine .loopS (fun k : Nat => ([(5, .own 0 0 row.length row.length),(14, .vec (l.map encX)),(15, .int .i64 l.length),(16, .int .i64 k)], ⟨1,[(0, .arr false 1 ((exch row (l.take k)).map (.int .i64)))]⟩)) (fun k => k ≤ l.length) (fun k => l.length - k) 0 (by simp) (.mk [] [] zz4 zz5 rfl rfl rfl) ?_
  rintro k hk
  simp only at hk ⊢
  obtain ⟨R, hR⟩ : ∃ R, exch row (l.take k) = R := ⟨_, rfl⟩
  have hRl : R.length = row.length := by rw [← hR, exch_len]
  rw [hR]
  refine .seq ?_
  refine .run zz0 (by simp [*, -vcopy, -preps, vcopy_ints] <;> first | exact ⟨rfl, rfl⟩ | exact rfl) ?_
  refine .seq ?_
  refine .condS rfl (fun c17 => ?_) (fun c17 => ?_)
  · try simp at c17
    have hw2 : IntKind.i64.wrap ((k : Int) + 1) = (k : Int) + 1 := wrap64 (by omega) (by omega)
    obtain ⟨a, b, hx, ha, hb⟩ := okX_at ho c17
    have haR : a < R.length := by omega
    have hbR : b < R.length := by omega
    have ha2 : a + 1 ≤ row.length := by omega
    have hb2 : b + 1 ≤ row.length := by omega
    have hE : encX l[k] = .agg [.int .i64 a, .int .i64 b] := by rw [hx]; rfl
    have hS : exch row (l.take (k + 1)) = (R.set a R[b]).set b R[a] := by rw [exch_succ _ _ _ c17, hR, hx, swp_nat _ _ _ haR hbR]
    have hp1 := set_put R a R[b] haR
    have hp2 := set_put (R.set a R[b]) b R[a] (by simpa using hbR)
    rw [List.map_set] at hp2
    refine .skip ?_
    refine .seq ?_
    refine .block ?_
    refine .seq ?_
    refine .run zz0 (by simp [*, -vcopy, -preps, vcopy_ints] <;> first | exact ⟨rfl, rfl⟩ | exact rfl) ?_
    refine .drawn (ms := [0,0,2,0,0,16,0,0,128,448,960,0,0,4096,14336,30720,65479,131015,262143,524287]) (W := [17,19]) (items := [.op 0, .op 1, .op 2, .op 3, .op 4, .op 5, .op 6, .op 7, .op 8, .op 9, .op 10, .op 11, .op 12, .op 13, .op 14, .op 15, .op 16, .op 17, .ck 5, .op 18, .op 19]) rfl zz0 zz0 zz0 ?_
    refine .rd rfl rfl (by decide) rfl (by decide) (by simp [*, -vcopy, -preps, vcopy_ints] <;> first | exact ⟨rfl, rfl⟩ | exact rfl) ?_   -- 0
    refine .rd rfl rfl (by decide) rfl (by decide) (by simp [*, -vcopy, -preps, vcopy_ints] <;> first | exact ⟨rfl, rfl⟩ | exact rfl) ?_   -- 1
    refine .rd rfl rfl (by decide) rfl (by decide) (by simp [*, -vcopy, -preps, vcopy_ints] <;> first | exact ⟨rfl, rfl⟩ | exact rfl) ?_   -- 2
    refine .rd rfl rfl (by decide) rfl (by decide) (by simp [*, -vcopy, -preps, vcopy_ints] <;> first | exact ⟨rfl, rfl⟩ | exact rfl) ?_   -- 3
    refine .rd rfl rfl (by decide) rfl (by decide) (by simp [*, -vcopy, -preps, vcopy_ints] <;> first | exact ⟨rfl, rfl⟩ | exact rfl) ?_   -- 4
    refine .rd rfl rfl (by decide) rfl (by decide) (by simp [*, -vcopy, -preps, vcopy_ints] <;> first | exact ⟨rfl, rfl⟩ | exact rfl) ?_   -- 5
    refine .rd rfl rfl (by decide) rfl (by decide) (by simp [*, -vcopy, -preps, vcopy_ints] <;> first | exact ⟨rfl, rfl⟩ | exact rfl) ?_   -- 6
    refine .rd rfl rfl (by decide) rfl (by decide) (by simp [*, -vcopy, -preps, vcopy_ints] <;> first | exact ⟨rfl, rfl⟩ | exact rfl) ?_   -- 7
    refine .rd rfl rfl (by decide) rfl (by decide) (by simp [*, -vcopy, -preps, vcopy_ints] <;> first | exact ⟨rfl, rfl⟩ | exact rfl) ?_   -- 8
    refine .rd rfl rfl (by decide) rfl (by decide) (by simp [*, -vcopy, -preps, vcopy_ints] <;> first | exact ⟨rfl, rfl⟩ | exact rfl) ?_   -- 9
    refine .rd rfl rfl (by decide) rfl (by decide) (by simp [*, -vcopy, -preps, vcopy_ints] <;> first | exact ⟨rfl, rfl⟩ | exact rfl) ?_   -- 10
    refine .rd rfl rfl (by decide) rfl (by decide) (by simp [*, -vcopy, -preps, vcopy_ints] <;> first | exact ⟨rfl, rfl⟩ | exact rfl) ?_   -- 11
    refine .rd rfl rfl (by decide) rfl (by decide) (by simp [*, -vcopy, -preps, vcopy_ints] <;> first | exact ⟨rfl, rfl⟩ | exact rfl) ?_   -- 12
    refine .rd rfl rfl (by decide) rfl (by decide) (by simp [*, -vcopy, -preps, vcopy_ints] <;> first | exact ⟨rfl, rfl⟩ | exact rfl) ?_   -- 13
    refine .rd rfl rfl (by decide) rfl (by decide) (by simp [*, -vcopy, -preps, vcopy_ints] <;> first | exact ⟨rfl, rfl⟩ | exact rfl) ?_   -- 14
    refine .rd rfl rfl (by decide) rfl (by decide) (by simp [*, -vcopy, -preps, vcopy_ints] <;> first | exact ⟨rfl, rfl⟩ | exact rfl) ?_   -- 15
    refine .rd rfl rfl (by decide) rfl (by decide) (by simp [*, -vcopy, -preps, vcopy_ints] <;> first | exact ⟨rfl, rfl⟩ | exact rfl) ?_   -- 16
    refine .wr rfl rfl (by decide) (.stor (todo' := [5]) rfl rfl rfl rfl (by simp [*, -vcopy, -preps, vcopy_ints] <;> first | exact ⟨rfl, rfl⟩ | exact rfl) rfl (⟨⟨by decide +kernel, _, _, rfl, (by simp [*, -vcopy, -preps, vcopy_ints] <;> first | exact ⟨rfl, rfl⟩ | exact rfl)⟩, trivial⟩) ?_)   -- 17
    refine .ck rfl zz0 ?_   -- 5
    refine .rd rfl rfl (by decide) rfl (by decide) (by simp [*, -vcopy, -preps, vcopy_ints] <;> first | exact ⟨rfl, rfl⟩ | exact rfl) ?_   -- 18
    refine .wr rfl rfl (by decide) (.vop (by simp [*, -vcopy, -preps, vcopy_ints] <;> first | exact ⟨rfl, rfl⟩ | exact rfl) (by decide) ?_)   -- 19
    refine .done ?_
    refine .run zz0 (by simp [*, -vcopy, -preps, vcopy_ints] <;> first | exact ⟨rfl, rfl⟩ | exact rfl) ?_
    refine ⟨k + 1, c17,zz3,(.mk [] [] zz4 zz5 rfl rfl rfl)⟩
  · try simp at c17
    have hkn : k = l.length := by omega
    refine .exit ?_
    refine .seq ?_
    refine .run zz0 (by simp [*, -vcopy, -preps, vcopy_ints] <;> first | exact ⟨rfl, rfl⟩ | exact rfl) ?_
    refine .ret ?_
    refine ⟨_, _, zz2,(by rw [← hRl]; exact frz_own_int _ _ _ _ rfl), ?_⟩
    rw [← hR, hkn, List.take_length]
end Go.Am.Hi
end

section
namespace Go.Am.Hi
open Go Go.Am Go.Proofs
set_option maxRecDepth 100000
set_option maxHeartbeats 4000000
set_option linter.unusedSimpArgs false
set_option linter.unusedVariables false
attribute [local simp] vrun vwanted vyielded vop vopA vputAll VHeap.back hidI hidF backL bm Nat.testBit_eq_decide_div_mod_eq veval vevals vparts vO vbuiltin vlen vappend velems vcopy vmakeSlice vbuildSlice valloc vbox vmakeMap vload vpartT vpart vstore vfieldAddr vfield vindexAddr vindex vextract vslice vsliceZ vbounds vbnd zeroO vidx vlookup vmget vmapUpdate vdelete vclear vnilq vnilp vnils vbin vsc vsc1 vscs vscl abinOp aint ashift aunOp aconvert amaxs amax2 pvcV pvc pvcs tput tget vargs VHeap.get VHeap.alloc VHeap.put VHeap.drop VHeap.empty vlook vput vdrop psplice pfill preps chunk List.range List.range.loop vresults vresult vresultV frz frzL PV.isF PV.allF PV.scal PV.allS retP subT allFT PV.one PV.ids PV.idsL dropL beq_eq ble_dec blt_dec
theorem goodX_iff {n : Nat} {x : Int × Int} : goodX n x = true ↔ (0 ≤ x.1 ∧ x.1 ≤ (n : Int) - 1) ∧ (0 ≤ x.2 ∧ x.2 ≤ (n : Int) - 1) ∧ ¬x.1 = x.2 := by
  simp [goodX, and_assoc]
theorem goodX_no {n : Nat} {x : Int × Int} (h : ¬((0 ≤ x.1 ∧ x.1 ≤ (n : Int) - 1) ∧ (0 ≤ x.2 ∧ x.2 ≤ (n : Int) - 1) ∧ ¬x.1 = x.2)) : goodX n x = false := Bool.eq_false_iff.2 fun h2 => h (goodX_iff.1 h2)
theorem p114 (row : List Int) (l : List (Int × Int)) (hn : row.length < 4294967296) (hl : l.length < 4294967296) : VPure Tryz.prog 114 [ints row, .vec (l.map encX)] fun r => r = .int .i64 (exE row l) := by
  refine .of_body Tryz.func114 rfl rfl ?_
  refine .seq ?_
  refine .rn ?_
  refine .seq ?_
  refine .regionL [0,1,2] rfl zz0 ?_
  refine .rn [0] [1,2] ?_
  refine .step rfl rfl (.pure rfl rfl rfl Tryz.call111 (by decide) (p111 row hn) (by first | rfl | simp [*]) ?_)
  rintro _ rfl
  refine .rn [2] [] ?_
  refine .done ?_
  refine .seq ?_
  refine .seq ?_
  refine .rn ?_
  refine .condS rfl (fun c10 => ?_) (fun c10 => ?_)
  · try simp at c10
    refine .seq ?_
    refine .rn ?_
    refine .ret ?_
    refine ⟨_, _, zz2,zz2, ?_⟩
    simp [exE, c10]
  · try simp at c10
    have hR := rowB_iff.1 c10
    have hln : row.length ≤ 24 := hR.2.2
    have hwl : IntKind.i64.wrap ((row.length : Int) - 1) = (row.length : Int) - 1 := wrap64 (by omega) (by omega)
    refine .skip ?_
    refine .seq ?_
    refine .seq ?_
    refine .rn ?_
    refine .condS rfl (fun c13 => ?_) (fun c13 => ?_)
    · try simp at c13
      refine .seq ?_
      refine .rn ?_
      refine .ret ?_
      refine ⟨_, _, zz2,zz2, ?_⟩
      have : 120 < l.length := by omega
      simp [exE, c10, this]
    · try simp at c13
      refine .skip ?_
      refine .seq ?_
      refine .seq ?_
      refine .rn ?_
      refine .block ?_
      refine .loopS (fun k : Nat => ([(0, ints row),(1, .vec (l.map encX)),(6, .int .i64 k)], VHeap.empty)) (fun k => k ≤ l.length ∧ ∀ x ∈ l.take k, goodX row.length x = true) (fun k => l.length - k) 0 (by simp) (.pure (by simp [*]) (by simp)) ?_
      rintro k ⟨hk, hg⟩
      simp only at hk hg ⊢
      refine .seq ?_
      refine .seq ?_
      refine .rn ?_
      refine .condS rfl (fun c17 => ?_) (fun c17 => ?_)
      · try simp at c17
        have hw2 : IntKind.i64.wrap ((k : Int) + 1) = (k : Int) + 1 := wrap64 (by omega) (by omega)
        refine .skip ?_
        refine .seq ?_
        refine .block ?_
        refine .seq ?_
        refine .drawn (ms := [0,0,3,7,15,0,32,96,255,511,1023,2047,2047,8191,16383,32767,2047,67583,198655,524287,1048575,2097151,4194303,8388607,8388607,33554431,67108863,134217727,8388607,8388607,813694975,1887436799,4034920447,8589934591,17179869183]) (W := [8,19]) (items := [.op 0, .op 1, .op 2, .op 3, .op 4, .op 5, .op 6, .op 7, .op 8, .op 9, .op 10, .op 11, .op 12, .op 13, .op 14, .op 15, .op 16, .op 17, .op 18, .op 19, .op 20, .op 21, .op 22, .op 23, .op 24, .op 25, .op 26, .op 27, .op 28, .op 29, .op 30, .op 31, .op 32, .op 33, .op 34]) rfl zz0 zz0 zz0 ?_
        refine .rd rfl rfl (by decide) rfl (by decide) zz1 ?_   -- 0
        refine .rd rfl rfl (by decide) rfl (by decide) zz1 ?_   -- 1
        refine .rd rfl rfl (by decide) rfl (by decide) zz1 ?_   -- 2
        refine .rd rfl rfl (by decide) rfl (by decide) zz1 ?_   -- 3
        refine .rd rfl rfl (by decide) rfl (by decide) zz1 ?_   -- 4
        refine .rd rfl rfl (by decide) rfl (by decide) zz1 ?_   -- 5
        refine .rd rfl rfl (by decide) rfl (by decide) zz1 ?_   -- 6
        refine .rd rfl rfl (by decide) rfl (by decide) zz1 ?_   -- 7
        refine .wr rfl rfl (by decide) (.pure rfl rfl rfl Tryz.call80 (by decide) (p80 l[k].1 0 ((row.length : Int) - 1)) (by first | rfl | simp [*]) ?_)
        rintro _ rfl; refine VScr.td (todo' := [7,6,5,4,3,2,1,0]) ?_ ?_; focus (decide +kernel)
        refine .rd rfl rfl (by decide) rfl (by decide) zz1 ?_   -- 9
        refine .rd rfl rfl (by decide) rfl (by decide) zz1 ?_   -- 10
        refine .split (t := 30) rfl (fun c30 => ?_) (fun c30 => ?_)
        · try rw [c30]
          try simp at c30
          refine .un rfl rfl (by decide) ?_   -- 11
          refine .un rfl rfl (by decide) ?_   -- 12
          refine .un rfl rfl (by decide) ?_   -- 13
          refine .un rfl rfl (by decide) ?_   -- 14
          refine .un rfl rfl (by decide) ?_   -- 15
          refine .un rfl rfl (by decide) ?_   -- 16
          refine .un rfl rfl (by decide) ?_   -- 17
          refine .un rfl rfl (by decide) ?_   -- 18
          refine .un rfl rfl (by decide) ?_   -- 19
          refine .un rfl rfl (by decide) ?_   -- 20
          refine .rd rfl rfl (by decide) rfl (by decide) zz1 ?_   -- 21
          refine .rd rfl rfl (by decide) rfl (by decide) zz1 ?_   -- 22
          refine .un rfl rfl (by decide) ?_   -- 23
          refine .un rfl rfl (by decide) ?_   -- 24
          refine .un rfl rfl (by decide) ?_   -- 25
          refine .un rfl rfl (by decide) ?_   -- 26
          refine .un rfl rfl (by decide) ?_   -- 27
          refine .un rfl rfl (by decide) ?_   -- 28
          refine .un rfl rfl (by decide) ?_   -- 29
          refine .un rfl rfl (by decide) ?_   -- 30
          refine .un rfl rfl (by decide) ?_   -- 31
          refine .un rfl rfl (by decide) ?_   -- 32
          refine .un rfl rfl (by decide) ?_   -- 33
          refine .rd rfl rfl (by decide) rfl (by decide) zz1 ?_   -- 34
          refine .done ?_
          refine .condT rfl ?_
          refine .seq ?_
          refine .rn ?_
          refine .ret ?_
          refine ⟨_, _, zz2,zz2, ?_⟩
          rw [exE_bad c10 (by omega) c17 (goodX_no fun h => by omega)]
        · try rw [c30]
          try simp at c30
          refine .rd rfl rfl (by decide) rfl (by decide) zz1 ?_   -- 11
          refine .rd rfl rfl (by decide) rfl (by decide) zz1 ?_   -- 12
          refine .rd rfl rfl (by decide) rfl (by decide) zz1 ?_   -- 13
          refine .rd rfl rfl (by decide) rfl (by decide) zz1 ?_   -- 14
          refine .rd rfl rfl (by decide) rfl (by decide) zz1 ?_   -- 15
          refine .rd rfl rfl (by decide) rfl (by decide) zz1 ?_   -- 16
          refine .rd rfl rfl (by decide) rfl (by decide) zz1 ?_   -- 17
          refine .rd rfl rfl (by decide) rfl (by decide) zz1 ?_   -- 18
          refine .wr rfl rfl (by decide) (.pure rfl rfl rfl Tryz.call80 (by decide) (p80 l[k].2 0 ((row.length : Int) - 1)) (by first | rfl | simp [*]) ?_)
          rintro _ rfl; refine VScr.td (todo' := [18,17,16,15,14,13,12,11,10,9,7,6,5,4,3,2,1,0]) ?_ ?_; focus (decide +kernel)
          refine .rd rfl rfl (by decide) rfl (by decide) zz1 ?_   -- 20
          refine .rd rfl rfl (by decide) rfl (by decide) zz1 ?_   -- 21
          refine .rd rfl rfl (by decide) rfl (by decide) zz1 ?_   -- 22
          refine .split (t := 42) rfl (fun c42 => ?_) (fun c42 => ?_)
          · try rw [c42]
            try simp at c42
            refine .un rfl rfl (by decide) ?_   -- 23
            refine .un rfl rfl (by decide) ?_   -- 24
            refine .un rfl rfl (by decide) ?_   -- 25
            refine .un rfl rfl (by decide) ?_   -- 26
            refine .un rfl rfl (by decide) ?_   -- 27
            refine .un rfl rfl (by decide) ?_   -- 28
            refine .un rfl rfl (by decide) ?_   -- 29
            refine .un rfl rfl (by decide) ?_   -- 30
            refine .un rfl rfl (by decide) ?_   -- 31
            refine .un rfl rfl (by decide) ?_   -- 32
            refine .un rfl rfl (by decide) ?_   -- 33
            refine .rd rfl rfl (by decide) rfl (by decide) zz1 ?_   -- 34
            refine .done ?_
            refine .condT rfl ?_
            refine .seq ?_
            refine .rn ?_
            refine .ret ?_
            refine ⟨_, _, zz2,zz2, ?_⟩
            rw [exE_bad c10 (by omega) c17 (goodX_no fun h => by omega)]
          · try rw [c42]
            try simp at c42
            refine .rd rfl rfl (by decide) rfl (by decide) zz1 ?_   -- 23
            refine .rd rfl rfl (by decide) rfl (by decide) zz1 ?_   -- 24
            refine .rd rfl rfl (by decide) rfl (by decide) zz1 ?_   -- 25
            refine .rd rfl rfl (by decide) rfl (by decide) zz1 ?_   -- 26
            refine .rd rfl rfl (by decide) rfl (by decide) zz1 ?_   -- 27
            refine .rd rfl rfl (by decide) rfl (by decide) zz1 ?_   -- 28
            refine .rd rfl rfl (by decide) rfl (by decide) zz1 ?_   -- 29
            refine .rd rfl rfl (by decide) rfl (by decide) zz1 ?_   -- 30
            refine .rd rfl rfl (by decide) rfl (by decide) zz1 ?_   -- 31
            refine .rd rfl rfl (by decide) rfl (by decide) zz1 ?_   -- 32
            refine .rd rfl rfl (by decide) rfl (by decide) zz1 ?_   -- 33
            refine .rd rfl rfl (by decide) rfl (by decide) zz1 ?_   -- 34
            refine .done ?_
            refine .condS rfl (fun c54 => ?_) (fun c54 => ?_)
            · try simp at c54
              refine .seq ?_
              refine .rn ?_
              refine .ret ?_
              refine ⟨_, _, zz2,zz2, ?_⟩
              rw [exE_bad c10 (by omega) c17 (goodX_no fun h => by omega)]
            · try simp at c54
              refine .skip ?_
              refine .rn ?_
              refine ⟨k + 1, ⟨zz3, take_all hg c17 (goodX_ok c30 c42 c54)⟩, zz3, .pure (by simp [*]) (by simp)⟩
      · try simp at c17
        refine .exit ?_
        refine .seq ?_
        refine .rn ?_
        refine .ret ?_
        refine ⟨_, _, zz2,zz2, ?_⟩
        have hkn : k = l.length := by omega
        subst hkn
        rw [exE_ok c10 (by omega) hg]
theorem g178 : (Tryz.prog.stoodInHeld 178 || Tryz.prog.eqGuardType Tryz.prog.depth 178) = false := by decide +kernel
theorem n178 : (match Tryz.prog.underlying 178 with | some (.struct fs) => fs.toList.map (fun f => (f.name == "_", tsz Tryz.prog f.type, f.type, f.offset)) | _ => []) = [(false, some 1,3,0),(false, some 1,3,1)] := by decide +kernel
theorem eq178 (a b c d : Int) : aeql Tryz.prog 178 (.agg #[.int .i64 a, .int .i64 b]) (.agg #[.int .i64 c, .int .i64 d]) = some (a == c && b == d) := by
  have hn := n178
  have hg := g178
  unfold aeql
  simp only
  cases hu : Tryz.prog.underlying 178 with
  | none => rw [hu] at hn; simp at hn
  | some td =>
    cases td with
    | struct fs =>
      rw [hu] at hn
      simp only at hn ⊢
      rw [hg]
      simp only [cond_false]
      generalize fs.toList = l at hn
      rcases l with _ | ⟨f1, _ | ⟨f2, _ | ⟨f3, r⟩⟩⟩
      · simp at hn
      · simp at hn
      · simp only [List.map_cons, List.map_nil, List.cons.injEq, Prod.mk.injEq, and_true] at hn
        obtain ⟨⟨k1, k2, k3, k4⟩, ⟨m1, m2, m3, m4⟩⟩ := hn
        simp only [fieldsEq, k1, k2, k3, k4, m1, m2, m3, m4, cond_false]
        have ha : tagg Tryz.prog 3 = some false := by decide +kernel
        have hu3 : Tryz.prog.underlying 3 = some (.int .i64) := by rfl
        simp [apart, ha, simpleEq, hu3]
        cases a == c <;> cases b == d <;> rfl
      · simp at hn
    | _ => rw [hu] at hn; simp at hn
theorem p112 (row : List Int) (l : List (Int × Int)) (hn : row.length < 4294967296) (hl : l.length < 4294967296) : VPure Tryz.prog 112 [ints row, .vec (l.map encX)] fun r => r = .int .i64 (exE row l) := by
  refine .of_body Tryz.func112 rfl rfl ?_
  refine .seq ?_
  refine .rn ?_
  refine .seq ?_
  refine .seq ?_
  refine .regionL [0,1,2] rfl zz0 ?_
  refine .rn [0] [1,2] ?_
  refine .step rfl rfl (.pure rfl rfl rfl Tryz.call109 (by decide) (p109 row hn) (by first | rfl | simp [*]) ?_)
  rintro _ rfl
  refine .rn [2] [] ?_
  refine .done ?_
  refine .seq ?_
  refine .rn ?_
  refine .condS rfl (fun c12 => ?_) (fun c12 => ?_)
  · try simp at c12
    refine .seq ?_
    refine .rn ?_
    refine .ret ?_
    refine ⟨_, _, zz2,zz2, ?_⟩
    simp [exE, c12]
  · try simp at c12
    have hR := rowB_iff.1 c12
    have hln : row.length ≤ 24 := hR.2.2
    have hwl : IntKind.i64.wrap ((row.length : Int) - 1) = (row.length : Int) - 1 := wrap64 (by omega) (by omega)
    refine .skip ?_
    refine .seq ?_
    refine .seq ?_
    refine .rn ?_
    refine .condS rfl (fun c16 => ?_) (fun c16 => ?_)
    · try simp at c16
      refine .seq ?_
      refine .rn ?_
      refine .ret ?_
      refine ⟨_, _, zz2,zz2, ?_⟩
      have : 120 < l.length := by omega
      simp [exE, c12, this]
    · try simp at c16
      refine .skip ?_
      refine .seq ?_
      refine .rn ?_
      refine .seq ?_
      refine .seq ?_
      refine .rn ?_
      refine .block ?_
      refine .loopS (fun k : Nat => ([(6, .int .i64 ((row.length : Int) - 1)),(20, .vec (l.map encX)),(21, .int .i64 l.length),(22, .int .i64 k)], VHeap.empty)) (fun k => k ≤ l.length ∧ ∀ x ∈ l.take k, goodX row.length x = true) (fun k => l.length - k) 0 (by simp) (.pure (by simp [*]) (by simp)) ?_
      rintro k ⟨hk, hg⟩
      simp only at hk hg ⊢
      refine .seq ?_
      refine .rn ?_
      refine .seq ?_
      refine .condS rfl (fun c23 => ?_) (fun c23 => ?_)
      · try simp at c23
        have hw2 : IntKind.i64.wrap ((k : Int) + 1) = (k : Int) + 1 := wrap64 (by omega) (by omega)
        have hE : encX l[k] = .agg [.int .i64 l[k].1, .int .i64 l[k].2] := rfl
        have hQ := eq178 l[k].1 l[k].2 l[k].2 l[k].1
        refine .skip ?_
        refine .seq ?_
        refine .block ?_
        refine .seq ?_
        refine .rn ?_
        refine .seq ?_
        refine .regionL [0,1,2,3,4,5,6,7,8,9,10,11,12,13,14,15,16,17,18,19,20] rfl zz0 ?_
        refine .rn [0,1,2] [3,4,5,6,7,8,9,10,11,12,13,14,15,16,17,18,19,20] ?_
        refine .step rfl rfl (.pure rfl rfl rfl Tryz.call70 (by decide) (p70 l[k].1 0 ((row.length : Int) - 1)) (by first | rfl | simp [*]) ?_)
        rintro _ rfl
        refine .rn [4,5] [6,7,8,9,10,11,12,13,14,15,16,17,18,19,20] ?_
        refine .split (t := 31) rfl (fun c31 => ?_) (fun c31 => ?_)
        · try rw [c31]
          try simp at c31
          refine .rn [6,7,8,9,10,11,12,13,14,15,16,17,18,19,20] [] ?_
          refine .done ?_
          refine .condT rfl ?_
          refine .seq ?_
          refine .rn ?_
          refine .ret ?_
          refine ⟨_, _, zz2,zz2, ?_⟩
          rw [exE_bad c12 (by omega) c23 (goodX_no fun h => by omega)]
        · try rw [c31]
          try simp at c31
          refine .rn [6,7,8] [9,10,11,12,13,14,15,16,17,18,19,20] ?_
          refine .step rfl rfl (.pure rfl rfl rfl Tryz.call70 (by decide) (p70 l[k].2 0 ((row.length : Int) - 1)) (by first | rfl | simp [*]) ?_)
          rintro _ rfl
          refine .rn [10,11,12] [13,14,15,16,17,18,19,20] ?_
          refine .split (t := 38) rfl (fun c38 => ?_) (fun c38 => ?_)
          · try rw [c38]
            try simp at c38
            refine .rn [13,14,15,16,17,18,19,20] [] ?_
            refine .done ?_
            refine .condT rfl ?_
            refine .seq ?_
            refine .rn ?_
            refine .ret ?_
            refine ⟨_, _, zz2,zz2, ?_⟩
            rw [exE_bad c12 (by omega) c23 (goodX_no fun h => by omega)]
          · try rw [c38]
            try simp at c38
            refine .rn [13,14,15,16,17,18,19,20] [] ?_
            refine .done ?_
            refine .condS rfl (fun c46 => ?_) (fun c46 => ?_)
            · try simp at c46
              obtain ⟨c46, c46b⟩ := c46
              clear c46b
              refine .seq ?_
              refine .rn ?_
              refine .ret ?_
              refine ⟨_, _, zz2,zz2, ?_⟩
              rw [exE_bad c12 (by omega) c23 (goodX_no fun h => h.2.2 c46)]
            · try simp at c46
              refine .skip ?_
              refine .rn ?_
              refine ⟨k + 1, ⟨zz3, take_all hg c23 (goodX_iff.2 ⟨c31, c38, fun h => c46 h h.symm⟩)⟩, zz3,(.mk [] [] zz4 zz5 rfl rfl rfl)⟩
      · try simp at c23
        refine .exit ?_
        refine .seq ?_
        refine .rn ?_
        refine .ret ?_
        refine ⟨_, _, zz2,zz2, ?_⟩
        have hkn : k = l.length := by omega
        subst hkn
        rw [exE_ok c12 (by omega) hg]
end Go.Am.Hi
end
