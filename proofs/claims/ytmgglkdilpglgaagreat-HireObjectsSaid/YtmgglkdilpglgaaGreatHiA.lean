/-
 What is used in the proof of a statement (part HiA); no condition.
-/
import Derived.Test.YtmgglkdilpglgaaGreatHiZ
import Derived.Test.YtmgglkdilpglgaaGreatVm2
import Derived.Test.YtmgglkdilpglgaaGreatHiT
set_option linter.all false
section
namespace Go.Am.Hi
open Go Go.Am Go.Proofs
set_option maxRecDepth 100000
set_option maxHeartbeats 4000000
set_option linter.unusedSimpArgs false
set_option linter.unusedVariables false
attribute [local simp] vrun vwanted vyielded vop vopA vputAll VHeap.back hidI hidF backL bm Nat.testBit_eq_decide_div_mod_eq veval vevals vparts vO vbuiltin vlen vappend velems vcopy vmakeSlice vbuildSlice valloc vbox vmakeMap vload vpartT vpart vstore vfieldAddr vfield vindexAddr vindex vextract vslice vsliceZ vbounds vbnd zeroO vidx vlookup vmget vmapUpdate vdelete vclear vnilq vnilp vnils vbin vsc vsc1 vscs vscl abinOp aint ashift aunOp aconvert amaxs amax2 pvcV pvc pvcs tput tget vargs VHeap.get VHeap.alloc VHeap.put VHeap.drop VHeap.empty vlook vput vdrop psplice pfill preps chunk List.range List.range.loop vresults vresult vresultV frz frzL PV.isF PV.allF PV.scal PV.allS retP subT allFT PV.one PV.ids PV.idsL dropL beq_eq ble_dec blt_dec
theorem p70 (n a b : Int) : VPure Tryz.prog 70 [.int .i64 n, .int .i64 a, .int .i64 b] fun r => r = .bool (decide (a ≤ n) && decide (n ≤ b)) := by
 refine .of_body Tryz.func70 rfl rfl ?_
 refine .seq ?_
 refine .rn ?_
 refine .seq ?_
 refine .regionL [0,1,2,3,4,5,6,7,8] rfl zz0 ?_
 refine .rn [0,1,2,3] [4,5,6,7,8] ?_
 refine .split (t := 10) rfl (fun c10 => ?_) (fun c10 => ?_)
 ·try rw [c10]
  try simp at c10
  refine .rn [4,5,6,7,8] [] ?_
  refine .done ?_
  refine .ret ?_
  refine ⟨_, _, zz2,zz2, ?_⟩
  simp <;> omega
 ·try rw [c10]
  try simp at c10
  refine .rn [4,5,6,7,8] [] ?_
  refine .done ?_
  refine .ret ?_
  refine ⟨_, _, zz2,zz2, ?_⟩
  simp <;> omega
theorem p80 (n a b : Int) : VPure Tryz.prog 80 [.int .i64 n, .int .i64 a, .int .i64 b] fun r => r = .bool (decide (a ≤ n) && decide (n ≤ b)) := by
 refine .of_body Tryz.func80 rfl rfl ?_
 refine .seq ?_
 refine .rn ?_
 refine .seq ?_
 refine .regionL [0,1,2,3,4,5,6,7,8] rfl zz0 ?_
 refine .rn [0,1,2,3] [4,5,6,7,8] ?_
 refine .split (t := 10) rfl (fun c10 => ?_) (fun c10 => ?_)
 ·try rw [c10]
  try simp at c10
  refine .rn [4,5,6,7,8] [] ?_
  refine .done ?_
  refine .ret ?_
  refine ⟨_, _, zz2,zz2, ?_⟩
  simp <;> omega
 ·try rw [c10]
  try simp at c10
  refine .rn [4,5,6,7,8] [] ?_
  refine .done ?_
  refine .ret ?_
  refine ⟨_, _, zz2,zz2, ?_⟩
  simp <;> omega
def idxF {α : Type} (p : α → Bool) : Nat → List α → Int
 | _, [] => -1
 | i, a :: r => if p a then i else idxF p (i + 1) r
theorem idxF_drop {α : Type} (p : α → Bool) (l : List α) (i : Nat) (h : i < l.length) : idxF p i (l.drop i) = if p l[i] then (i : Int) else idxF p (i + 1) (l.drop (i + 1)) := by
 rw [List.drop_eq_getElem_cons h]; rfl
theorem idxF_ge {α : Type} (p : α → Bool) : ∀ (l : List α) (i : Nat),(idxF p i l = -1 ∧ l.any p = false) ∨ ((i : Int) ≤ idxF p i l ∧ idxF p i l < i + l.length ∧ l.any p = true)
 | [], i => .inl ⟨rfl, rfl⟩
 | a :: r, i => by
  simp only [idxF, List.any_cons, List.length_cons]
  cases h : p a with
  | true => exact .inr ⟨by simp, by simp; omega, rfl⟩
  | false =>
   rcases idxF_ge p r (i + 1) with ⟨h1, h2⟩ | ⟨h1, h2, h3⟩
   ·exact .inl ⟨by simpa using h1, by simpa using h2⟩
   ·exact .inr ⟨by simp; omega, by simp; omega, by simpa using h3⟩
theorem idxF_any {α : Type} (p : α → Bool) (l : List α) (i : Nat) : decide (idxF p i l ≥ 0) = l.any p := by
 rcases idxF_ge p l i with ⟨h1, h2⟩ | ⟨h1, h2, h3⟩
 ·rw [h1, h2]; decide
 ·rw [h3]; simp; omega
theorem any_mem (l : List Int) (v : Int) : (l.any fun a => decide (v = a)) = decide (v ∈ l) := by
 induction l with
 | nil => rfl
 | cons a r ih => simp only [List.any_cons, ih, List.mem_cons]; by_cases h1 : v = a <;> by_cases h2 : v ∈ r <;> simp [h1, h2]
def prm (l : List Int) : Bool := decide (l.Nodup ∧ ∀ n ∈ l, 0 ≤ n ∧ n ≤ (l.length : Int) - 1)
def PrmK (l : List Int) (i : Nat) : Prop := (l.take i).Nodup ∧ ∀ n ∈ l.take i, 0 ≤ n ∧ n ≤ (l.length : Int) - 1
theorem prmK_zero (l : List Int) : PrmK l 0 := by simp [PrmK]
theorem prmK_succ {l : List Int} {i : Nat} (h : i < l.length) (hk : PrmK l i) (h1 : 0 ≤ l[i]) (h2 : l[i] ≤ (l.length : Int) - 1) (h3 : l[i] ∉ l.take i) : PrmK l (i + 1) := by
 unfold PrmK at hk ⊢
 rw [List.take_succ_eq_append_getElem h]
 refine ⟨?_, fun n hn => ?_⟩
 ·rw [List.nodup_append]
  refine ⟨hk.1, by simp, fun a ha b hb hab => h3 ?_⟩
  rw [List.mem_singleton] at hb
  rw [← hb, ← hab]; exact ha
 ·rcases List.mem_append.1 hn with hn | hn
  ·exact hk.2 n hn
  ·rw [List.mem_singleton] at hn; subst hn; exact ⟨h1, h2⟩
theorem prmK_all {l : List Int} (hk : PrmK l l.length) : prm l = true := by
 unfold PrmK at hk
 rw [List.take_length] at hk
 exact decide_eq_true hk
theorem prm_out {l : List Int} {i : Nat} (h : i < l.length) (h1 : ¬(0 ≤ l[i] ∧ l[i] ≤ (l.length : Int) - 1)) : prm l = false :=
 decide_eq_false fun hp => h1 (hp.2 _ (List.getElem_mem h))
theorem prm_twice {l : List Int} {i : Nat} (h : i < l.length) (h1 : l[i] ∈ l.take i) : prm l = false :=
 decide_eq_false fun hp => by
  obtain ⟨j, hj, he⟩ := List.mem_iff_getElem.1 h1
  rw [List.length_take] at hj
  rw [List.getElem_take] at he
  exact (List.pairwise_iff_getElem.1 hp.1) j i (by omega) h (by omega) he
def rowB (l : List Int) : Bool := prm l && (decide (1 ≤ l.length) && decide (l.length ≤ 24))
theorem same_step {a b : List Int} {i : Nat} (ha : i < a.length) (hb : i < b.length) : decide (a.drop i = b.drop i) = (decide (a[i] = b[i]) && decide (a.drop (i + 1) = b.drop (i + 1))) := by
 rw [List.drop_eq_getElem_cons ha, List.drop_eq_getElem_cons hb, Bool.eq_iff_iff]
 simp only [decide_eq_true_eq, Bool.and_eq_true, List.cons.injEq]
theorem p151 (l : List Int) (v : Int) (hl : l.length < 4294967296) : VPure Tryz.prog 151 [ints l, .int .i64 v] fun r => r = .int .i64 (idxF (fun a => decide (v = a)) 0 l) := by
 refine .of_body Tryz.func151 rfl rfl ?_
 refine .seq ?_
 refine .rn ?_
 refine .seq ?_
 refine .seq ?_
 refine .rn ?_
 refine .block ?_
 refine .loopS (fun s : Nat => ([(0, ints l),(1, .int .i64 v),(7, .int .i64 l.length),(8, .int .i64 s)], VHeap.empty)) (fun s => s ≤ l.length ∧ idxF (fun a => decide (v = a)) s (l.drop s) = idxF (fun a => decide (v = a)) 0 l) (fun s => l.length - s) 0 ⟨by simp, by simp⟩ (.pure (by simp [*]) (by simp)) ?_
 rintro i ⟨hi, hr⟩
 simp only at hi hr ⊢
 refine .seq ?_
 refine .rn ?_
 refine .seq ?_
 refine .condS rfl (fun c9 => ?_) (fun c9 => ?_)
 ·try simp at c9
  have hw2 : IntKind.i64.wrap ((i : Int) + 1) = (i : Int) + 1 := wrap64 (by omega) (by omega)
  rw [idxF_drop _ l i c9] at hr
  refine .skip ?_
  refine .seq ?_
  refine .block ?_
  refine .seq ?_
  refine .rn ?_
  refine .seq ?_
  refine .rn ?_
  refine .condS rfl (fun c16 => ?_) (fun c16 => ?_)
  ·try simp at c16
   refine .seq ?_
   refine .rn ?_
   refine .ret ?_
   refine ⟨_, _, zz2,zz2, ?_⟩
   rw [← hr, if_pos (by simp [c16])]
  ·try simp at c16
   refine .skip ?_
   refine .rn ?_
   refine ⟨i + 1, ⟨zz3, ?_⟩, zz3, .pure (by simp [*]) (by simp)⟩
   rw [← hr, if_neg (by simp [c16])]
 ·try simp at c9
  have : i = l.length := by omega
  refine .exit ?_
  refine .seq ?_
  refine .rn ?_
  refine .ret ?_
  refine ⟨_, _, zz2,zz2, ?_⟩
  rw [← hr, this, List.drop_length]; rfl
theorem p99 (l : List Int) (v : Int) (hl : l.length < 4294967296) : VPure Tryz.prog 99 [ints l, .int .i64 v] fun r => r = .bool (decide (v ∈ l)) := by
 refine .of_body Tryz.func99 rfl rfl ?_
 refine .seq ?_
 refine .rn ?_
 refine .seq ?_
 refine .regionL [0,1,2,3,4] rfl zz0 ?_
 refine .rn [0,1] [2,3,4] ?_
 refine .step rfl rfl (.pure rfl rfl rfl Tryz.call151 (by decide) (p151 l v hl) (by first | rfl | simp [*]) ?_)
 rintro _ rfl
 refine .rn [3,4] [] ?_
 refine .done ?_
 refine .ret ?_
 refine ⟨_, _, zz2,zz2, ?_⟩
 rw [← any_mem, ← idxF_any _ l 0]
theorem p107 (l : List Int) (v : Int) (hl : l.length < 4294967296) : VPure Tryz.prog 107 [ints l, .int .i64 v] fun r => r = .bool (decide (v ∈ l)) := by
 refine .of_body Tryz.func107 rfl rfl ?_
 refine .seq ?_
 refine .rn ?_
 refine .seq ?_
 refine .seq ?_
 refine .rn ?_
 refine .block ?_
 refine .loopS (fun s : Nat => ([(0, ints l),(1, .int .i64 v),(5, .int .i64 s)], VHeap.empty)) (fun s => s ≤ l.length ∧ decide (v ∈ l.drop s) = decide (v ∈ l)) (fun s => l.length - s) 0 ⟨by simp, by simp⟩ (.pure (by simp [*]) (by simp)) ?_
 rintro i ⟨hi, hr⟩
 simp only at hi hr ⊢
 refine .seq ?_
 refine .seq ?_
 refine .rn ?_
 refine .condS rfl (fun c9 => ?_) (fun c9 => ?_)
 ·try simp at c9
  have hw2 : IntKind.i64.wrap ((i : Int) + 1) = (i : Int) + 1 := wrap64 (by omega) (by omega)
  rw [List.drop_eq_getElem_cons c9] at hr
  refine .skip ?_
  refine .seq ?_
  refine .block ?_
  refine .seq ?_
  refine .rn ?_
  refine .condS rfl (fun c17 => ?_) (fun c17 => ?_)
  ·try simp at c17
   refine .seq ?_
   refine .rn ?_
   refine .ret ?_
   refine ⟨_, _, zz2,zz2, ?_⟩
   rw [← hr, c17]; simp
  ·try simp at c17
   refine .skip ?_
   refine .rn ?_
   refine ⟨i + 1, ⟨zz3, ?_⟩, zz3, .pure (by simp [*]) (by simp)⟩
   rw [← hr, decide_eq_decide, List.mem_cons]
   exact ⟨.inr, fun h => h.resolve_left (Ne.symm c17)⟩
 ·try simp at c9
  have : i = l.length := by omega
  refine .exit ?_
  refine .seq ?_
  refine .rn ?_
  refine .ret ?_
  refine ⟨_, _, zz2,zz2, ?_⟩
  rw [← hr, this, List.drop_length]; rfl
theorem p154 (l : List Int) (hl : l.length < 4294967296) : VPure Tryz.prog 154 [ints l] fun r => r = .bool (prm l) := by
 have hw : IntKind.i64.wrap ((l.length : Int) - 1) = (l.length : Int) - 1 := wrap64 (by omega) (by omega)
 refine .of_body Tryz.func154 rfl rfl ?_
 refine .seq ?_
 refine .rn ?_
 refine .seq ?_
 refine .seq ?_
 refine .rn ?_
 refine .block ?_
 refine .loopS (fun s : Nat => ([(0, ints l),(5, ints l),(6, .int .i64 l.length),(7, .int .i64 s)], VHeap.empty)) (fun s => s ≤ l.length ∧ PrmK l s) (fun s => l.length - s) 0 ⟨by simp, prmK_zero l⟩ (.pure (by simp [*]) (by simp)) ?_
 rintro i ⟨hi, hr⟩
 simp only at hi hr ⊢
 refine .seq ?_
 refine .rn ?_
 refine .seq ?_
 refine .condS rfl (fun c8 => ?_) (fun c8 => ?_)
 ·try simp at c8
  have hw2 : IntKind.i64.wrap ((i : Int) + 1) = (i : Int) + 1 := wrap64 (by omega) (by omega)
  have htl : (l.take i).length < 4294967296 := by rw [List.length_take]; omega
  refine .skip ?_
  refine .seq ?_
  refine .block ?_
  refine .seq ?_
  refine .rn ?_
  refine .seq ?_
  refine .regionL [0,1,2,3,4,5,6,7,8,9,10,11,12] rfl zz0 ?_
  refine .rn [0,1,2,3] [4,5,6,7,8,9,10,11,12] ?_
  refine .step rfl rfl (.pure rfl rfl rfl Tryz.call70 (by decide) (p70 l[i] 0 ((l.length : Int) - 1)) (by first | rfl | simp [*]) ?_)
  rintro _ rfl
  refine .rn [5,6] [7,8,9,10,11,12] ?_
  refine .split (t := 18) rfl (fun c18 => ?_) (fun c18 => ?_)
  ·try rw [c18]
   try simp at c18
   refine .rn [7,8,9,10,11,12] [] ?_
   refine .done ?_
   refine .condT rfl ?_
   refine .seq ?_
   refine .rn ?_
   refine .ret ?_
   refine ⟨_, _, zz2,zz2, ?_⟩
   rw [prm_out c8 (by omega)]
  ·try rw [c18]
   try simp at c18
   refine .rn [7,8,9,10] [11,12] ?_
   refine .step rfl rfl (.pure rfl rfl rfl Tryz.call99 (by decide) ((by have := p99 (l.take i) l[i] htl; rw [ints, List.map_take] at this; exact this)) (by first | rfl | simp [*]) ?_)
   rintro _ rfl
   refine .rn [12] [] ?_
   refine .done ?_
   refine .condS rfl (fun c24 => ?_) (fun c24 => ?_)
   ·try simp at c24
    refine .seq ?_
    refine .rn ?_
    refine .ret ?_
    refine ⟨_, _, zz2,zz2, ?_⟩
    rw [prm_twice c8 c24]
   ·try simp at c24
    refine .skip ?_
    refine .rn ?_
    refine ⟨i + 1, ⟨zz3, prmK_succ c8 hr c18.1 c18.2 c24⟩, zz3, .pure (by simp [*]) (by simp)⟩
 ·try simp at c8
  have : i = l.length := by omega
  subst this
  refine .exit ?_
  refine .seq ?_
  refine .rn ?_
  refine .ret ?_
  refine ⟨_, _, zz2,zz2, ?_⟩
  rw [prmK_all hr]
theorem p153 (l : List Int) (hl : l.length < 4294967296) : VPure Tryz.prog 153 [ints l] fun r => r = .bool (prm l) := by
 have hw : IntKind.i64.wrap ((l.length : Int) - 1) = (l.length : Int) - 1 := wrap64 (by omega) (by omega)
 refine .of_body Tryz.func153 rfl rfl ?_
 refine .seq ?_
 refine .rn ?_
 refine .seq ?_
 refine .seq ?_
 refine .rn ?_
 refine .block ?_
 refine .loopS (fun s : Nat => ([(0, ints l),(3, .int .i64 s)], VHeap.empty)) (fun s => s ≤ l.length ∧ PrmK l s) (fun s => l.length - s) 0 ⟨by simp, prmK_zero l⟩ (.pure (by simp [*]) (by simp)) ?_
 rintro i ⟨hi, hr⟩
 simp only at hi hr ⊢
 refine .seq ?_
 refine .seq ?_
 refine .rn ?_
 refine .condS rfl (fun c8 => ?_) (fun c8 => ?_)
 ·try simp at c8
  have hw2 : IntKind.i64.wrap ((i : Int) + 1) = (i : Int) + 1 := wrap64 (by omega) (by omega)
  have htl : (l.take i).length < 4294967296 := by rw [List.length_take]; omega
  refine .skip ?_
  refine .seq ?_
  refine .block ?_
  refine .seq ?_
  refine .drawn (ms := [0,0,3,0,0,24,56,127,255]) (W := [7]) (items := [.op 0, .op 1, .op 2, .op 3, .op 4, .op 5, .op 6, .op 7, .op 8]) rfl zz0 zz0 zz0 ?_
  refine .rd rfl rfl (by decide) rfl (by decide) zz1 ?_   -- 0
  refine .rd rfl rfl (by decide) rfl (by decide) zz1 ?_   -- 1
  refine .rd rfl rfl (by decide) rfl (by decide) zz1 ?_   -- 2
  refine .rd rfl rfl (by decide) rfl (by decide) zz1 ?_   -- 3
  refine .rd rfl rfl (by decide) rfl (by decide) zz1 ?_   -- 4
  refine .rd rfl rfl (by decide) rfl (by decide) zz1 ?_   -- 5
  refine .rd rfl rfl (by decide) rfl (by decide) zz1 ?_   -- 6
  refine .wr rfl rfl (by decide) (.pure rfl rfl rfl Tryz.call107 (by decide) ((by have := p107 (l.take i) l[i] htl; rw [ints, List.map_take] at this; exact this)) (by first | rfl | simp [*]) ?_)
  rintro _ rfl
  refine .rd rfl rfl (by decide) rfl (by decide) zz1 ?_   -- 8
  refine .done ?_
  refine .seq ?_
  refine .regionL [0,1,2,3,4,5,6,7,8,9,10,11] rfl zz0 ?_
  refine .rn [0,1] [2,3,4,5,6,7,8,9,10,11] ?_
  refine .split (t := 20) rfl (fun c20 => ?_) (fun c20 => ?_)
  ·try rw [c20]
   try simp at c20
   refine .rn [2,3,4,5,6,7,8,9,10,11] [] ?_
   refine .done ?_
   refine .condT rfl ?_
   refine .seq ?_
   refine .rn ?_
   refine .ret ?_
   refine ⟨_, _, zz2,zz2, ?_⟩
   rw [prm_twice c8 c20]
  ·try rw [c20]
   try simp at c20
   refine .rn [2,3,4,5,6,7,8] [9,10,11] ?_
   refine .step rfl rfl (.pure rfl rfl rfl Tryz.call80 (by decide) (p80 l[i] 0 ((l.length : Int) - 1)) (by first | rfl | simp [*]) ?_)
   rintro _ rfl
   refine .rn [10,11] [] ?_
   refine .done ?_
   refine .condS rfl (fun c30 => ?_) (fun c30 => ?_)
   ·try simp at c30
    refine .seq ?_
    refine .rn ?_
    refine .ret ?_
    refine ⟨_, _, zz2,zz2, ?_⟩
    rw [prm_out c8 (by omega)]
   ·try simp at c30
    refine .skip ?_
    refine .rn ?_
    refine ⟨i + 1, ⟨zz3, prmK_succ c8 hr c30.1 c30.2 c20⟩, zz3, .pure (by simp [*]) (by simp)⟩
 ·try simp at c8
  have : i = l.length := by omega
  subst this
  refine .exit ?_
  refine .seq ?_
  refine .rn ?_
  refine .ret ?_
  refine ⟨_, _, zz2,zz2, ?_⟩
  rw [prmK_all hr]
theorem p27 (a b : List Int) (hl : a.length < 4294967296) (hb : b.length < 4294967296) : VPure Tryz.prog 27 [ints a, ints b] fun r => r = .bool (decide (a = b)) := by
 refine .of_body Tryz.func27 rfl rfl ?_
 refine .seq ?_
 refine .rn ?_
 refine .seq ?_
 refine .seq ?_
 refine .rn ?_
 refine .condS rfl (fun c10 => ?_) (fun c10 => ?_)
 ·try simp at c10
  refine .seq ?_
  refine .rn ?_
  refine .ret ?_
  refine ⟨_, _, zz2,zz2, ?_⟩
  rw [decide_eq_false fun h => c10 (by rw [h])]
 ·try simp at c10
  refine .skip ?_
  refine .seq ?_
  refine .seq ?_
  refine .rn ?_
  refine .block ?_
  refine .loopS (fun s : Nat => ([(0, ints a),(1, ints b),(5, .int .i64 s)], VHeap.empty)) (fun s => s ≤ a.length ∧ decide (a.drop s = b.drop s) = decide (a = b)) (fun s => a.length - s) 0 ⟨by simp, by simp⟩ (.pure (by simp [*]) (by simp)) ?_
  rintro i ⟨hi, hr⟩
  simp only at hi hr ⊢
  refine .seq ?_
  refine .seq ?_
  refine .rn ?_
  refine .condS rfl (fun c14 => ?_) (fun c14 => ?_)
  ·try simp at c14
   have hw2 : IntKind.i64.wrap ((i : Int) + 1) = (i : Int) + 1 := wrap64 (by omega) (by omega)
   have hib : i < b.length := by omega
   have hia : i < a.length := by omega
   rw [same_step hia hib] at hr
   refine .skip ?_
   refine .seq ?_
   refine .block ?_
   refine .seq ?_
   refine .drawn (ms := [0,0,3,7,0,0,48,112,255]) (W := []) (items := [.op 0, .op 1, .op 2, .op 3, .op 4, .op 5, .op 6, .op 7, .op 8]) rfl zz0 zz0 zz0 ?_
   refine .rd rfl rfl (by decide) rfl (by decide) zz1 ?_   -- 0
   refine .rd rfl rfl (by decide) rfl (by decide) zz1 ?_   -- 1
   refine .rd rfl rfl (by decide) rfl (by decide) zz1 ?_   -- 2
   refine .rd rfl rfl (by decide) rfl (by decide) zz1 ?_   -- 3
   refine .rd rfl rfl (by decide) rfl (by decide) zz1 ?_   -- 4
   refine .rd rfl rfl (by decide) rfl (by decide) zz1 ?_   -- 5
   refine .rd rfl rfl (by decide) rfl (by decide) zz1 ?_   -- 6
   refine .rd rfl rfl (by decide) rfl (by decide) zz1 ?_   -- 7
   refine .rd rfl rfl (by decide) rfl (by decide) zz1 ?_   -- 8
   refine .done ?_
   refine .condS rfl (fun c25 => ?_) (fun c25 => ?_)
   ·try simp at c25
    refine .seq ?_
    refine .rn ?_
    refine .ret ?_
    refine ⟨_, _, zz2,zz2, ?_⟩
    rw [← hr]; simp [c25]
   ·try simp at c25
    refine .skip ?_
    refine .rn ?_
    refine ⟨i + 1, ⟨zz3, ?_⟩, zz3, .pure (by simp [*]) (by simp)⟩
    rw [← hr, c25]; simp
  ·try simp at c14
   have : i = a.length := by omega
   refine .exit ?_
   refine .seq ?_
   refine .rn ?_
   refine .ret ?_
   refine ⟨_, _, zz2,zz2, ?_⟩
   rw [← hr, this, List.drop_length, List.drop_eq_nil_of_le (by omega)]; rfl
end Go.Am.Hi
end

section
namespace Go.Am.Hi
open Go Go.Am Go.Proofs
set_option maxRecDepth 100000
set_option maxHeartbeats 4000000
set_option linter.unusedSimpArgs false
set_option linter.unusedVariables false
attribute [local simp] vrun vwanted vyielded vop vopA vputAll VHeap.back hidI hidF backL bm Nat.testBit_eq_decide_div_mod_eq veval vevals vparts vO vbuiltin vlen vappend velems vcopy vmakeSlice vbuildSlice valloc vbox vmakeMap vload vpartT vpart vstore vfieldAddr vfield vindexAddr vindex vextract vslice vsliceZ vbounds vbnd zeroO vidx vlookup vmget vmapUpdate vdelete vclear vnilq vnilp vnils vbin vsc vsc1 vscs vscl abinOp aint ashift aunOp aconvert amaxs amax2 pvcV pvc pvcs tput tget vargs VHeap.get VHeap.alloc VHeap.put VHeap.drop VHeap.empty vlook vput vdrop psplice pfill preps chunk List.range List.range.loop vresults vresult vresultV frz frzL PV.isF PV.allF PV.scal PV.allS retP subT allFT PV.one PV.ids PV.idsL dropL beq_eq ble_dec blt_dec
def nx (row : List Int) (c : Int) : Int := row.getD c.toNat 0
def wlk (row bar : List Int) : Nat → Int → List Int → List Int
 | 0, _, l => l
 | k + 1, c, l => if c ∈ bar ++ l then l else wlk row bar k (nx row c) (l ++ [c])
def lpH (row : List Int) : Nat → List (List Int)
 | 0 => []
 | k + 1 => if (k : Int) ∈ (lpH row k).flatten then lpH row k else lpH row k ++ [wlk row (lpH row k).flatten (row.length + 1) k []]
def lpR (row : List Int) : Nat → List (List Int)
 | 0 => []
 | k + 1 => if (k : Int) ∈ (lpR row k).flatten then lpR row k else lpR row k ++ [wlk row [] (row.length + 1) k []]
def seenV (n : Nat) (S : List Int) : List PV := (List.range n).map fun (i : Nat) => PV.bool (decide ((i : Int) ∈ S))
@[simp] theorem seenV_len (n : Nat) (S : List Int) : (seenV n S).length = n := by simp [seenV, -List.range, -List.range.loop]
@[simp] theorem seenV_one (n : Nat) (S : List Int) : (seenV n S).all PV.one = true := by simp [seenV, PV.one]
@[simp] theorem seenV_allF (n : Nat) (S : List Int) : PV.allF (seenV n S) = true := by
 unfold seenV
 exact allF_map (fun _ => rfl) _
theorem in_len {l : List Int} {n : Nat} (h1 : l.Nodup) (h2 : ∀ x ∈ l, 0 ≤ x ∧ x < (n : Int)) : l.length ≤ n := by
 have := h1.length_le_of_subset (l₂ := (List.range n).map Int.ofNat) fun x hx => by
  obtain ⟨h3, h4⟩ := h2 x hx
  exact List.mem_map.2 ⟨x.toNat, List.mem_range.2 (by omega), by simp; omega⟩
 rw [List.length_map, List.length_range] at this; exact this
def WK (row S : List Int) (c : Int) (a : Nat) (l : List Int) : Prop := a < row.length ∧ l.Nodup ∧ (∀ x ∈ l, 0 ≤ x ∧ x < (row.length : Int)) ∧ wlk row S (row.length + 1 - l.length) a l = wlk row S (row.length + 1) c []
theorem WK.len {row S : List Int} {c : Int} {a : Nat} {l : List Int} (h : WK row S c a l) : l.length ≤ row.length := in_len h.2.1 h.2.2.1
theorem WK.next {row S : List Int} {c : Int} {a : Nat} {l : List Int} (hr : ∀ n ∈ row, 0 ≤ n ∧ n ≤ (row.length : Int) - 1) (h : WK row S c a l) (hm : (a : Int) ∉ S ++ l) : WK row S c (row[a]'h.1).toNat (l ++ [(a : Int)]) := by
 have hlen := h.len
 obtain ⟨h1, h2, h3, h4⟩ := h
 have hx := hr _ (List.getElem_mem h1)
 refine ⟨by omega, ?_, fun x hx => ?_, ?_⟩
 ·rw [List.nodup_append]
  refine ⟨h2, by simp, fun x hx b hb hab => hm ?_⟩
  rw [List.mem_singleton] at hb
  rw [List.mem_append, ← hb, ← hab]; exact .inr hx
 ·rcases List.mem_append.1 hx with hx | hx
  ·exact h3 x hx
  ·rw [List.mem_singleton] at hx; omega
 ·have e1 : row.length + 1 - (l ++ [(a : Int)]).length = row.length - l.length := by rw [List.length_append, List.length_singleton]; omega
  rw [show row.length + 1 - l.length = (row.length - l.length) + 1 by omega, wlk, if_neg hm] at h4
  rw [e1]
  refine Eq.trans ?_ h4
  congr 1
  unfold nx
  rw [Int.toNat_natCast, List.getD_eq_getElem?_getD, List.getElem?_eq_getElem h1, Option.getD_some]
  omega
theorem WK.zero {row S : List Int} {k : Nat} (h : k < row.length) : WK row S k k [] := ⟨h, by simp, by simp, rfl⟩
@[simp] theorem allSz_ints (l : List (List Int)) : allSz 1 (l.map ints) = true := allSz_map (f := ints) (n := 1) (fun _ => rfl) l
@[simp] theorem allOne_ints (l : List (List Int)) : allOne (l.map ints) = true := allOne_map (f := ints) (fun _ => rfl) l
end Go.Am.Hi
end

section
namespace Go.Am.Hi
open Go Go.Am Go.Proofs
set_option maxRecDepth 100000
set_option maxHeartbeats 4000000
set_option linter.unusedSimpArgs false
set_option linter.unusedVariables false
attribute [local simp] vrun vwanted vyielded vop vopA vputAll VHeap.back hidI hidF backL bm Nat.testBit_eq_decide_div_mod_eq veval vevals vparts vO vbuiltin vlen vappend velems vcopy vmakeSlice vbuildSlice valloc vbox vmakeMap vload vpartT vpart vstore vfieldAddr vfield vindexAddr vindex vextract vslice vsliceZ vbounds vbnd zeroO vidx vlookup vmget vmapUpdate vdelete vclear vnilq vnilp vnils vbin vsc vsc1 vscs vscl abinOp aint ashift aunOp aconvert amaxs amax2 pvcV pvc pvcs tput tget vargs VHeap.get VHeap.alloc VHeap.put VHeap.drop VHeap.empty vlook vput vdrop psplice pfill preps chunk List.range List.range.loop vresults vresult vresultV frz frzL PV.isF PV.allF PV.scal PV.allS retP subT allFT PV.one PV.ids PV.idsL dropL beq_eq ble_dec blt_dec
def Soft (r v : PV) : Prop := Alt VHeap.empty 0 (fun _ => true) id r v
theorem VPure.soft {P : Program} {f : FuncId} {args : List PV} {v : PV} (hp : VPure P f args fun r => Soft r v) (hv : v.isF = true) : VPure P f args fun r => r = v := hp.alt fun r h => ⟨v, h, hv, rfl⟩
theorem soft_rfl {v : PV} (h : v.isF = true) : Soft v v := .same v h
theorem soft_tup {l l2 : List PV} (h : AltL VHeap.empty 0 (fun _ => true) id l l2) : Soft (.tup l) (.tup l2) := .tup' h
def lpsE (row : List Int) : Int := if rowB row then 0 else 1
def lpsH (row : List Int) : List (List Int) := if rowB row then lpH row row.length else []
def lpsR (row : List Int) : List (List Int) := if rowB row then lpR row row.length else []
end Go.Am.Hi
end

section
namespace Go.Am.Hi
open Go Go.Am Go.Proofs
set_option maxRecDepth 100000
set_option maxHeartbeats 4000000
set_option linter.unusedSimpArgs false
set_option linter.unusedVariables false
attribute [local simp] vrun vwanted vyielded vop vopA vputAll VHeap.back hidI hidF backL bm Nat.testBit_eq_decide_div_mod_eq veval vevals vparts vO vbuiltin vlen vappend velems vcopy vmakeSlice vbuildSlice valloc vbox vmakeMap vload vpartT vpart vstore vfieldAddr vfield vindexAddr vindex vextract vslice vsliceZ vbounds vbnd zeroO vidx vlookup vmget vmapUpdate vdelete vclear vnilq vnilp vnils vbin vsc vsc1 vscs vscl abinOp aint ashift aunOp aconvert amaxs amax2 pvcV pvc pvcs tput tget vargs VHeap.get VHeap.alloc VHeap.put VHeap.drop VHeap.empty vlook vput vdrop psplice pfill preps chunk List.range List.range.loop vresults vresult vresultV frz frzL PV.isF PV.allF PV.scal PV.allS retP subT allFT PV.one PV.ids PV.idsL dropL beq_eq ble_dec blt_dec
@[simp] theorem all_one_int (k : IntKind) (l : List Int) : (l.map (PV.int k)).all PV.one = true := by simp [PV.one]
theorem frz_own_int (vh : VHeap) (i k : Nat) (l : List Int) (hg : vh.get i = some (.arr false 1 (l.map (PV.int .i64)))) : frz vh (.own i 0 l.length k) = some (ints l) := by
 by_cases h : l.length = 0
 ·have := List.eq_nil_of_length_eq_zero h
  subst this; rfl
 ·have h1 : Nat.beq l.length 0 = false := by rw [beq_eq]; simpa using h
  have h2 : (l.map (PV.int .i64)).take l.length = l.map (PV.int .i64) := by
   have := List.take_length (l := l.map (PV.int .i64)); simpa using this
  simp only [frz, h1, cond_false, hg, velems]
  simp only [all_one_int, beq_eq, ble_dec, List.drop_zero, chunk, cond_false, h2, List.length_map]
  simp
def encX (x : Int × Int) : PV := .agg [.int .i64 x.1, .int .i64 x.2]
@[simp] theorem encX_cells (x : Int × Int) : (encX x).cells = [.int .i64 x.1, .int .i64 x.2] := rfl
@[simp] theorem encX_isF (x : Int × Int) : (encX x).isF = true := rfl
def swp (r : List Int) (x : Int × Int) : List Int := (r.set x.1.toNat (r.getD x.2.toNat 0)).set x.2.toNat (r.getD x.1.toNat 0)
def exch (r : List Int) (l : List (Int × Int)) : List Int := l.foldl swp r
@[simp] theorem swp_len (r : List Int) (x : Int × Int) : (swp r x).length = r.length := by simp [swp]
theorem set_put (r : List Int) (a : Nat) (y : Int) (h : a < r.length) : (r.map (PV.int .i64)).take a ++ PV.int .i64 y :: (r.map (PV.int .i64)).drop (a + 1) = (r.set a y).map (PV.int .i64) := by
 rw [List.map_set, List.set_eq_take_append_cons_drop, if_pos (by simpa using h)]
def okX (n : Nat) (l : List (Int × Int)) : Prop := ∀ x ∈ l, (0 ≤ x.1 ∧ x.1 ≤ (n : Int) - 1) ∧ 0 ≤ x.2 ∧ x.2 ≤ (n : Int) - 1
def goodX (n : Nat) (x : Int × Int) : Bool := (decide (0 ≤ x.1) && decide (x.1 ≤ (n : Int) - 1)) && (decide (0 ≤ x.2) && decide (x.2 ≤ (n : Int) - 1)) && !decide (x.1 = x.2)
def exE (row : List Int) (l : List (Int × Int)) : Int := if rowB row then (if 120 < l.length then 2 else if l.all (goodX row.length) then 0 else 1) else 1
theorem take_all {α : Type} {p : α → Prop} {l : List α} {k : Nat} (h : ∀ x ∈ l.take k, p x) (hk : k < l.length) (h1 : p l[k]) : ∀ x ∈ l.take (k + 1), p x := fun x hx => by
 rw [List.take_succ_eq_append_getElem hk] at hx
 rcases List.mem_append.1 hx with hx | hx
 ·exact h x hx
 ·rw [List.mem_singleton] at hx; rw [hx]; exact h1
end Go.Am.Hi
end
