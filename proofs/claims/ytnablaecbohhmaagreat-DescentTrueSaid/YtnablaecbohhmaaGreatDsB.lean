/-
 What is used in the proof of a statement (part DsB); no condition.
-/
import Derived.Test.YtnablaecbohhmaaGreatDsT
import Derived.Test.YtnablaecbohhmaaGreatVm2
import Derived.Test.YtnablaecbohhmaaGreatDsA
set_option linter.all false
section
namespace Go.Am.Ds
open Go Go.Am Go.Proofs
set_option maxHeartbeats 4000000
set_option linter.unusedSimpArgs false
set_option linter.unusedVariables false
attribute [local simp] vrun vwanted vyielded vop veval vevals vparts vO vbuiltin vlen vappend velems vcopy vmakeSlice vbuildSlice valloc vbox vmakeMap vload vpartT vpart vstore vfieldAddr vfield vindexAddr vindex vextract vslice vsliceZ vbounds vbnd zeroO vidx vlookup vmget vmapUpdate vdelete vnilq vnilp vnils vbin vsc vsc1 vscs vscl abinOp aint ashift aunOp aconvert amaxs amax2 pvcV pvc pvcs tput tget vargs VHeap.get VHeap.alloc VHeap.put VHeap.drop VHeap.empty vlook vput vdrop psplice pfill preps chunk List.range List.range.loop vresults vresult vresultV frz frzL PV.isF PV.allF PV.scal PV.allS retP subT allFT PV.one PV.ids PV.idsL dropL beq_eq ble_dec blt_dec
theorem p120 (n a b : Int) : VPure Tryz.prog 120 [.int .i64 n, .int .i64 a, .int .i64 b] fun r => r = .bool (decide (a ≤ n) && decide (n ≤ b)) := by
 refine .of_body Tryz.func120 rfl rfl ?_
 refine .seq ?_
 refine .rn ?_
 refine .seq ?_
 refine .regionL [0,1,2,3,4,5,6,7,8] rfl zz0 ?_
 refine .rn [0,1,2,3] [4,5,6,7,8] ?_
 refine .split (t := 10) rfl (fun c10 => ?_) (fun c10 => ?_)
 ·rw [c10]
  try simp at c10
  refine .rn [4,5,6,7,8] [] ?_
  refine .done ?_
  refine .ret ?_
  refine ⟨_, _, zz4,zz4, ?_⟩
  simp <;> omega
 ·rw [c10]
  try simp at c10
  refine .rn [4,5,6,7,8] [] ?_
  refine .done ?_
  refine .ret ?_
  refine ⟨_, _, zz4,zz4, ?_⟩
  simp <;> omega
theorem mem_drop_step (l : List Int) (i : Nat) (h : i < l.length) (n : Int) : n ∈ l.drop i ↔ l[i] = n ∨ n ∈ l.drop (i + 1) := by
 rw [List.drop_eq_getElem_cons h, List.mem_cons]
 constructor <;> rintro (h | h)
 ·exact .inl h.symm
 ·exact .inr h
 ·exact .inl h.symm
 ·exact .inr h
theorem p121 (l : List Int) (n : Int) (hl : l.length < 4294967296) : VPure Tryz.prog 121 [ints l, .int .i64 n] fun r => r = .bool (decide (n ∈ l)) := by
 refine .of_body Tryz.func121 rfl rfl ?_
 refine .seq ?_
 refine .rn ?_
 refine .seq ?_
 refine .seq ?_
 refine .rn ?_
 refine .block ?_
 refine .loopS (fun i : Nat => ([(0, ints l),(1, .int .i64 n),(5, .int .i64 i)], VHeap.empty)) (fun i => i ≤ l.length ∧ (n ∈ l.drop i ↔ n ∈ l)) (fun i => l.length - i) 0 (by simp) (.pure (by simp [*]) (by simp)) ?_
 rintro i ⟨hi, hr⟩
 simp only at hi hr ⊢
 refine .seq ?_
 refine .seq ?_
 refine .rn ?_
 refine .condS rfl (fun c9 => ?_) (fun c9 => ?_)
 ·try simp at c9
  have hw2 : IntKind.i64.wrap ((i : Int) + 1) = (i : Int) + 1 := wrap64 (by omega) (by omega)
  rw [mem_drop_step l i c9 n] at hr
  refine .skip ?_
  refine .seq ?_
  refine .block ?_
  refine .seq ?_
  refine .rn ?_
  refine .condS rfl (fun c17 => ?_) (fun c17 => ?_)
  ·try simp at c17
   refine .seq ?_
   refine .rn ?_
   refine .ret ?_
   refine ⟨_, _, zz4,zz4, ?_⟩
   have : n ∈ l := hr.1 (.inl c17)
   simp [this]
  ·try simp at c17
   refine .skip ?_
   refine .rn ?_
   refine ⟨i + 1, ⟨zz5, ?_⟩, zz5, .pure (by simp [*]) (by simp)⟩
   rw [← hr]; simp [c17]
 ·try simp at c9
  have : i = l.length := by omega
  refine .exit ?_
  refine .seq ?_
  refine .rn ?_
  refine .ret ?_
  refine ⟨_, _, zz4,zz4, ?_⟩
  subst this
  have : ¬ n ∈ l := by rw [← hr]; simp
  simp [this]
theorem p172 (l : List Int) (lo : Int) (hl : l.length < 4294967296) (h1 : -9223372036854775808 < lo) (h2 : lo < 9223372036854775808) : VPure Tryz.prog 172 [ints l, .int .i64 lo, .int .i64 1099511627776] fun r => r = .bool (risingS l (lo - 1)) := by
 refine .of_body Tryz.func172 rfl rfl ?_
 refine .seq ?_
 refine .rn ?_
 refine .seq ?_
 refine .seq ?_
 refine .rn ?_
 refine .block ?_
 refine .loopS (fun s : Nat × Int => ([(0, ints l),(1, .int .i64 lo),(2, .int .i64 1099511627776),(7, .int .i64 s.1)], VHeap.empty)) (fun s => s.1 ≤ l.length ∧ lo - 1 ≤ s.2 ∧ (s.1 = 0 ∧ s.2 = lo - 1 ∨ 0 < s.1 ∧ l[s.1 - 1]? = some s.2) ∧ risingS (l.drop s.1) s.2 = risingS l (lo - 1)) (fun s => l.length - s.1) (0, lo - 1) (by simp) (.pure (by simp [*]) (by simp)) ?_
 rintro ⟨i, last⟩ ⟨hi, hla, hor, hr⟩
 simp only at hi hla hor hr ⊢
 refine .seq ?_
 refine .seq ?_
 refine .rn ?_
 refine .condS rfl (fun c12 => ?_) (fun c12 => ?_)
 ·try simp at c12
  have hw2 : IntKind.i64.wrap ((i : Int) + 1) = (i : Int) + 1 := wrap64 (by omega) (by omega)
  have hw3 : IntKind.i64.wrap ((i : Int) - 1) = (i : Int) - 1 := wrap64 (by omega) (by omega)
  rw [risingS_drop l i c12] at hr
  refine .skip ?_
  refine .seq ?_
  refine .block ?_
  refine .seq ?_
  refine .regionL [0,1,2,3,4,5,6,7] rfl zz0 ?_
  refine .rn [0,1,2,3,4,5] [6,7] ?_
  refine .step rfl rfl (.pure rfl rfl rfl Tryz.call120 (by decide) (p120 l[i] lo 1099511627776) (by first | rfl | simp [*]) ?_)
  rintro _ rfl
  refine .rn [7] [] ?_
  refine .done ?_
  refine .seq ?_
  refine .drawn (ms := [0,1,3,7,15,31,63,63,255,511,63,63,2111,6207,15423,31807,65535,131071,262143]) (W := []) (items := [.op 0, .op 1, .op 2, .op 3, .op 4, .op 5, .op 6, .op 7, .op 8, .op 9, .op 10, .op 11, .op 12, .op 13, .op 14, .op 15, .op 16, .op 17, .op 18]) rfl zz0 zz0 zz0 ?_
  refine .rd rfl rfl (by decide) rfl (by decide) zz1 ?_   -- 0
  refine .rd rfl rfl (by decide) rfl (by decide) zz1 ?_   -- 1
  refine .rd rfl rfl (by decide) rfl (by decide) zz1 ?_   -- 2
  refine .split (t := 24) rfl (fun c24 => ?_) (fun c24 => ?_)
  ·rw [c24]
   try simp at c24
   refine .un rfl rfl (by decide) ?_   -- 3
   refine .un rfl rfl (by decide) ?_   -- 4
   refine .un rfl rfl (by decide) ?_   -- 5
   refine .un rfl rfl (by decide) ?_   -- 6
   refine .un rfl rfl (by decide) ?_   -- 7
   refine .un rfl rfl (by decide) ?_   -- 8
   refine .un rfl rfl (by decide) ?_   -- 9
   refine .un rfl rfl (by decide) ?_   -- 10
   refine .un rfl rfl (by decide) ?_   -- 11
   refine .un rfl rfl (by decide) ?_   -- 12
   refine .un rfl rfl (by decide) ?_   -- 13
   refine .un rfl rfl (by decide) ?_   -- 14
   refine .un rfl rfl (by decide) ?_   -- 15
   refine .un rfl rfl (by decide) ?_   -- 16
   refine .un rfl rfl (by decide) ?_   -- 17
   refine .rd rfl rfl (by decide) rfl (by decide) zz1 ?_   -- 18
   refine .done ?_
   refine .condT rfl ?_
   refine .seq ?_
   refine .rn ?_
   refine .ret ?_
   refine ⟨_, _, zz4,zz4, ?_⟩
   rw [← hr, if_pos (by omega)]
  ·rw [c24]
   try simp at c24
   refine .rd rfl rfl (by decide) rfl (by decide) zz1 ?_   -- 3
   refine .rd rfl rfl (by decide) rfl (by decide) zz1 ?_   -- 4
   refine .rd rfl rfl (by decide) rfl (by decide) zz1 ?_   -- 5
   refine .split (t := 27) rfl (fun c27 => ?_) (fun c27 => ?_)
   ·rw [c27]
    try simp at c27
    have hl2 : l[i - 1]? = some last := by rcases hor with h | h; omega; exact h.2
    have hmx : (if 1 < (i : Int) then (i : Int) - 1 else 0) = ((i - 1 : Nat) : Int) := by split <;> omega
    have hi3 : i - 1 < l.length := by omega
    have hl3 : l[i - 1] = last := by rw [List.getElem?_eq_getElem hi3] at hl2; simpa using hl2
    refine .rd rfl rfl (by decide) rfl (by decide) zz1 ?_   -- 6
    refine .rd rfl rfl (by decide) rfl (by decide) zz1 ?_   -- 7
    refine .rd rfl rfl (by decide) rfl (by decide) zz1 ?_   -- 8
    refine .rd rfl rfl (by decide) rfl (by decide) zz1 ?_   -- 9
    refine .rd rfl rfl (by decide) rfl (by decide) zz1 ?_   -- 10
    refine .rd rfl rfl (by decide) rfl (by decide) zz1 ?_   -- 11
    refine .rd rfl rfl (by decide) rfl (by decide) zz1 ?_   -- 12
    refine .rd rfl rfl (by decide) rfl (by decide) zz1 ?_   -- 13
    refine .rd rfl rfl (by decide) rfl (by decide) zz1 ?_   -- 14
    refine .rd rfl rfl (by decide) rfl (by decide) zz1 ?_   -- 15
    refine .rd rfl rfl (by decide) rfl (by decide) zz1 ?_   -- 16
    refine .rd rfl rfl (by decide) rfl (by decide) zz1 ?_   -- 17
    refine .rd rfl rfl (by decide) rfl (by decide) zz1 ?_   -- 18
    refine .done ?_
    refine .condS rfl (fun c40 => ?_) (fun c40 => ?_)
    ·try simp at c40
     refine .seq ?_
     refine .rn ?_
     refine .ret ?_
     refine ⟨_, _, zz4,zz4, ?_⟩
     rw [← hr, if_pos (by omega)]
    ·try simp at c40
     refine .skip ?_
     refine .rn ?_
     rw [if_neg (by omega)] at hr
     refine ⟨(i + 1, l[i]), ⟨zz5,zz5, .inr ⟨by omega, by simp [c12]⟩, hr⟩, zz5, .pure (by simp [*]) (by simp)⟩
   ·rw [c27]
    try simp at c27
    refine .un rfl rfl (by decide) ?_   -- 6
    refine .un rfl rfl (by decide) ?_   -- 7
    refine .un rfl rfl (by decide) ?_   -- 8
    refine .un rfl rfl (by decide) ?_   -- 9
    refine .un rfl rfl (by decide) ?_   -- 10
    refine .un rfl rfl (by decide) ?_   -- 11
    refine .un rfl rfl (by decide) ?_   -- 12
    refine .un rfl rfl (by decide) ?_   -- 13
    refine .un rfl rfl (by decide) ?_   -- 14
    refine .un rfl rfl (by decide) ?_   -- 15
    refine .un rfl rfl (by decide) ?_   -- 16
    refine .rd rfl rfl (by decide) rfl (by decide) zz1 ?_   -- 17
    refine .rd rfl rfl (by decide) rfl (by decide) zz1 ?_   -- 18
    refine .done ?_
    refine .condF rfl ?_
    refine .skip ?_
    refine .rn ?_
    have : i = 0 := by omega
    rw [if_neg (by omega)] at hr
    subst this
    have h0 : IntKind.i64.wrap 1 = 1 := by decide
    refine ⟨(1, l[0]), ⟨zz5,zz5, .inr ⟨by omega, by simp [c12]⟩, hr⟩, zz5, .pure (by simp [*]) (by simp [*])⟩
 ·try simp at c12
  have : i = l.length := by omega
  refine .exit ?_
  refine .seq ?_
  refine .rn ?_
  refine .ret ?_
  refine ⟨_, _, zz4,zz4, ?_⟩
  rw [← hr, this, List.drop_length]; rfl
theorem mem_setK1 (m : Int) (l : List Int) : m ∈ setK [l] ↔ m ∈ l := by rw [mem_setK]; simp
theorem rightS_eq (w : Wit) : rightS w = (risingS w.slips 0 && (risingS w.mended 0 && (risingS w.models (-1) && (!decide (w.id ∈ w.models) && !(w.mended.any fun n => decide (n ∈ w.slips)))))) := by
 unfold rightS
 have h1 : (w.models.any fun a => decide (w.id = a)) = decide (w.id ∈ w.models) := by
  rw [Bool.eq_iff_iff]; simp
 have h2 : (w.slips.any fun n => decide (n ∈ setK [w.mended])) = (w.mended.any fun n => decide (n ∈ w.slips)) := by
  rw [Bool.eq_iff_iff]; simp only [List.any_eq_true, decide_eq_true_eq, mem_setK1]
  constructor <;> rintro ⟨x, h1, h2⟩ <;> exact ⟨x, h2, h1⟩
 rw [h1, h2]
theorem any_drop {α : Type} (p : α → Bool) (l : List α) (i : Nat) (h : i < l.length) : (l.drop i).any p = (p l[i] || (l.drop (i + 1)).any p) := by
 rw [List.drop_eq_getElem_cons h]; rfl
theorem p130 (w : Wit) (hs : w.slips.length < 4294967296) (hm : w.mended.length < 4294967296) (ho : w.models.length < 4294967296) : VPure Tryz.prog 130 [encW w] fun r => r = .int .i64 (witE w) := by
 have hR := rightS_eq w
 refine .of_body Tryz.func130 rfl rfl ?_
 refine .seq ?_
 refine .rn ?_
 refine .seq ?_
 refine .regionL [0,1,2,3] rfl zz0 ?_
 refine .rn [0,1] [2,3] ?_
 refine .step rfl rfl (.pure rfl rfl rfl Tryz.call120 (by decide) (p120 w.id 1 1099511627776) (by first | rfl | simp [*]) ?_)
 rintro _ rfl
 refine .rn [3] [] ?_
 refine .done ?_
 refine .seq ?_
 refine .regionL [0,1,2,3] rfl zz0 ?_
 refine .rn [0,1] [2,3] ?_
 refine .step rfl rfl (.pure rfl rfl rfl Tryz.call120 (by decide) (p120 w.known 0 730) (by first | rfl | simp [*]) ?_)
 rintro _ rfl
 refine .rn [3] [] ?_
 refine .done ?_
 refine .seq ?_
 refine .seq ?_
 refine .regionL [0,1,2,3,4,5,6,7,8,9,10,11,12,13,14,15,16,17,18,19,20,21,22,23,24,25,26] rfl zz0 ?_
 refine .rn [0,1,2] [3,4,5,6,7,8,9,10,11,12,13,14,15,16,17,18,19,20,21,22,23,24,25,26] ?_
 refine .split (t := 19) rfl (fun c19 => ?_) (fun c19 => ?_)
 ·rw [c19]
  try simp at c19
  refine .rn [3,4,5,6,7,8,9,10,11,12,13,14,15,16,17,18,19,20,21,22,23,24,25,26] [] ?_
  refine .done ?_
  refine .condT rfl ?_
  refine .seq ?_
  refine .rn ?_
  refine .ret ?_
  refine ⟨_, _, zz4,zz4, ?_⟩
  congr 1; unfold witE; (repeat' split) <;> first | rfl | omega | (simp_all; done)
 ·rw [c19]
  try simp at c19
  refine .rn [3,4,5,6] [7,8,9,10,11,12,13,14,15,16,17,18,19,20,21,22,23,24,25,26] ?_
  refine .split (t := 23) rfl (fun c23 => ?_) (fun c23 => ?_)
  ·rw [c23]
   try simp at c23
   refine .rn [7,8,9,10,11,12,13,14,15,16,17,18,19,20,21,22,23,24,25,26] [] ?_
   refine .done ?_
   refine .condT rfl ?_
   refine .seq ?_
   refine .rn ?_
   refine .ret ?_
   refine ⟨_, _, zz4,zz4, ?_⟩
   congr 1; unfold witE; (repeat' split) <;> first | rfl | omega | (simp_all; done)
  ·rw [c23]
   try simp at c23
   refine .rn [7,8,9,10,11,12] [13,14,15,16,17,18,19,20,21,22,23,24,25,26] ?_
   refine .split (t := 29) rfl (fun c29 => ?_) (fun c29 => ?_)
   ·rw [c29]
    try simp at c29
    refine .rn [13,14,15,16,17,18,19,20,21,22,23,24,25,26] [] ?_
    refine .done ?_
    refine .condT rfl ?_
    refine .seq ?_
    refine .rn ?_
    refine .ret ?_
    refine ⟨_, _, zz4,zz4, ?_⟩
    congr 1; unfold witE; (repeat' split) <;> first | rfl | omega | (simp_all; done)
   ·rw [c29]
    try simp at c29
    refine .rn [13,14,15,16,17,18,19,20,21] [22,23,24,25,26] ?_
    refine .split (t := 38) rfl (fun c38 => ?_) (fun c38 => ?_)
    ·rw [c38]
     try simp at c38
     refine .rn [22,23,24,25,26] [] ?_
     refine .done ?_
     refine .condT rfl ?_
     refine .seq ?_
     refine .rn ?_
     refine .ret ?_
     refine ⟨_, _, zz4,zz4, ?_⟩
     congr 1; unfold witE; (repeat' split) <;> first | rfl | omega | (simp_all; done)
    ·rw [c38]
     try simp at c38
     refine .rn [22,23,24,25,26] [] ?_
     refine .done ?_
     refine .condS rfl (fun c43 => ?_) (fun c43 => ?_)
     ·try simp at c43
      refine .seq ?_
      refine .rn ?_
      refine .ret ?_
      refine ⟨_, _, zz4,zz4, ?_⟩
      congr 1; unfold witE; (repeat' split) <;> first | rfl | omega | (simp_all; done)
     ·try simp at c43
      refine .skip ?_
      refine .seq ?_
      refine .seq ?_
      refine .regionL [0,1,2,3,4,5,6,7,8,9,10,11,12,13,14,15] rfl zz0 ?_
      refine .rn [0,1,2,3,4] [5,6,7,8,9,10,11,12,13,14,15] ?_
      refine .split (t := 48) rfl (fun c48 => ?_) (fun c48 => ?_)
      ·rw [c48]
       try simp at c48
       refine .rn [5,6,7,8,9,10,11,12,13,14,15] [] ?_
       refine .done ?_
       refine .condT rfl ?_
       refine .seq ?_
       refine .rn ?_
       refine .ret ?_
       refine ⟨_, _, zz4,zz4, ?_⟩
       congr 1; unfold witE; (repeat' split) <;> first | rfl | omega | (simp_all; done)
      ·rw [c48]
       try simp at c48
       refine .rn [5,6,7,8,9,10] [11,12,13,14,15] ?_
       refine .split (t := 54) rfl (fun c54 => ?_) (fun c54 => ?_)
       ·rw [c54]
        try simp at c54
        refine .rn [11,12,13,14,15] [] ?_
        refine .done ?_
        refine .condT rfl ?_
        refine .seq ?_
        refine .rn ?_
        refine .ret ?_
        refine ⟨_, _, zz4,zz4, ?_⟩
        congr 1; unfold witE; (repeat' split) <;> first | rfl | omega | (simp_all; done)
       ·rw [c54]
        try simp at c54
        refine .rn [11,12,13,14,15] [] ?_
        refine .done ?_
        refine .condS rfl (fun c59 => ?_) (fun c59 => ?_)
        ·try simp at c59
         refine .seq ?_
         refine .rn ?_
         refine .ret ?_
         refine ⟨_, _, zz4,zz4, ?_⟩
         congr 1; unfold witE; (repeat' split) <;> first | rfl | omega | (simp_all; done)
        ·try simp at c59
         refine .skip ?_
         refine .seq ?_
         refine .regionL [0,1,2,3] rfl zz0 ?_
         refine .rn [0,1] [2,3] ?_
         refine .step rfl rfl (.pure rfl rfl rfl Tryz.call172 (by decide) (p172 w.slips 1 hs (by omega) (by omega)) (by first | rfl | simp [*]) ?_)
         rintro _ rfl
         refine .rn [3] [] ?_
         refine .done ?_
         refine .seq ?_
         refine .regionL [0,1,2,3] rfl zz0 ?_
         refine .rn [0,1] [2,3] ?_
         refine .step rfl rfl (.pure rfl rfl rfl Tryz.call172 (by decide) (p172 w.mended 1 hm (by omega) (by omega)) (by first | rfl | simp [*]) ?_)
         rintro _ rfl
         refine .rn [3] [] ?_
         refine .done ?_
         refine .seq ?_
         refine .regionL [0,1,2,3] rfl zz0 ?_
         refine .rn [0,1] [2,3] ?_
         refine .step rfl rfl (.pure rfl rfl rfl Tryz.call172 (by decide) (p172 w.models 0 ho (by omega) (by omega)) (by first | rfl | simp [*]) ?_)
         rintro _ rfl
         refine .rn [3] [] ?_
         refine .done ?_
         refine .seq ?_
         refine .regionL [0,1,2,3,4,5] rfl zz0 ?_
         refine .rn [0,1,2,3] [4,5] ?_
         refine .step rfl rfl (.pure rfl rfl rfl Tryz.call121 (by decide) (p121 w.models w.id ho) (by first | rfl | simp [*]) ?_)
         rintro _ rfl
         refine .rn [5] [] ?_
         refine .done ?_
         refine .seq ?_
         refine .seq ?_
         refine .regionL [0,1,2,3,4,5,6,7,8,9,10,11,12] rfl zz0 ?_
         refine .rn [0,1,2] [3,4,5,6,7,8,9,10,11,12] ?_
         refine .split (t := 76) rfl (fun c76 => ?_) (fun c76 => ?_)
         ·rw [c76]
          try simp at c76
          refine .rn [3,4,5,6,7,8,9,10,11,12] [] ?_
          refine .done ?_
          refine .condT rfl ?_
          refine .seq ?_
          refine .rn ?_
          refine .ret ?_
          refine ⟨_, _, zz4,zz4, ?_⟩
          congr 1; unfold witE; (repeat' split) <;> first | rfl | omega | (simp_all; done)
         ·rw [c76]
          try simp at c76
          refine .rn [3,4,5,6] [7,8,9,10,11,12] ?_
          refine .split (t := 80) rfl (fun c80 => ?_) (fun c80 => ?_)
          ·rw [c80]
           try simp at c80
           refine .rn [7,8,9,10,11,12] [] ?_
           refine .done ?_
           refine .condT rfl ?_
           refine .seq ?_
           refine .rn ?_
           refine .ret ?_
           refine ⟨_, _, zz4,zz4, ?_⟩
           congr 1; unfold witE; (repeat' split) <;> first | rfl | omega | (simp_all; done)
          ·rw [c80]
           try simp at c80
           refine .rn [7,8,9,10] [11,12] ?_
           refine .split (t := 84) rfl (fun c84 => ?_) (fun c84 => ?_)
           ·rw [c84]
            try simp at c84
            refine .rn [11,12] [] ?_
            refine .done ?_
            refine .condT rfl ?_
            refine .seq ?_
            refine .rn ?_
            refine .ret ?_
            refine ⟨_, _, zz4,zz4, ?_⟩
            congr 1; unfold witE; (repeat' split) <;> first | rfl | omega | (simp_all; done)
           ·rw [c84]
            try simp at c84
            refine .rn [11,12] [] ?_
            refine .done ?_
            refine .condS rfl (fun c86 => ?_) (fun c86 => ?_)
            ·try simp at c86
             refine .seq ?_
             refine .rn ?_
             refine .ret ?_
             refine ⟨_, _, zz4,zz4, ?_⟩
             congr 1; unfold witE; (repeat' split) <;> first | rfl | omega | (simp_all; done)
            ·try simp at c86
             refine .skip ?_
             refine .seq ?_
             refine .seq ?_
             refine .rn ?_
             refine .block ?_
             refine .loopS (fun i : Nat => ([(1, .ptr 0 0),(9, .int .i64 i)], ⟨1,[(0, .box [.int .i64 w.id, .int .i64 w.known, ints w.slips, ints w.mended, ints w.models, .int .i64 w.lo, .int .i64 w.hi])]⟩)) (fun i => i ≤ w.mended.length ∧ ((w.mended.drop i).any fun n => decide (n ∈ w.slips)) = (w.mended.any fun n => decide (n ∈ w.slips))) (fun i => w.mended.length - i) 0 (by simp) (.mk [] [] zz2 zz3 rfl rfl rfl) ?_
             rintro i ⟨hi, hr⟩
             simp only at hi hr ⊢
             refine .seq ?_
             refine .seq ?_
             refine .rn ?_
             refine .condS rfl (fun c91 => ?_) (fun c91 => ?_)
             ·try simp at c91
              have hw2 : IntKind.i64.wrap ((i : Int) + 1) = (i : Int) + 1 := wrap64 (by omega) (by omega)
              rw [any_drop _ w.mended i c91] at hr
              refine .skip ?_
              refine .seq ?_
              refine .block ?_
              refine .seq ?_
              refine .drawn (ms := [0,1,0,4,0,28,60,127,255]) (W := [7]) (items := [.op 0, .op 1, .op 2, .op 3, .op 4, .op 5, .op 6, .op 7, .op 8]) rfl zz0 zz0 zz0 ?_
              refine .rd rfl rfl (by decide) rfl (by decide) zz1 ?_   -- 0
              refine .rd rfl rfl (by decide) rfl (by decide) zz1 ?_   -- 1
              refine .rd rfl rfl (by decide) rfl (by decide) zz1 ?_   -- 2
              refine .rd rfl rfl (by decide) rfl (by decide) zz1 ?_   -- 3
              refine .rd rfl rfl (by decide) rfl (by decide) zz1 ?_   -- 4
              refine .rd rfl rfl (by decide) rfl (by decide) zz1 ?_   -- 5
              refine .rd rfl rfl (by decide) rfl (by decide) zz1 ?_   -- 6
              refine .wr rfl rfl (by decide) (.pure rfl rfl rfl Tryz.call121 (by decide) (p121 w.slips w.mended[i] hs) (by first | rfl | simp [*]) ?_)
              rintro _ rfl
              refine .rd rfl rfl (by decide) rfl (by decide) zz1 ?_   -- 8
              refine .done ?_
              refine .seq ?_
              refine .rn ?_
              refine .condS rfl (fun c102 => ?_) (fun c102 => ?_)
              ·try simp at c102
               refine .seq ?_
               refine .rn ?_
               refine .ret ?_
               refine ⟨_, _, zz4,zz4, ?_⟩
               congr 1; unfold witE; (repeat' split) <;> first | rfl | omega | (simp_all; done)
              ·try simp at c102
               refine .skip ?_
               refine .rn ?_
               refine ⟨i + 1, ⟨zz5, ?_⟩, zz5,(.mk [] [] zz2 zz3 rfl rfl rfl)⟩
               rw [← hr]; simp [c102]
             ·try simp at c91
              have : i = w.mended.length := by omega
              refine .exit ?_
              refine .seq ?_
              refine .rn ?_
              refine .ret ?_
              refine ⟨_, _, zz4,zz4, ?_⟩
              have h0 : (w.mended.any fun n => decide (n ∈ w.slips)) = false := by rw [← hr, this, List.drop_length]; rfl
              rw [h0] at hR
              have hR2 : rightS w = true := by rw [hR]; simp [c76, c80, c84, c86]
              congr 1; unfold witE; (repeat' split) <;> first | rfl | omega | (simp_all; done)
theorem insU_foldl_mem (n : Int) (s : List Wit) : n ∈ (s.map Wit.id).foldl insU [] ↔ ∃ w ∈ s, w.id = n := by
 rw [mem_foldl_insU]; simp
end Go.Am.Ds
end

section
namespace Go.Am.Ds
open Go Go.Am Go.Proofs
set_option maxHeartbeats 4000000
set_option linter.unusedSimpArgs false
set_option linter.unusedVariables false
attribute [local simp] vrun vwanted vyielded vop veval vevals vparts vO vbuiltin vlen vappend velems vcopy vmakeSlice vbuildSlice valloc vbox vmakeMap vload vpartT vpart vstore vfieldAddr vfield vindexAddr vindex vextract vslice vsliceZ vbounds vbnd zeroO vidx vlookup vmget vmapUpdate vdelete vnilq vnilp vnils vbin vsc vsc1 vscs vscl abinOp aint ashift aunOp aconvert amaxs amax2 pvcV pvc pvcs tput tget vargs VHeap.get VHeap.alloc VHeap.put VHeap.drop VHeap.empty vlook vput vdrop psplice pfill preps chunk List.range List.range.loop vresults vresult vresultV frz frzL PV.isF PV.allF PV.scal PV.allS retP subT allFT PV.one PV.ids PV.idsL dropL beq_eq ble_dec blt_dec
theorem foldl_insU_snoc (s : List Wit) (i : Nat) (h : i < s.length) : ((s.take (i + 1)).map Wit.id).foldl insU [] = insU (((s.take i).map Wit.id).foldl insU []) s[i].id := by
 rw [take_succ_map Wit.id s i h, List.foldl_append]; rfl
theorem p52 (s : List Wit) (hl : s.length < 4294967296) (hw : ∀ w ∈ s, w.slips.length < 4294967296 ∧ w.mended.length < 4294967296 ∧ w.models.length < 4294967296) : VPure Tryz.prog 52 [encS s] fun r => r = .int .i64 (checkS s) := by
 refine .of_body Tryz.func52 rfl rfl ?_
 refine .seq ?_
 refine .rn ?_
 refine .seq ?_
 refine .seq ?_
 refine .rn ?_
 refine .condS rfl (fun c9 => ?_) (fun c9 => ?_)
 ·try simp at c9
  refine .seq ?_
  refine .rn ?_
  refine .ret ?_
  refine ⟨_, _, zz4,zz4, ?_⟩
  simp [checkS]; omega
 ·try simp at c9
  have hc : checkL s [] = checkS s := by unfold checkS; rw [if_neg (by omega)]
  refine .skip ?_
  refine .seq ?_
  refine .seq ?_
  refine .rn ?_
  refine .block ?_
  refine .loopS (fun i : Nat => ([(1, .ptr 0 0),(3, .int .i64 i)], ⟨1,[(0, .box [.vec (s.map encW)])]⟩)) (fun i => i ≤ s.length ∧ checkL (s.drop i) (((s.take i).map Wit.id).foldl insU []) = checkS s) (fun i => s.length - i) 0 (by simpa using hc) (.mk [] [] zz2 zz3 rfl rfl rfl) ?_
  rintro i ⟨hi, hr⟩
  simp only at hi hr ⊢
  refine .seq ?_
  refine .seq ?_
  refine .rn ?_
  refine .condS rfl (fun c14 => ?_) (fun c14 => ?_)
  ·try simp at c14
   have hw2 : IntKind.i64.wrap ((i : Int) + 1) = (i : Int) + 1 := wrap64 (by omega) (by omega)
   rw [checkL_drop s i c14] at hr
   obtain ⟨hw3, hw4, hw5⟩ := hw s[i] (List.getElem_mem c14)
   refine .skip ?_
   refine .seq ?_
   refine .block ?_
   refine .seq ?_
   refine .regionL [0,1,2,3,4,5,6] rfl zz0 ?_
   refine .rn [0,1,2,3,4] [5,6] ?_
   refine .step rfl rfl (.pure rfl rfl rfl Tryz.call130 (by decide) (p130 s[i] hw3 hw4 hw5) (by first | rfl | simp [*]) ?_)
   rintro _ rfl
   refine .rn [6] [] ?_
   refine .done ?_
   refine .seq ?_
   refine .seq ?_
   refine .rn ?_
   refine .condS rfl (fun c24 => ?_) (fun c24 => ?_)
   ·try simp at c24
    refine .seq ?_
    refine .rn ?_
    refine .ret ?_
    refine ⟨_, _, zz4,zz4, ?_⟩
    rw [← hr, if_neg c24]
   ·try simp at c24
    rw [if_pos c24] at hr
    refine .skip ?_
    refine .seq ?_
    refine .rn ?_
    refine .block ?_
    refine .loopS (fun k : Nat => ([(1, .ptr 0 0),(3, .int .i64 i),(5, .int .i64 k)], ⟨1,[(0, .box [.vec (s.map encW)])]⟩)) (fun k => k ≤ i ∧ ∀ w ∈ s.take k, w.id ≠ s[i].id) (fun k => i - k) 0 (by simp) (.mk [] [] zz2 zz3 rfl rfl rfl) ?_
    rintro k ⟨hk, hr2⟩
    simp only at hk hr2 ⊢
    refine .seq ?_
    refine .seq ?_
    refine .rn ?_
    refine .condS rfl (fun c28 => ?_) (fun c28 => ?_)
    ·try simp at c28
     have hk3 : k < s.length := by omega
     have hw6 : IntKind.i64.wrap ((k : Int) + 1) = (k : Int) + 1 := wrap64 (by omega) (by omega)
     refine .skip ?_
     refine .seq ?_
     refine .block ?_
     refine .seq ?_
     refine .drawn (ms := [0,1,0,7,15,31,0,64,0,448,960,1984,4095]) (W := []) (items := [.op 0, .op 1, .op 2, .op 3, .op 4, .op 5, .op 6, .op 7, .op 8, .op 9, .op 10, .op 11, .op 12]) rfl zz0 zz0 zz0 ?_
     refine .rd rfl rfl (by decide) rfl (by decide) zz1 ?_   -- 0
     refine .rd rfl rfl (by decide) rfl (by decide) zz1 ?_   -- 1
     refine .rd rfl rfl (by decide) rfl (by decide) zz1 ?_   -- 2
     refine .rd rfl rfl (by decide) rfl (by decide) zz1 ?_   -- 3
     refine .rd rfl rfl (by decide) rfl (by decide) zz1 ?_   -- 4
     refine .rd rfl rfl (by decide) rfl (by decide) zz1 ?_   -- 5
     refine .rd rfl rfl (by decide) rfl (by decide) zz1 ?_   -- 6
     refine .rd rfl rfl (by decide) rfl (by decide) zz1 ?_   -- 7
     refine .rd rfl rfl (by decide) rfl (by decide) zz1 ?_   -- 8
     refine .rd rfl rfl (by decide) rfl (by decide) zz1 ?_   -- 9
     refine .rd rfl rfl (by decide) rfl (by decide) zz1 ?_   -- 10
     refine .rd rfl rfl (by decide) rfl (by decide) zz1 ?_   -- 11
     refine .rd rfl rfl (by decide) rfl (by decide) zz1 ?_   -- 12
     refine .done ?_
     refine .condS rfl (fun c43 => ?_) (fun c43 => ?_)
     ·try simp at c43
      refine .seq ?_
      refine .rn ?_
      refine .ret ?_
      refine ⟨_, _, zz4,zz4, ?_⟩
      have hm : s[i].id ∈ ((s.take i).map Wit.id).foldl insU [] := by
       rw [insU_foldl_mem]
       exact ⟨s[k], by rw [List.mem_take_iff_getElem]; exact ⟨k, by omega, rfl⟩, c43⟩
      rw [← hr, if_pos hm]
     ·try simp at c43
      refine .skip ?_
      refine .rn ?_
      refine ⟨k + 1, ⟨zz5, fun w hw => ?_⟩, zz5,(.mk [] [] zz2 zz3 rfl rfl rfl)⟩
      rw [List.take_succ_eq_append_getElem hk3, List.mem_append] at hw
      rcases hw with hw | hw
      ·exact hr2 w hw
      ·simp at hw; subst hw; exact c43
    ·try simp at c28
     have hki : k = i := by omega
     refine .exit ?_
     refine .rn ?_
     subst hki
     have hm : ¬ s[k].id ∈ ((s.take k).map Wit.id).foldl insU [] := by
      rw [insU_foldl_mem]
      rintro ⟨w, hw, he⟩
      exact hr2 w hw he
     rw [if_neg hm, ← foldl_insU_snoc s k c14] at hr
     exact ⟨k + 1, ⟨zz5, hr⟩, zz5,(.mk [] [] zz2 zz3 rfl rfl rfl)⟩
  ·try simp at c14
   have : i = s.length := by omega
   refine .exit ?_
   refine .seq ?_
   refine .rn ?_
   refine .ret ?_
   refine ⟨_, _, zz4,zz4, ?_⟩
   rw [← hr, this, List.drop_length]; rfl
end Go.Am.Ds
end
