/-
  What is used in the proof of a statement (part DsH); no condition.
-/
import Derived.Test.YtnablaecbohhmaaGreatDsT
import Derived.Test.YtnablaecbohhmaaGreatVm2
import Derived.Test.YtnablaecbohhmaaGreatDsG
set_option linter.all false
section
namespace Go.Am.Ds
open Go Go.Am Go.Proofs
set_option maxRecDepth 100000
set_option maxHeartbeats 4000000
set_option linter.unusedSimpArgs false
set_option linter.unusedVariables false
attribute [local simp] vrun vwanted vyielded vop vopA vputAll VHeap.back hidI hidF backL bm Nat.testBit_eq_decide_div_mod_eq veval vevals vparts vO vbuiltin vlen vappend velems vcopy vmakeSlice vbuildSlice valloc vbox vmakeMap vload vpartT vpart vstore vfieldAddr vfield vindexAddr vindex vextract vslice vsliceZ vbounds vbnd zeroO vidx vlookup vmget vmapUpdate vdelete vclear vnilq vnilp vnils vbin vsc vsc1 vscs vscl abinOp aint ashift aunOp aconvert amaxs amax2 pvcV pvc pvcs tput tget vargs VHeap.get VHeap.alloc VHeap.put VHeap.drop VHeap.empty vlook vput vdrop psplice pfill preps chunk List.range List.range.loop vresults vresult vresultV frz frzL PV.isF PV.allF PV.scal PV.allS retP subT allFT PV.one PV.ids PV.idsL dropL beq_eq ble_dec blt_dec
attribute [local simp] zW tup2
def lowN (l : List Int) (n : Int) : Nat := match l with
  | [] => 0
  | a :: r => if a < n then lowN r n + 1 else 0
def putS (l : List Int) (n : Int) : List Int := if l[lowN l n]? = some n then l else l.take (lowN l n) ++ [n] ++ l.drop (lowN l n)
theorem lowN_drop (l : List Int) (n : Int) (i : Nat) (h : i < l.length) : lowN (l.drop i) n = if l[i] < n then lowN (l.drop (i + 1)) n + 1 else 0 := by
  rw [List.drop_eq_getElem_cons h]; rfl
theorem allSz_take_int (l : List Int) (k : Nat) : allSz 1 ((l.map (PV.int .i64)).take k) = true := allSz_take (allSz_int .i64 l)
theorem allSz_drop_int (l : List Int) (k : Nat) : allSz 1 ((l.map (PV.int .i64)).drop k) = true := allSz_drop (allSz_int .i64 l)
theorem allOne_take_int (l : List Int) (k : Nat) : allOne ((l.map (PV.int .i64)).take k) = true := by rw [← List.map_take]; exact allOne_int .i64 _
theorem allOne_drop_int (l : List Int) (k : Nat) : allOne ((l.map (PV.int .i64)).drop k) = true := by rw [← List.map_drop]; exact allOne_int .i64 _
theorem p104 (s : List Wit) (id : Int) (hl : s.length < 4294967296) : VPure Tryz.prog 104 [encS s, .int .i64 id] fun r => r = .int .i64 (findI s id) := by
  refine .of_body Tryz.func104 rfl rfl ?_
  refine .seq ?_
  refine .rn ?_
  refine .seq ?_
  refine .seq ?_
  refine .rn ?_
  refine .block ?_
  refine .loopS (fun i : Nat => ([(1, .int .i64 id),(2, .ptr 0 0),(5, .int .i64 i)], ⟨1,[(0, .box [.vec (s.map encW)])]⟩)) (fun i => i ≤ s.length ∧ idxF (fun w : Wit => decide (w.id = id)) i (s.drop i) = findI s id) (fun i => s.length - i) 0 ⟨by simp, rfl⟩ (.mk [] [] zz10 zz11 rfl rfl rfl) ?_
  rintro i ⟨hi, hr⟩
  simp only at hi hr ⊢
  refine .seq ?_
  refine .seq ?_
  refine .rn ?_
  refine .condS rfl (fun c10 => ?_) (fun c10 => ?_)
  · try simp at c10
    have hw2 : IntKind.i64.wrap ((i : Int) + 1) = (i : Int) + 1 := wrap64 (by omega) (by omega)
    rw [idxF_drop _ s i c10] at hr
    have hE : encW s[i] = .agg [.int .i64 s[i].id, .int .i64 s[i].known, ints s[i].slips, ints s[i].mended, ints s[i].models, .int .i64 s[i].lo, .int .i64 s[i].hi] := rfl
    refine .skip ?_
    refine .seq ?_
    refine .block ?_
    refine .seq ?_
    refine .rn ?_
    refine .condS rfl (fun c20 => ?_) (fun c20 => ?_)
    · try simp at c20
      refine .seq ?_
      refine .rn ?_
      refine .ret ?_
      refine ⟨_, _, zz4,zz4, ?_⟩
      rw [← hr, if_pos (by simp [c20])]
    · try simp at c20
      refine .skip ?_
      refine .rn ?_
      refine ⟨i + 1, ⟨zz5, ?_⟩, zz5,(.mk [] [] zz10 zz11 rfl rfl rfl)⟩
      rw [← hr, if_neg (by simp [c20])]
  · try simp at c10
    have : i = s.length := by omega
    refine .exit ?_
    refine .seq ?_
    refine .rn ?_
    refine .ret ?_
    refine ⟨_, _, zz4,zz4, ?_⟩
    rw [← hr, this, List.drop_length]; rfl
theorem p147 (l : List Int) (n : Int) (hl : l.length < 4294967295) : VPure Tryz.prog 147 [ints l, .int .i64 n] fun r => r = ints (putS l n) := by
  refine .of_body Tryz.func147 rfl rfl ?_
  refine .seq ?_
  refine .rn ?_
  refine .seq ?_
  refine .rn ?_
  refine .seq ?_
  refine .block ?_
  refine .loopS (fun i : Nat => ([(0, ints l),(1, .int .i64 n),(5, .int .i64 i)], VHeap.empty)) (fun i => i ≤ l.length ∧ i + lowN (l.drop i) n = lowN l n) (fun i => l.length - i) 0 ⟨by simp, by simp⟩ (.pure (by simp [*]) (by simp)) ?_
  rintro i ⟨hi, hr⟩
  simp only at hi hr ⊢
  refine .seq ?_
  refine .seq ?_
  refine .regionL [0,1,2,3,4,5,6,7,8,9,10,11] rfl zz0 ?_
  refine .rn [0,1,2,3,4] [5,6,7,8,9,10,11] ?_
  refine .split (t := 10) rfl (fun c10 => ?_) (fun c10 => ?_)
  · try rw [c10]
    try simp at c10
    have hw2 : IntKind.i64.wrap ((i : Int) + 1) = (i : Int) + 1 := wrap64 (by omega) (by omega)
    rw [lowN_drop l n i c10] at hr
    refine .rn [5,6,7,8,9,10,11] [] ?_
    refine .done ?_
    refine .condS rfl (fun c17 => ?_) (fun c17 => ?_)
    · try simp at c17
      refine .skip ?_
      refine .block ?_
      refine .rn ?_
      refine ⟨i + 1, ⟨zz5, ?_⟩, zz5, .pure (by simp [*]) (by simp)⟩
      rw [← hr, if_pos c17]; omega
    · try simp at c17
      have hlow : lowN l n = i := by rw [← hr, if_neg (by omega)]; rfl
      have g1 := allSz_take_int l i
      have g2 := allSz_drop_int l i
      have g3 := allOne_take_int l i
      have g4 := allOne_drop_int l i
      have g5 : min i l.length = i := Nat.min_eq_left hi
      have g6 : i ≤ 4294967296 := by omega
      have g7 : i + 1 ≤ 4294967296 := by omega
      have g8 : i + 1 + (l.length - i) ≤ 4294967296 := by omega
      have g9 : allOne [PV.int .i64 n] = true := rfl
      have g20 : i + (l.length - i + 1) = i + 1 + (l.length - i) := by omega
      have g10 : List.take (l.length - i) (List.drop i (l.map (PV.int .i64))) = List.drop i (l.map (PV.int .i64)) := List.take_of_length_le (by simp)
      refine .exit ?_
      refine .seq ?_
      refine .seq ?_
      refine .regionL [0,1,2,3,4,5,6,7,8,9,10,11] rfl zz0 ?_
      refine .rn [0,1,2,3,4] [5,6,7,8,9,10,11] ?_
      refine .split (t := 24) rfl (fun c24 => ?_) (fun c24 => ?_)
      · try rw [c24]
        try simp at c24
        refine .rn [5,6,7,8,9,10,11] [] ?_
        refine .done ?_
        refine .condS rfl (fun c31 => ?_) (fun c31 => ?_)
        · try simp at c31
          refine .seq ?_
          refine .rn ?_
          refine .ret ?_
          refine ⟨_, _, zz4,zz4, ?_⟩
          have e : putS l n = l := by unfold putS; rw [hlow, if_pos (by rw [List.getElem?_eq_getElem c10, c31])]
          rw [e]
        · try simp at c31
          refine .skip ?_
          refine .seq ?_
          refine .drawnF (ms := [0,0,0,6,15,0,32,127,0,0,768,2047,4095]) (W := [0,4,7,11]) (As := [6]) (items := [.op 1, .op 2, .op 3, .op 5, .op 6, .op 8, .op 9, .op 10, .op 0, .op 4, .op 7, .op 11, .op 12]) rfl zz0 zz0 zz0 zz0 (by decide) ?_
          refine .rd rfl rfl (by decide) (by decide) (by decide) rfl (by decide) zz1 ?_   -- 1
          refine .rd rfl rfl (by decide) (by decide) (by decide) rfl (by decide) zz1 ?_   -- 2
          refine .rd rfl rfl (by decide) (by decide) (by decide) rfl (by decide) zz1 ?_   -- 3
          refine .rd rfl rfl (by decide) (by decide) (by decide) rfl (by decide) zz1 ?_   -- 5
          refine .al rfl rfl (by decide) (by decide) (by decide) (by decide) zz1 ?_   -- 6
          refine .rd rfl rfl (by decide) (by decide) (by decide) rfl (by decide) zz1 ?_   -- 8
          refine .rd rfl rfl (by decide) (by decide) (by decide) rfl (by decide) zz1 ?_   -- 9
          refine .rd rfl rfl (by decide) (by decide) (by decide) rfl (by decide) zz1 ?_   -- 10
          refine .wr rfl rfl (by decide) (.vop zz1 (by decide) ?_)   -- 0
          refine .wr rfl rfl (by decide) (.vop zz1 (by decide) ?_)   -- 4
          refine .wr rfl rfl (by decide) (.vop zz1 (by decide) ?_)   -- 7
          refine .wr rfl rfl (by decide) (.vop zz1 (by decide) ?_)   -- 11
          refine .rd rfl rfl (by decide) (by decide) (by decide) rfl (by decide) zz1 ?_   -- 12
          refine .done ?_
          refine .ret ?_
          refine ⟨_, _, zz4,(by simp [g5, g20] <;> rfl), ?_⟩
          have e : putS l n = l.take i ++ [n] ++ l.drop i := by unfold putS; rw [hlow, if_neg (by rw [List.getElem?_eq_getElem c10]; simpa using c31)]
          rw [e]; simp [ints]
      · try rw [c24]
        try simp at c24
  · try rw [c10]
    try simp at c10
    have hil : i = l.length := by omega
    have hlow : lowN l n = i := by rw [← hr, List.drop_of_length_le c10]; rfl
    subst hil
    have g1 := allSz_take_int l l.length
    have g2 := allSz_drop_int l l.length
    have g3 := allOne_take_int l l.length
    have g4 := allOne_drop_int l l.length
    have g6 : l.length ≤ 4294967296 := by omega
    have g7 : l.length + 1 ≤ 4294967296 := by omega
    have g8 : l.length + 1 + (l.length - l.length) ≤ 4294967296 := by omega
    have g9 : allOne [PV.int .i64 n] = true := rfl
    have g11 : List.drop l.length (l.map (PV.int .i64)) = [] := List.drop_of_length_le (by simp)
    have g12 : allSz 1 [] = true := rfl
    have g13 : allOne [] = true := rfl
    refine .rn [5,6,7,8,9,10,11] [] ?_
    refine .done ?_
    refine .condF rfl ?_
    refine .exit ?_
    refine .seq ?_
    refine .seq ?_
    refine .regionL [0,1,2,3,4,5,6,7,8,9,10,11] rfl zz0 ?_
    refine .rn [0,1,2,3,4] [5,6,7,8,9,10,11] ?_
    refine .split (t := 24) rfl (fun c24 => ?_) (fun c24 => ?_)
    · try rw [c24]
      try simp at c24
    · try rw [c24]
      try simp at c24
      refine .rn [5,6,7,8,9,10,11] [] ?_
      refine .done ?_
      refine .condF rfl ?_
      refine .skip ?_
      refine .seq ?_
      refine .drawnF (ms := [0,0,0,6,15,0,32,127,0,0,768,2047,4095]) (W := [0,4,7,11]) (As := [6]) (items := [.op 1, .op 2, .op 3, .op 5, .op 6, .op 8, .op 9, .op 10, .op 0, .op 4, .op 7, .op 11, .op 12]) rfl zz0 zz0 zz0 zz0 (by decide) ?_
      refine .rd rfl rfl (by decide) (by decide) (by decide) rfl (by decide) zz1 ?_   -- 1
      refine .rd rfl rfl (by decide) (by decide) (by decide) rfl (by decide) zz1 ?_   -- 2
      refine .rd rfl rfl (by decide) (by decide) (by decide) rfl (by decide) zz1 ?_   -- 3
      refine .rd rfl rfl (by decide) (by decide) (by decide) rfl (by decide) zz1 ?_   -- 5
      refine .al rfl rfl (by decide) (by decide) (by decide) (by decide) zz1 ?_   -- 6
      refine .rd rfl rfl (by decide) (by decide) (by decide) rfl (by decide) zz1 ?_   -- 8
      refine .rd rfl rfl (by decide) (by decide) (by decide) rfl (by decide) zz1 ?_   -- 9
      refine .rd rfl rfl (by decide) (by decide) (by decide) rfl (by decide) zz1 ?_   -- 10
      refine .wr rfl rfl (by decide) (.vop zz1 (by decide) ?_)   -- 0
      refine .wr rfl rfl (by decide) (.vop zz1 (by decide) ?_)   -- 4
      refine .wr rfl rfl (by decide) (.vop zz1 (by decide) ?_)   -- 7
      refine .wr rfl rfl (by decide) (.vop zz1 (by decide) ?_)   -- 11
      refine .rd rfl rfl (by decide) (by decide) (by decide) rfl (by decide) zz1 ?_   -- 12
      refine .done ?_
      refine .ret ?_
      refine ⟨_, _, zz4,zz4, ?_⟩
      have e : putS l n = l ++ [n] := by unfold putS; rw [hlow, if_neg (by rw [List.getElem?_eq_none (Nat.le_refl _)]; simp)]; simp
      rw [e]; simp [ints]
end Go.Am.Ds
end

section
namespace Go.Am.Ds
open Go Go.Am Go.Proofs
set_option maxRecDepth 100000
set_option maxHeartbeats 4000000
set_option linter.unusedSimpArgs false
set_option linter.unusedVariables false
attribute [local simp] vrun vwanted vyielded vop vopA vputAll VHeap.back hidI hidF backL bm Nat.testBit_eq_decide_div_mod_eq veval vevals vparts vO vbuiltin vlen vappend velems vcopy vmakeSlice vbuildSlice valloc vbox vmakeMap vload vpartT vpart vstore vfieldAddr vfield vindexAddr vindex vextract vslice vsliceZ vbounds vbnd zeroO vidx vlookup vmget vmapUpdate vdelete vclear vnilq vnilp vnils vbin vsc vsc1 vscs vscl abinOp aint ashift aunOp aconvert amaxs amax2 pvcV pvc pvcs tput tget vargs VHeap.get VHeap.alloc VHeap.put VHeap.drop VHeap.empty vlook vput vdrop psplice pfill preps chunk List.range List.range.loop vresults vresult vresultV frz frzL PV.isF PV.allF PV.scal PV.allS retP subT allFT PV.one PV.ids PV.idsL dropL beq_eq ble_dec blt_dec
attribute [local simp] zW tup2
theorem lackF_iff (c : Wit) (n : Int) : lackF c n = true ↔ n ∉ c.slips ∧ n ∉ c.mended := by
  unfold lackF
  simp [mem_setK]
theorem getW_idx {s : List Wit} {id : Int} {c : Wit} (h : getW s id = some c) : ∃ i, ∃ h : i < s.length, findI s id = (i : Int) ∧ s[i] = c := by
  rcases Int.lt_or_le (findI s id) 0 with h0 | h0
  · rw [getW_none h0] at h; cases h
  · obtain ⟨i, h1, h2, h3⟩ := getW_some h0
    rw [h3] at h; injection h with h
    exact ⟨i, h1, h2, h⟩
theorem p103a (s : List Wit) (k : Nat) (hk : k < s.length) (hl : s.length < 4294967296) (h3 : s[k].models.length < 4294967296) : VPure Tryz.prog 103 [encS s, .int .i64 k, .int .i64 0] fun r => r = tup2 (lastS s[k] 0,0) := by
  have hE : encW s[k] = .agg [.int .i64 s[k].id, .int .i64 s[k].known, ints s[k].slips, ints s[k].mended, ints s[k].models, .int .i64 s[k].lo, .int .i64 s[k].hi] := rfl
  refine .of_body Tryz.func103 rfl rfl ?_
  refine .seq ?_
  refine .rn ?_
  refine .seq ?_
  refine .rn ?_
  refine .seq ?_
  refine .seq ?_
  refine .rn ?_
  refine .condS rfl (fun c20 => ?_) (fun c20 => ?_)
  · try simp at c20
  · try simp at c20
    refine .skip ?_
    refine .seq ?_
    refine .regionL [0,1,2,3,4] rfl zz0 ?_
    refine .rn [0,1,2] [3,4] ?_
    refine .step rfl rfl (.pure rfl rfl rfl Tryz.call121 (by decide) (p121 s[k].models 0 h3) (by first | rfl | simp [*]) ?_)
    rintro _ rfl
    refine .rn [4] [] ?_
    refine .done ?_
    refine .seq ?_
    refine .seq ?_
    refine .regionL [0,1,2,3,4,5,6,7] rfl zz0 ?_
    refine .rn [0,1,2,3,4] [5,6,7] ?_
    refine .split (t := 83) rfl (fun c83 => ?_) (fun c83 => ?_)
    · try rw [c83]
      try simp at c83
      refine .rn [5,6,7] [] ?_
      refine .done ?_
      refine .condS rfl (fun c86 => ?_) (fun c86 => ?_)
      · try simp at c86
        refine .seq ?_
        refine .rn ?_
        refine .ret ?_
        refine ⟨_, _, zz4,zz4, ?_⟩
        simp [tup2, lastS, *]
      · try simp at c86
        refine .skip ?_
        refine .seq ?_
        refine .rn ?_
        refine .ret ?_
        refine ⟨_, _, zz4,zz4, ?_⟩
        simp [tup2, lastS, *]
    · try rw [c83]
      try simp at c83
      refine .rn [5,6,7] [] ?_
      refine .done ?_
      refine .condF rfl ?_
      refine .skip ?_
      refine .seq ?_
      refine .rn ?_
      refine .ret ?_
      refine ⟨_, _, zz4,zz4, ?_⟩
      simp [tup2, lastS, *]
theorem p103b (s : List Wit) (k j : Nat) (hk : k < s.length) (hj : j < s.length) (b : Int) (hb : b ≠ 0) (hje : findI s b = (j : Int)) (hid : s[j].id = b) (hl : s.length < 4294967296) (h1 : s[k].slips.length < 4294967296) (h2 : s[k].mended.length < 4294967296) (h3 : s[k].models.length < 4294967296) (h4 : s[j].slips.length < 4294967296) : VPure Tryz.prog 103 [encS s, .int .i64 k, .int .i64 b] fun r => r = tup2 (whyP s[k] s[j]) := by
  have hE : encW s[k] = .agg [.int .i64 s[k].id, .int .i64 s[k].known, ints s[k].slips, ints s[k].mended, ints s[k].models, .int .i64 s[k].lo, .int .i64 s[k].hi] := rfl
  have hE2 : encW s[j] = .agg [.int .i64 s[j].id, .int .i64 s[j].known, ints s[j].slips, ints s[j].mended, ints s[j].models, .int .i64 s[j].lo, .int .i64 s[j].hi] := rfl
  have hmx : (if 0 < j then (j : Int) else 0) = (j : Int) := by split <;> omega
  refine .of_body Tryz.func103 rfl rfl ?_
  refine .seq ?_
  refine .rn ?_
  refine .seq ?_
  refine .rn ?_
  refine .seq ?_
  refine .seq ?_
  refine .rn ?_
  refine .condS rfl (fun c20 => ?_) (fun c20 => ?_)
  · try simp at c20
    refine .seq ?_
    refine .drawnF (ms := [0,1,0,0,12,28,63,127,0,511]) (W := [4,9]) (As := [8]) (items := [.op 0, .op 1, .op 2, .op 3, .op 8, .op 4, .ck 1, .op 5, .op 6, .op 7, .op 9]) rfl zz0 zz0 zz0 zz0 (by decide) ?_
    refine .rd rfl rfl (by decide) (by decide) (by decide) rfl (by decide) zz1 ?_   -- 0
    refine .rd rfl rfl (by decide) (by decide) (by decide) rfl (by decide) zz1 ?_   -- 1
    refine .rd rfl rfl (by decide) (by decide) (by decide) rfl (by decide) zz1 ?_   -- 2
    refine .rd rfl rfl (by decide) (by decide) (by decide) rfl (by decide) zz1 ?_   -- 3
    refine .al rfl rfl (by decide) (by decide) (by decide) (by decide) zz1 ?_   -- 8
    refine .wr rfl rfl (by decide) (.pure rfl rfl rfl Tryz.call104 (by decide) (p104 s b hl) (by first | rfl | simp [*]) ?_)
    rintro _ rfl
    refine .ck rfl zz0 ?_   -- 1
    refine .rd rfl rfl (by decide) (by decide) (by decide) rfl (by decide) zz1 ?_   -- 5
    refine .rd rfl rfl (by decide) (by decide) (by decide) rfl (by decide) zz1 ?_   -- 6
    refine .rd rfl rfl (by decide) (by decide) (by decide) rfl (by decide) zz1 ?_   -- 7
    refine .wr rfl rfl (by decide) (.vop zz1 (by decide) ?_)   -- 9
    refine .done ?_
    refine .seq ?_
    refine .seq ?_
    refine .rn ?_
    refine .condS rfl (fun c33 => ?_) (fun c33 => ?_)
    · try simp at c33
      refine .seq ?_
      refine .rn ?_
      refine .ret ?_
      refine ⟨_, _, zz4,zz4, ?_⟩
      simp [tup2, whyP, hid, c33]
    · try simp at c33
      refine .skip ?_
      refine .seq ?_
      refine .seq ?_
      refine .rn ?_
      refine .condS rfl (fun c40 => ?_) (fun c40 => ?_)
      · try simp at c40
        refine .seq ?_
        refine .rn ?_
        refine .ret ?_
        refine ⟨_, _, zz4,zz4, ?_⟩
        simp [tup2, whyP, hid, c33, c40]
      · try simp at c40
        refine .skip ?_
        refine .seq ?_
        refine .rn ?_
        refine .block ?_
        refine .loopS (fun i : Nat => ([(2, .int .i64 b),(8, .ptr 1 0),(9, .ptr 2 0),(10, .int .i64 i)], ⟨3,[(2, .box [.int .i64 s[j].id, .int .i64 s[j].known, ints s[j].slips, ints s[j].mended, ints s[j].models, .int .i64 s[j].lo, .int .i64 s[j].hi]),(1, .box [.int .i64 s[k].id, .int .i64 s[k].known, ints s[k].slips, ints s[k].mended, ints s[k].models, .int .i64 s[k].lo, .int .i64 s[k].hi])]⟩)) (fun i => i ≤ s[j].slips.length ∧ idxF (lackF s[k]) i (s[j].slips.drop i) = idxF (lackF s[k]) 0 s[j].slips ∧ fstF (lackF s[k]) (s[j].slips.drop i) = fstF (lackF s[k]) s[j].slips) (fun i => s[j].slips.length - i) 0 ⟨by simp, rfl, rfl⟩ (.mk [] [] zz12 zz13 rfl rfl rfl) ?_
        rintro i ⟨hi, hr, hr2⟩
        simp only at hi hr hr2 ⊢
        refine .seq ?_
        refine .seq ?_
        refine .rn ?_
        refine .condS rfl (fun c45 => ?_) (fun c45 => ?_)
        · try simp at c45
          have hw2 : IntKind.i64.wrap ((i : Int) + 1) = (i : Int) + 1 := wrap64 (by omega) (by omega)
          rw [idxF_drop _ s[j].slips i c45] at hr
          rw [fstF_drop _ s[j].slips i c45] at hr2
          refine .skip ?_
          refine .seq ?_
          refine .block ?_
          refine .seq ?_
          refine .drawn (ms := [0,1,0,4,0,28,60,127,255]) (W := [7]) (items := [.op 0, .op 1, .op 2, .op 3, .op 4, .op 5, .op 6, .op 7, .op 8]) rfl zz0 zz0 zz0 ?_
          refine .rd rfl rfl (by decide) rfl (by decide) zz1 ?_   -- 0
          refine .rd rfl rfl (by decide) rfl (by decide) zz1 ?_   -- 1
          refine .rd rfl rfl (by decide) rfl (by decide) zz1 ?_   -- 2
          refine .rd rfl rfl (by decide) rfl (by decide) zz1 ?_   -- 3
          refine .rd rfl rfl (by decide) rfl (by decide) zz1 ?_   -- 4
          refine .rd rfl rfl (by decide) rfl (by decide) zz1 ?_   -- 5
          refine .rd rfl rfl (by decide) rfl (by decide) zz1 ?_   -- 6
          refine .wr rfl rfl (by decide) (.pure rfl rfl rfl Tryz.call121 (by decide) (p121 s[k].slips _ h1) (by first | rfl | simp [*]) ?_)
          rintro _ rfl
          refine .rd rfl rfl (by decide) rfl (by decide) zz1 ?_   -- 8
          refine .done ?_
          refine .seq ?_
          refine .drawn (ms := [0,1,0,4,0,28,60,127,255]) (W := [7]) (items := [.op 0, .op 1, .op 2, .op 3, .op 4, .op 5, .op 6, .op 7, .op 8]) rfl zz0 zz0 zz0 ?_
          refine .rd rfl rfl (by decide) rfl (by decide) zz1 ?_   -- 0
          refine .rd rfl rfl (by decide) rfl (by decide) zz1 ?_   -- 1
          refine .rd rfl rfl (by decide) rfl (by decide) zz1 ?_   -- 2
          refine .rd rfl rfl (by decide) rfl (by decide) zz1 ?_   -- 3
          refine .rd rfl rfl (by decide) rfl (by decide) zz1 ?_   -- 4
          refine .rd rfl rfl (by decide) rfl (by decide) zz1 ?_   -- 5
          refine .rd rfl rfl (by decide) rfl (by decide) zz1 ?_   -- 6
          refine .wr rfl rfl (by decide) (.pure rfl rfl rfl Tryz.call121 (by decide) (p121 s[k].mended _ h2) (by first | rfl | simp [*]) ?_)
          rintro _ rfl
          refine .rd rfl rfl (by decide) rfl (by decide) zz1 ?_   -- 8
          refine .done ?_
          refine .seq ?_
          refine .regionL [0,1,2,3,4,5] rfl zz0 ?_
          refine .rn [0,1,2] [3,4,5] ?_
          refine .split (t := 66) rfl (fun c66 => ?_) (fun c66 => ?_)
          · try rw [c66]
            try simp at c66
            refine .rn [3,4,5] [] ?_
            refine .done ?_
            refine .condS rfl (fun c69 => ?_) (fun c69 => ?_)
            · try simp at c69
              have hlf : lackF s[k] s[j].slips[i] = true := (lackF_iff _ _).2 ⟨c66, c69⟩
              refine .seq ?_
              refine .drawn (ms := [0,1,0,7,15,0,63]) (W := []) (items := [.op 0, .op 1, .op 2, .op 3, .op 4, .op 5, .op 6]) rfl zz0 zz0 zz0 ?_
              refine .rd rfl rfl (by decide) rfl (by decide) zz1 ?_   -- 0
              refine .rd rfl rfl (by decide) rfl (by decide) zz1 ?_   -- 1
              refine .rd rfl rfl (by decide) rfl (by decide) zz1 ?_   -- 2
              refine .rd rfl rfl (by decide) rfl (by decide) zz1 ?_   -- 3
              refine .rd rfl rfl (by decide) rfl (by decide) zz1 ?_   -- 4
              refine .rd rfl rfl (by decide) rfl (by decide) zz1 ?_   -- 5
              refine .rd rfl rfl (by decide) rfl (by decide) zz1 ?_   -- 6
              refine .done ?_
              refine .ret ?_
              refine ⟨_, _, zz4,zz4, ?_⟩
              have e : whyP s[k] s[j] = (3, s[j].slips[i]) := by
                rw [if_pos hlf] at hr hr2
                unfold whyP
                rw [hid, if_neg c33, if_neg (by omega), if_pos (by rw [← hr]; omega), ← hr2]
              rw [e]; rfl
            · try simp at c69
              have hlf : ¬ lackF s[k] s[j].slips[i] = true := fun h => ((lackF_iff _ _).1 h).2 c69
              refine .skip ?_
              refine .rn ?_
              refine ⟨i + 1, ⟨zz5, ?_, ?_⟩, zz5,(.mk [] [] zz12 zz13 rfl rfl rfl)⟩
              · rw [← hr, if_neg hlf]
              · rw [← hr2, if_neg hlf]
          · try rw [c66]
            try simp at c66
            have hlf : ¬ lackF s[k] s[j].slips[i] = true := fun h => ((lackF_iff _ _).1 h).1 c66
            refine .rn [3,4,5] [] ?_
            refine .done ?_
            refine .condF rfl ?_
            refine .skip ?_
            refine .rn ?_
            refine ⟨i + 1, ⟨zz5, ?_, ?_⟩, zz5,(.mk [] [] zz12 zz13 rfl rfl rfl)⟩
            · rw [← hr, if_neg hlf]
            · rw [← hr2, if_neg hlf]
        · try simp at c45
          have hin : i = s[j].slips.length := by omega
          have hlk : idxF (lackF s[k]) 0 s[j].slips = -1 := by rw [← hr, hin, List.drop_length]; rfl
          refine .exit ?_
          refine .seq ?_
          refine .regionL [0,1,2,3,4] rfl zz0 ?_
          refine .rn [0,1,2] [3,4] ?_
          refine .step rfl rfl (.pure rfl rfl rfl Tryz.call121 (by decide) (p121 s[k].models b h3) (by first | rfl | simp [*]) ?_)
          rintro _ rfl
          refine .rn [4] [] ?_
          refine .done ?_
          refine .seq ?_
          refine .seq ?_
          refine .regionL [0,1,2,3,4,5,6,7] rfl zz0 ?_
          refine .rn [0,1,2,3,4] [5,6,7] ?_
          refine .split (t := 83) rfl (fun c83 => ?_) (fun c83 => ?_)
          · try rw [c83]
            try simp at c83
            refine .rn [5,6,7] [] ?_
            refine .done ?_
            refine .condS rfl (fun c86 => ?_) (fun c86 => ?_)
            · try simp at c86
              refine .seq ?_
              refine .rn ?_
              refine .ret ?_
              refine ⟨_, _, zz4,zz4, ?_⟩
              have e : whyP s[k] s[j] = (lastS s[k] b, 0) := by
                unfold whyP
                rw [hid, if_neg c33, if_neg (by omega), if_neg (by rw [hlk]; decide)]
              rw [e]; simp [tup2, lastS, *]
            · try simp at c86
              refine .skip ?_
              refine .seq ?_
              refine .rn ?_
              refine .ret ?_
              refine ⟨_, _, zz4,zz4, ?_⟩
              have e : whyP s[k] s[j] = (lastS s[k] b, 0) := by
                unfold whyP
                rw [hid, if_neg c33, if_neg (by omega), if_neg (by rw [hlk]; decide)]
              rw [e]; simp [tup2, lastS, *]
          · try rw [c83]
            try simp at c83
            refine .rn [5,6,7] [] ?_
            refine .done ?_
            refine .condF rfl ?_
            refine .skip ?_
            refine .seq ?_
            refine .rn ?_
            refine .ret ?_
            refine ⟨_, _, zz4,zz4, ?_⟩
            have e : whyP s[k] s[j] = (lastS s[k] b, 0) := by
              unfold whyP
              rw [hid, if_neg c33, if_neg (by omega), if_neg (by rw [hlk]; decide)]
            rw [e]; simp [tup2, lastS, *]
  · try simp at c20
    exact absurd c20 hb
end Go.Am.Ds
end
