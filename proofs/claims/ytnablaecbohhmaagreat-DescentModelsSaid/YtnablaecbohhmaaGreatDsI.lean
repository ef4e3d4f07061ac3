/-
  What is used in the proof of a statement (part DsI); no condition.
-/
import Derived.Test.YtnablaecbohhmaaGreatDsT
import Derived.Test.YtnablaecbohhmaaGreatVm2
import Derived.Test.YtnablaecbohhmaaGreatDsH
set_option linter.all false
section
namespace Go.Am.Ds
open Go Go.Am Go.Proofs
set_option maxRecDepth 100000
set_option maxHeartbeats 4000000
set_option linter.unusedSimpArgs false
set_option linter.unusedVariables false
attribute [local simp] vrun vwanted vyielded vop vopA vputAll VHeap.back hidI hidF backL bm Nat.testBit_eq_decide_div_mod_eq veval vevals vparts vO vbuiltin vlen vappend velems vcopy vmakeSlice vbuildSlice valloc vbox vmakeMap vload vpartT vpart vstore vfieldAddr vfield vindexAddr vindex vextract vslice vsliceZ vbounds vbnd zeroO vidx vlookup vmget vmapUpdate vdelete vclear vnilq vnilp vnils vbin vsc vsc1 vscs vscl abinOp aint ashift aunOp aconvert amaxs amax2 pvcV pvc pvcs tput tget vargs VHeap.get VHeap.alloc VHeap.put VHeap.drop VHeap.empty vlook vput vdrop psplice pfill preps chunk List.range List.range.loop vresults vresult vresultV frz frzL PV.isF PV.allF PV.scal PV.allS retP subT allFT PV.one PV.ids PV.idsL dropL beq_eq ble_dec blt_dec
attribute [local simp] zW tup2
theorem VPure.nilArg {P : Program} {f : FuncId} {rest : List PV} {R : PV → Prop} (hp : VPure P f (.vec [] :: rest) R) : VPure P f (.sl0 :: rest) R := fun lo g σ h args' ha s => hp lo g σ h args' (by
  obtain ⟨v', r', rfl, h1, h2⟩ := ha.inv_cons
  have := h1.isF rfl; cases this
  exact .cons (.fr _ _ .vecN) h2) s
structure OkS (s : List Wit) : Prop where
  len : s.length ≤ 24
  lens : ∀ w ∈ s, w.slips.length < 4294967296 ∧ w.mended.length < 4294967296 ∧ w.models.length < 4294967296
  pos : ∀ w ∈ s, w.id ≠ 0
theorem okS_of {s : List Wit} (h : checkS s = 0) : OkS s := by
  refine ⟨(checkS_ok h).1, checkS_lens h, fun w hw => ?_⟩
  have := (checkS_ok h).2 w hw
  unfold witE at this
  split at this
  · cases this
  · omega
theorem OkS.idx {s : List Wit} (h : OkS s) {i : Nat} (hi : i < s.length) : ∃ j, ∃ hj : j < s.length, findI s s[i].id = (j : Int) ∧ s[j].id = s[i].id ∧ getW s s[i].id = some s[j] := by
  have h0 : 0 ≤ findI s s[i].id := find_ids (idsS_mem.2 ⟨s[i], List.getElem_mem hi, rfl⟩)
  obtain ⟨j, h1, h2, h3⟩ := getW_some h0
  exact ⟨j, h1, h2,(getW_mem h3).2, h3⟩
def atI (s : List Wit) (id : Int) (d : Wit) : Wit := (getW s id).getD d
def stepR (s : List Wit) (c : Wit) (out : List Int) (w : Wit) : List Int := if (whyP c (atI s w.id w)).1 = 0 then putS out w.id else out
def modR (s : List Wit) (c : Wit) : List Int := s.foldl (stepR s c) (if lastS c 0 = 0 then [0] else [])
def moP (s : List Wit) (c : Wit) (i : Nat) : List Int := (s.take i).foldl (stepR s c) (if lastS c 0 = 0 then [0] else [])
theorem moP_all (s : List Wit) (c : Wit) : moP s c s.length = modR s c := by simp [moP, modR]
theorem moP_succ (s : List Wit) (c : Wit) (i : Nat) (h : i < s.length) : moP s c (i + 1) = stepR s c (moP s c i) s[i] := by
  simp only [moP, List.take_succ_eq_append_getElem h, List.foldl_append, List.foldl_cons, List.foldl_nil]
theorem putS_len (l : List Int) (n : Int) : (putS l n).length ≤ l.length + 1 := by
  unfold putS
  split
  · omega
  · simp; omega
theorem moP_len (s : List Wit) (c : Wit) (i : Nat) : (moP s c i).length ≤ i + 1 := by
  have : ∀ (l : List Wit) (a : List Int),(l.foldl (stepR s c) a).length ≤ a.length + l.length := by
    intro l
    induction l with
    | nil => intro a; simp
    | cons w r ih =>
      intro a
      have h1 := ih (stepR s c a w)
      have h2 : (stepR s c a w).length ≤ a.length + 1 := by
        unfold stepR
        split
        · exact putS_len _ _
        · omega
      simp only [List.foldl_cons, List.length_cons]; omega
  have h1 := this (s.take i) (if lastS c 0 = 0 then [0] else [])
  have h2 : (if lastS c 0 = 0 then [0] else ([] : List Int)).length ≤ 1 := by split <;> simp
  have h3 : (s.take i).length ≤ i := by simp; omega
  simp only [moP]; omega
theorem moP_zeroT (s : List Wit) (c : Wit) (h : lastS c 0 = 0) : moP s c 0 = [0] := by simp [moP, h]
theorem moP_zeroF (s : List Wit) (c : Wit) (h : ¬ lastS c 0 = 0) : moP s c 0 = [] := by simp [moP, h]
theorem putS_nil (n : Int) : putS [] n = [n] := by simp [putS, lowN]
theorem p107 (s : List Wit) (k : Nat) (hk : k < s.length) (ok : OkS s) : VPure Tryz.prog 107 [encS s, .int .i64 k] fun r => r = ints (modR s s[k]) := by
  have hl : s.length < 4294967296 := by have := ok.len; omega
  have hl24 := ok.len
  obtain ⟨hw1, hw2, hw3⟩ := ok.lens s[k] (List.getElem_mem hk)
  refine .of_body Tryz.func107 rfl rfl ?_
  refine .seq ?_
  refine .rn ?_
  refine .seq ?_
  refine .rn ?_
  refine .seq ?_
  refine .regionL [0,1,2,3,4,5,6,7] rfl zz0 ?_
  refine .rn [0,1] [2,3,4,5,6,7] ?_
  refine .step rfl rfl (.pure rfl rfl rfl Tryz.call103 (by decide) (p103a s k hk hl hw3) (by first | rfl | simp [*]) ?_)
  rintro _ rfl
  refine .rn [3,4,5,6,7] [] ?_
  refine .done ?_
  refine .seq ?_
  refine .seq ?_
  refine .rn ?_
  refine .condS rfl (fun c18 => ?_) (fun c18 => ?_)
  · try simp at c18
    have hO := moP_zeroT s s[k] c18
    have hput := putS_nil 0
    refine .regionL [0,1,2] rfl zz0 ?_
    refine .rn [0] [1,2] ?_
    refine .step rfl rfl (.pure rfl rfl rfl Tryz.call147 (by decide) (VPure.nilArg (p147 [] 0 (by simp))) (by first | rfl | simp [*]) ?_)
    rintro _ rfl
    refine .rn [2] [] ?_
    refine .done ?_
    refine .seq ?_
    refine .seq ?_
    refine .rn ?_
    refine .block ?_
    refine .loopS (fun i : Nat => ([(1, .int .i64 k),(2, .ptr 0 0),(5, ints (moP s s[k] i)),(8, .int .i64 i)], ⟨1,[(0, .box [.vec (s.map encW)])]⟩)) (fun i => i ≤ s.length) (fun i => s.length - i) 0 (by simp) (.mk [] [] zz14 zz15 rfl rfl rfl) ?_
    rintro i hi
    simp only at hi ⊢
    refine .seq ?_
    refine .seq ?_
    refine .rn ?_
    refine .condS rfl (fun c25 => ?_) (fun c25 => ?_)
    · try simp at c25
      have hwr : IntKind.i64.wrap ((i : Int) + 1) = (i : Int) + 1 := wrap64 (by omega) (by omega)
      have hE : encW s[i] = .agg [.int .i64 s[i].id, .int .i64 s[i].known, ints s[i].slips, ints s[i].mended, ints s[i].models, .int .i64 s[i].lo, .int .i64 s[i].hi] := rfl
      obtain ⟨j, hj, hje, hid, hgj⟩ := ok.idx c25
      obtain ⟨hv1, hv2, hv3⟩ := ok.lens s[j] (List.getElem_mem hj)
      have hS := moP_succ s s[k] i c25
      rw [stepR, atI, hgj, Option.getD_some] at hS
      have hln := moP_len s s[k] i
      refine .skip ?_
      refine .seq ?_
      refine .block ?_
      refine .seq ?_
      refine .drawn (ms := [0,0,0,4,0,28,60,124,255,511,1023,1023,2047,8191]) (W := [8]) (items := [.op 0, .op 1, .op 2, .op 3, .op 4, .op 5, .op 6, .op 7, .op 8, .op 9, .op 10, .op 11, .op 12, .op 13]) rfl zz0 zz0 zz0 ?_
      refine .rd rfl rfl (by decide) rfl (by decide) zz1 ?_   -- 0
      refine .rd rfl rfl (by decide) rfl (by decide) zz1 ?_   -- 1
      refine .rd rfl rfl (by decide) rfl (by decide) zz1 ?_   -- 2
      refine .rd rfl rfl (by decide) rfl (by decide) zz1 ?_   -- 3
      refine .rd rfl rfl (by decide) rfl (by decide) zz1 ?_   -- 4
      refine .rd rfl rfl (by decide) rfl (by decide) zz1 ?_   -- 5
      refine .rd rfl rfl (by decide) rfl (by decide) zz1 ?_   -- 6
      refine .rd rfl rfl (by decide) rfl (by decide) zz1 ?_   -- 7
      refine .wr rfl rfl (by decide) (.pure rfl rfl rfl Tryz.call103 (by decide) (p103b s k j hk hj s[i].id (ok.pos _ (List.getElem_mem c25)) hje hid hl hw1 hw2 hw3 hv1) (by first | rfl | simp [*]) ?_)
      rintro _ rfl
      refine .rd rfl rfl (by decide) rfl (by decide) zz1 ?_   -- 9
      refine .rd rfl rfl (by decide) rfl (by decide) zz1 ?_   -- 10
      refine .rd rfl rfl (by decide) rfl (by decide) zz1 ?_   -- 11
      refine .rd rfl rfl (by decide) rfl (by decide) zz1 ?_   -- 12
      refine .rd rfl rfl (by decide) rfl (by decide) zz1 ?_   -- 13
      refine .done ?_
      refine .seq ?_
      refine .rn ?_
      refine .condS rfl (fun c41 => ?_) (fun c41 => ?_)
      · try simp at c41
        rw [if_pos c41] at hS
        refine .regionL [0,1,2,3,4,5,6,7,8] rfl zz0 ?_
        refine .rn [0,1,2,3,4,5,6] [7,8] ?_
        refine .step rfl rfl (.pure rfl rfl rfl Tryz.call147 (by decide) (p147 _ s[i].id (by omega)) (by first | rfl | simp [*]) ?_)
        rintro _ rfl
        refine .rn [8] [] ?_
        refine .done ?_
        refine .rn ?_
        refine ⟨i + 1, c25,zz5,(.mk [] [] zz14 zz15 rfl rfl rfl)⟩
      · try simp at c41
        rw [if_neg c41] at hS
        refine .skip ?_
        refine .rn ?_
        refine ⟨i + 1, c25,zz5,(.mk [] [] zz14 zz15 rfl rfl rfl)⟩
    · try simp at c25
      have hin : i = s.length := by omega
      subst hin
      have hall := moP_all s s[k]
      refine .exit ?_
      refine .seq ?_
      refine .rn ?_
      refine .ret ?_
      refine ⟨_, _, zz4,zz4, ?_⟩
      first | rfl | (simp [*]; done) | (simp_all; done)
  · try simp at c18
    have hO := moP_zeroF s s[k] c18
    refine .skip ?_
    refine .seq ?_
    refine .seq ?_
    refine .rn ?_
    refine .block ?_
    refine .loopS (fun i : Nat => ([(1, .int .i64 k),(2, .ptr 0 0),(5, ints (moP s s[k] i)),(8, .int .i64 i)], ⟨1,[(0, .box [.vec (s.map encW)])]⟩)) (fun i => i ≤ s.length) (fun i => s.length - i) 0 (by simp) (.mk [] [] zz14 zz15 rfl rfl rfl) ?_
    rintro i hi
    simp only at hi ⊢
    refine .seq ?_
    refine .seq ?_
    refine .rn ?_
    refine .condS rfl (fun c25 => ?_) (fun c25 => ?_)
    · try simp at c25
      have hwr : IntKind.i64.wrap ((i : Int) + 1) = (i : Int) + 1 := wrap64 (by omega) (by omega)
      have hE : encW s[i] = .agg [.int .i64 s[i].id, .int .i64 s[i].known, ints s[i].slips, ints s[i].mended, ints s[i].models, .int .i64 s[i].lo, .int .i64 s[i].hi] := rfl
      obtain ⟨j, hj, hje, hid, hgj⟩ := ok.idx c25
      obtain ⟨hv1, hv2, hv3⟩ := ok.lens s[j] (List.getElem_mem hj)
      have hS := moP_succ s s[k] i c25
      rw [stepR, atI, hgj, Option.getD_some] at hS
      have hln := moP_len s s[k] i
      refine .skip ?_
      refine .seq ?_
      refine .block ?_
      refine .seq ?_
      refine .drawn (ms := [0,0,0,4,0,28,60,124,255,511,1023,1023,2047,8191]) (W := [8]) (items := [.op 0, .op 1, .op 2, .op 3, .op 4, .op 5, .op 6, .op 7, .op 8, .op 9, .op 10, .op 11, .op 12, .op 13]) rfl zz0 zz0 zz0 ?_
      refine .rd rfl rfl (by decide) rfl (by decide) zz1 ?_   -- 0
      refine .rd rfl rfl (by decide) rfl (by decide) zz1 ?_   -- 1
      refine .rd rfl rfl (by decide) rfl (by decide) zz1 ?_   -- 2
      refine .rd rfl rfl (by decide) rfl (by decide) zz1 ?_   -- 3
      refine .rd rfl rfl (by decide) rfl (by decide) zz1 ?_   -- 4
      refine .rd rfl rfl (by decide) rfl (by decide) zz1 ?_   -- 5
      refine .rd rfl rfl (by decide) rfl (by decide) zz1 ?_   -- 6
      refine .rd rfl rfl (by decide) rfl (by decide) zz1 ?_   -- 7
      refine .wr rfl rfl (by decide) (.pure rfl rfl rfl Tryz.call103 (by decide) (p103b s k j hk hj s[i].id (ok.pos _ (List.getElem_mem c25)) hje hid hl hw1 hw2 hw3 hv1) (by first | rfl | simp [*]) ?_)
      rintro _ rfl
      refine .rd rfl rfl (by decide) rfl (by decide) zz1 ?_   -- 9
      refine .rd rfl rfl (by decide) rfl (by decide) zz1 ?_   -- 10
      refine .rd rfl rfl (by decide) rfl (by decide) zz1 ?_   -- 11
      refine .rd rfl rfl (by decide) rfl (by decide) zz1 ?_   -- 12
      refine .rd rfl rfl (by decide) rfl (by decide) zz1 ?_   -- 13
      refine .done ?_
      refine .seq ?_
      refine .rn ?_
      refine .condS rfl (fun c41 => ?_) (fun c41 => ?_)
      · try simp at c41
        rw [if_pos c41] at hS
        refine .regionL [0,1,2,3,4,5,6,7,8] rfl zz0 ?_
        refine .rn [0,1,2,3,4,5,6] [7,8] ?_
        refine .step rfl rfl (.pure rfl rfl rfl Tryz.call147 (by decide) (p147 _ s[i].id (by omega)) (by first | rfl | simp [*]) ?_)
        rintro _ rfl
        refine .rn [8] [] ?_
        refine .done ?_
        refine .rn ?_
        refine ⟨i + 1, c25,zz5,(.mk [] [] zz14 zz15 rfl rfl rfl)⟩
      · try simp at c41
        rw [if_neg c41] at hS
        refine .skip ?_
        refine .rn ?_
        refine ⟨i + 1, c25,zz5,(.mk [] [] zz14 zz15 rfl rfl rfl)⟩
    · try simp at c25
      have hin : i = s.length := by omega
      subst hin
      have hall := moP_all s s[k]
      refine .exit ?_
      refine .seq ?_
      refine .rn ?_
      refine .ret ?_
      refine ⟨_, _, zz4,zz4, ?_⟩
      first | rfl | (simp [*]; done) | (simp_all; done)
end Go.Am.Ds
end

section
namespace Go.Am.Ds
open Go Go.Am Go.Proofs
set_option maxRecDepth 100000
set_option maxHeartbeats 4000000
set_option linter.unusedSimpArgs false
set_option linter.unusedVariables false
attribute [local simp] vrun vwanted vyielded vop vopA vputAll VHeap.back hidI hidF backL bm Nat.testBit_eq_decide_div_mod_eq veval vevals vparts vO vbuiltin vlen vappend velems vcopy vmakeSlice vbuildSlice valloc vbox vmakeMap vload vpartT vpart vstore vfieldAddr vfield vindexAddr vindex vextract vslice vsliceZ vbounds vbnd zeroO vidx vlookup vmget vmapUpdate vdelete vclear vnilq vnilp vnils vbin vsc vsc1 vscs vscl abinOp aint ashift aunOp aconvert amaxs amax2 pvcV pvc pvcs tput tget vargs VHeap.get VHeap.alloc VHeap.put VHeap.drop VHeap.empty vlook vput vdrop psplice pfill preps chunk List.range List.range.loop vresults vresult vresultV frz frzL PV.isF PV.allF PV.scal PV.allS retP subT allFT PV.one PV.ids PV.idsL dropL beq_eq ble_dec blt_dec
attribute [local simp] zW tup2
theorem ariS_eq (c p : Wit) : ariS c p = c.slips.filter fun n => !decide (n ∈ p.slips) := by
  unfold ariS
  congr 1
  funext n
  simp [mem_setK]
theorem take_succ_filt (p : Int → Bool) (l : List Int) (i : Nat) (h : i < l.length) : (l.take (i + 1)).filter p = if p l[i] then (l.take i).filter p ++ [l[i]] else (l.take i).filter p := take_succ_filter p l i h
theorem p111a (s : List Wit) (k : Nat) (hk : k < s.length) (ok : OkS s) : VPure Tryz.prog 111 [encS s, .int .i64 k, .int .i64 0] fun r => r = ints s[k].slips := by
  have hl : s.length < 4294967296 := by have := ok.len; omega
  obtain ⟨hw1, hw2, hw3⟩ := ok.lens s[k] (List.getElem_mem hk)
  have hE : encW s[k] = .agg [.int .i64 s[k].id, .int .i64 s[k].known, ints s[k].slips, ints s[k].mended, ints s[k].models, .int .i64 s[k].lo, .int .i64 s[k].hi] := rfl
  refine .of_body Tryz.func111 rfl rfl ?_
  refine .seq ?_
  refine .rn ?_
  refine .seq ?_
  refine .rn ?_
  refine .seq ?_
  refine .seq ?_
  refine .rn ?_
  refine .condS rfl (fun c13 => ?_) (fun c13 => ?_)
  · try simp at c13
  · try simp at c13
    refine .skip ?_
    refine .seq ?_
    refine .rn ?_
    refine .seq ?_
    refine .rn ?_
    refine .seq ?_
    refine .seq ?_
    refine .rn ?_
    refine .block ?_
    refine .loopS (fun i : Nat => ([(7, .sl0),(8, .grow 1 ((s[k].slips.take i).length) true),(9, ints s[k].slips),(10, .int .i64 i)], ⟨2,[(1, .grow 1 ((s[k].slips.take i).map (.int .i64)))]⟩)) (fun i => i ≤ s[k].slips.length) (fun i => s[k].slips.length - i) 0 (by simp) (.mk [] [] zz14 zz15 rfl rfl rfl) ?_
    rintro i hi
    simp only at hi ⊢
    refine .seq ?_
    refine .seq ?_
    refine .rn ?_
    refine .condS rfl (fun c32 => ?_) (fun c32 => ?_)
    · try simp at c32
      have hwr : IntKind.i64.wrap ((i : Int) + 1) = (i : Int) + 1 := wrap64 (by omega) (by omega)
      have hT := take_succ_map (PV.int .i64) s[k].slips i c32
      have hmn2 : min (i + 1) s[k].slips.length = i + 1 := by omega
      have hb : i + 1 ≤ 4294967296 := by omega
      have hb2 : i ≤ 4294967295 := by omega
      have hone : allOne [PV.int IntKind.i64 s[k].slips[i]] = true := rfl
      have hmn : min i s[k].slips.length = i := by omega
      refine .skip ?_
      refine .seq ?_
      refine .block ?_
      refine .seq ?_
      refine .regionL [0,1,2,3,4,5,6] rfl zz0 ?_
      refine .rn [0,1,2,3,4] [5,6] ?_
      refine .step rfl rfl (.pure rfl rfl rfl Tryz.call121 (by decide) (VPure.nilArg (p121 [] s[k].slips[i] (by simp))) (by first | rfl | simp [*]) ?_)
      rintro _ rfl
      refine .rn [6] [] ?_
      refine .done ?_
      refine .seq ?_
      refine .rn ?_
      refine .condS rfl (fun c42 => ?_) (fun c42 => ?_)
      · try simp at c42
        refine .rn ?_
        refine .rn ?_
        refine ⟨i + 1, c32,zz5,(.mk [] [(1,3)] zz14 zz15 rfl rfl rfl)⟩
      · try simp at c42
    · try simp at c32
      have hin : i = s[k].slips.length := by omega
      subst hin
      refine .exit ?_
      refine .seq ?_
      refine .rn ?_
      refine .ret ?_
      refine ⟨_, _, zz4,zz4, ?_⟩
      first | rfl | (simp [*]; done) | (simp_all; done)
theorem p111b (s : List Wit) (k j : Nat) (hk : k < s.length) (hj : j < s.length) (b : Int) (hb : b ≠ 0) (hje : findI s b = (j : Int)) (ok : OkS s) : VPure Tryz.prog 111 [encS s, .int .i64 k, .int .i64 b] fun r => r = ints (ariS s[k] s[j]) := by
  have hl : s.length < 4294967296 := by have := ok.len; omega
  obtain ⟨hw1, hw2, hw3⟩ := ok.lens s[k] (List.getElem_mem hk)
  obtain ⟨hv1, hv2, hv3⟩ := ok.lens s[j] (List.getElem_mem hj)
  have hE : encW s[k] = .agg [.int .i64 s[k].id, .int .i64 s[k].known, ints s[k].slips, ints s[k].mended, ints s[k].models, .int .i64 s[k].lo, .int .i64 s[k].hi] := rfl
  have hE2 : encW s[j] = .agg [.int .i64 s[j].id, .int .i64 s[j].known, ints s[j].slips, ints s[j].mended, ints s[j].models, .int .i64 s[j].lo, .int .i64 s[j].hi] := rfl
  have hmx : (if 0 < j then (j : Int) else 0) = (j : Int) := by split <;> omega
  refine .of_body Tryz.func111 rfl rfl ?_
  refine .seq ?_
  refine .rn ?_
  refine .seq ?_
  refine .rn ?_
  refine .seq ?_
  refine .seq ?_
  refine .rn ?_
  refine .condS rfl (fun c13 => ?_) (fun c13 => ?_)
  · try simp at c13
    refine .drawn (ms := [0,1,0,0,12,28,63,127,255,511]) (W := [4]) (items := [.op 0, .op 1, .op 2, .op 3, .op 4, .ck 1, .op 5, .op 6, .op 7, .op 8, .op 9]) rfl zz0 zz0 zz0 ?_
    refine .rd rfl rfl (by decide) rfl (by decide) zz1 ?_   -- 0
    refine .rd rfl rfl (by decide) rfl (by decide) zz1 ?_   -- 1
    refine .rd rfl rfl (by decide) rfl (by decide) zz1 ?_   -- 2
    refine .rd rfl rfl (by decide) rfl (by decide) zz1 ?_   -- 3
    refine .wr rfl rfl (by decide) (.pure rfl rfl rfl Tryz.call104 (by decide) (p104 s b hl) (by first | rfl | simp [*]) ?_)
    rintro _ rfl
    refine .ck rfl zz0 ?_   -- 1
    refine .rd rfl rfl (by decide) rfl (by decide) zz1 ?_   -- 5
    refine .rd rfl rfl (by decide) rfl (by decide) zz1 ?_   -- 6
    refine .rd rfl rfl (by decide) rfl (by decide) zz1 ?_   -- 7
    refine .rd rfl rfl (by decide) rfl (by decide) zz1 ?_   -- 8
    refine .rd rfl rfl (by decide) rfl (by decide) zz1 ?_   -- 9
    refine .done ?_
    refine .seq ?_
    refine .rn ?_
    refine .seq ?_
    refine .rn ?_
    refine .seq ?_
    refine .seq ?_
    refine .rn ?_
    refine .block ?_
    refine .loopS (fun i : Nat => ([(7, ints s[j].slips),(8, .grow 1 (((s[k].slips.take i).filter fun n => !decide (n ∈ s[j].slips)).length) true),(9, ints s[k].slips),(10, .int .i64 i)], ⟨2,[(1, .grow 1 (((s[k].slips.take i).filter fun n => !decide (n ∈ s[j].slips)).map (.int .i64)))]⟩)) (fun i => i ≤ s[k].slips.length) (fun i => s[k].slips.length - i) 0 (by simp) (.mk [] [] zz14 zz15 rfl rfl rfl) ?_
    rintro i hi
    simp only at hi ⊢
    refine .seq ?_
    refine .seq ?_
    refine .rn ?_
    refine .condS rfl (fun c32 => ?_) (fun c32 => ?_)
    · try simp at c32
      have hwr : IntKind.i64.wrap ((i : Int) + 1) = (i : Int) + 1 := wrap64 (by omega) (by omega)
      have hT := take_succ_filt (fun n => !decide (n ∈ s[j].slips)) s[k].slips i c32
      have hle : ((s[k].slips.take i).filter fun n => !decide (n ∈ s[j].slips)).length ≤ i := Nat.le_trans (List.length_filter_le _ _) (by simp; omega)
      have hb : ((s[k].slips.take i).filter fun n => !decide (n ∈ s[j].slips)).length ≤ 4294967295 := by omega
      have hone : allOne [PV.int IntKind.i64 s[k].slips[i]] = true := rfl
      refine .skip ?_
      refine .seq ?_
      refine .block ?_
      refine .seq ?_
      refine .regionL [0,1,2,3,4,5,6] rfl zz0 ?_
      refine .rn [0,1,2,3,4] [5,6] ?_
      refine .step rfl rfl (.pure rfl rfl rfl Tryz.call121 (by decide) (p121 s[j].slips s[k].slips[i] hv1) (by first | rfl | simp [*]) ?_)
      rintro _ rfl
      refine .rn [6] [] ?_
      refine .done ?_
      refine .seq ?_
      refine .rn ?_
      refine .condS rfl (fun c42 => ?_) (fun c42 => ?_)
      · try simp at c42
        rw [if_pos (by simp [c42])] at hT
        refine .rn ?_
        refine .rn ?_
        refine ⟨i + 1, c32,zz5,(.mk [] [(1,3)] zz14 zz15 rfl rfl rfl)⟩
      · try simp at c42
        rw [if_neg (by simp [c42])] at hT
        refine .skip ?_
        refine .rn ?_
        refine ⟨i + 1, c32,zz5,(.mk [] [] zz14 zz15 rfl rfl rfl)⟩
    · try simp at c32
      have hin : i = s[k].slips.length := by omega
      subst hin
      refine .exit ?_
      refine .seq ?_
      refine .rn ?_
      refine .ret ?_
      refine ⟨_, _, zz4,zz4, ?_⟩
      rw [ariS_eq]
  · try simp at c13
    exact absurd c13 hb
end Go.Am.Ds
end
