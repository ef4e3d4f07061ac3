/-
  What is used in the proof of a statement (part DsJ); no condition.
-/
import Derived.Test.YtnablaecbohhmaaGreatDsT
import Derived.Test.YtnablaecbohhmaaGreatVm2
import Derived.Test.YtnablaecbohhmaaGreatDsI
set_option linter.all false
section
namespace Go.Am.Ds
open Go Go.Am Go.Proofs
set_option maxRecDepth 100000
set_option maxHeartbeats 4000000
set_option linter.unusedSimpArgs false
set_option linter.unusedVariables false
attribute [local simp] vrun vwanted vyielded vop vopA vputAll VHeap.back hidI hidF backL bm Nat.testBit_eq_decide_div_mod_eq veval vevals vparts vO vbuiltin vlen vappend velems vcopy vmakeSlice vbuildSlice valloc vbox vmakeMap vload vpartT vpart vstore vfieldAddr vfield vindexAddr vindex vextract vslice vsliceZ vbounds vbnd zeroO vidx vlookup vmget vmapUpdate vdelete vclear vnilq vnilp vnils vbin vsc vsc1 vscs vscl abinOp aint ashift aunOp aconvert amaxs amax2 pvcV pvc pvcs tput tget vargs VHeap.get VHeap.alloc VHeap.put VHeap.drop VHeap.empty vlook vput vdrop psplice pfill preps chunk List.range List.range.loop vresults vresult vresultV frz frzL PV.isF PV.allF PV.scal PV.allS retP subT allFT PV.one PV.ids PV.idsL dropL beq_eq ble_dec blt_dec
attribute [local simp] zW tup2
def frS (s : List Wit) (c : Wit) (b : Int) : List Int := if b = 0 then c.slips else ariS c (atI s b c)
theorem p111 (s : List Wit) (k : Nat) (hk : k < s.length) (ok : OkS s) (b : Int) (hb : b = 0 ∨ ∃ w ∈ s, w.id = b) : VPure Tryz.prog 111 [encS s, .int .i64 k, .int .i64 b] fun r => r = ints (frS s s[k] b) := by
  by_cases h0 : b = 0
  · subst h0
    rw [frS, if_pos rfl]
    exact p111a s k hk ok
  · have hm : b ∈ idsS s := idsS_mem.2 (hb.resolve_left h0)
    obtain ⟨j, h1, h2, h3⟩ := getW_some (find_ids hm)
    rw [frS, if_neg h0, atI, h3, Option.getD_some]
    exact p111b s k j hk h1 b h0 h2 ok
theorem mem_putS {l : List Int} {n m : Int} (h : m ∈ putS l n) : m ∈ l ∨ m = n := by
  unfold putS at h
  split at h
  · exact .inl h
  · rcases List.mem_append.1 h with h | h
    · rcases List.mem_append.1 h with h | h
      · exact .inl (List.mem_of_mem_take h)
      · exact .inr (by simpa using h)
    · exact .inl (List.mem_of_mem_drop h)
theorem mem_modR {s : List Wit} {c : Wit} {b : Int} (h : b ∈ modR s c) : b = 0 ∨ ∃ w ∈ s, w.id = b := by
  have : ∀ (l : List Wit) (a : List Int), b ∈ l.foldl (stepR s c) a → b ∈ a ∨ ∃ w ∈ l, w.id = b := by
    intro l
    induction l with
    | nil => intro a h; exact .inl h
    | cons w r ih =>
      intro a h
      rcases ih _ h with h | ⟨u, h1, h2⟩
      · unfold stepR at h
        split at h
        · rcases mem_putS h with h | h
          · exact .inl h
          · exact .inr ⟨w, List.mem_cons_self, h.symm⟩
        · exact .inl h
      · exact .inr ⟨u, List.mem_cons_of_mem _ h1, h2⟩
  rcases this s _ h with h | h
  · split at h
    · exact .inl (by simpa using h)
    · cases h
  · exact .inr h
theorem modR_len (s : List Wit) (c : Wit) : (modR s c).length ≤ s.length + 1 := by
  rw [← moP_all]; exact moP_len s c s.length
def isB (s : List Wit) (c : Wit) (b : Int) : Bool := (modR s c).all fun b2 => decide ((frS s c b).length ≤ (frS s c b2).length)
def bestR (s : List Wit) (c : Wit) : List Int := (modR s c).filter (isB s c)
def leB (s : List Wit) (c : Wit) (b : Int) (q : Nat) : Bool := ((modR s c).take q).all fun b2 => decide ((frS s c b).length ≤ (frS s c b2).length)
theorem leB_succ (s : List Wit) (c : Wit) (b : Int) (q : Nat) (h : q < (modR s c).length) : leB s c b (q + 1) = (leB s c b q && decide ((frS s c b).length ≤ (frS s c (modR s c)[q]).length)) := by
  unfold leB
  rw [List.take_succ_eq_append_getElem h, List.all_append]
  simp
theorem leB_all (s : List Wit) (c : Wit) (b : Int) : leB s c b (modR s c).length = isB s c b := by unfold leB isB; rw [List.take_length]
theorem p112 (s : List Wit) (c : Nat) (hc : c < s.length) (ok : OkS s) : VPure Tryz.prog 112 [encS s, .int .i64 c] fun r => r = ints (bestR s s[c]) := by
  have hl24 := ok.len
  have hml := modR_len s s[c]
  refine .of_body Tryz.func112 rfl rfl ?_
  refine .seq ?_
  refine .rn ?_
  refine .seq ?_
  refine .regionL [0,1,2,3] rfl zz0 ?_
  refine .rn [0,1] [2,3] ?_
  refine .step rfl rfl (.pure rfl rfl rfl Tryz.call107 (by decide) (p107 s c hc ok) (by first | rfl | simp [*]) ?_)
  rintro _ rfl
  refine .rn [3] [] ?_
  refine .done ?_
  refine .seq ?_
  refine .rn ?_
  refine .seq ?_
  refine .seq ?_
  refine .rn ?_
  refine .block ?_
  refine .loopS (fun i : Nat => ([(1, .int .i64 c),(2, .ptr 0 0),(5, ints (modR s s[c])),(6, .grow 1 (((modR s s[c]).take i).filter (isB s s[c])).length true),(7, .int .i64 i)], ⟨2,[(1, .grow 1 ((((modR s s[c]).take i).filter (isB s s[c])).map (.int .i64))),(0, .box [.vec (s.map encW)])]⟩)) (fun i => i ≤ (modR s s[c]).length) (fun i => (modR s s[c]).length - i) 0 (by simp) (.mk [] [] zz14 zz15 rfl rfl rfl) ?_
  rintro i hi
  simp only at hi ⊢
  refine .seq ?_
  refine .seq ?_
  refine .rn ?_
  refine .condS rfl (fun c16 => ?_) (fun c16 => ?_)
  · try simp at c16
    have hwr : IntKind.i64.wrap ((i : Int) + 1) = (i : Int) + 1 := wrap64 (by omega) (by omega)
    have hT := take_succ_filt (isB s s[c]) (modR s s[c]) i c16
    have hle : (((modR s s[c]).take i).filter (isB s s[c])).length ≤ i := Nat.le_trans (List.length_filter_le _ _) (by simp; omega)
    have hb : (((modR s s[c]).take i).filter (isB s s[c])).length ≤ 4294967295 := by omega
    have hone : allOne [PV.int IntKind.i64 (modR s s[c])[i]] = true := rfl
    have hm1 := mem_modR (List.getElem_mem c16)
    refine .skip ?_
    refine .seq ?_
    refine .block ?_
    refine .seq ?_
    refine .rn ?_
    refine .seq ?_
    refine .seq ?_
    refine .rn ?_
    refine .block ?_
    refine .loopS (fun q : Nat => ([(1, .int .i64 c),(2, .ptr 0 0),(5, ints (modR s s[c])),(6, .grow 1 (((modR s s[c]).take i).filter (isB s s[c])).length true),(7, .int .i64 i),(8, .bool (leB s s[c] (modR s s[c])[i] q)),(9, .int .i64 q)], ⟨2,[(1, .grow 1 ((((modR s s[c]).take i).filter (isB s s[c])).map (.int .i64))),(0, .box [.vec (s.map encW)])]⟩)) (fun q => q ≤ (modR s s[c]).length) (fun q => (modR s s[c]).length - q) 0 (by simp) (.mk [] [] zz14 zz15 rfl rfl rfl) ?_
    rintro q hq
    simp only at hq ⊢
    refine .seq ?_
    refine .seq ?_
    refine .rn ?_
    refine .condS rfl (fun c22 => ?_) (fun c22 => ?_)
    · try simp at c22
      have hwr2 : IntKind.i64.wrap ((q : Int) + 1) = (q : Int) + 1 := wrap64 (by omega) (by omega)
      have hS := leB_succ s s[c] (modR s s[c])[i] q c22
      have hm2 := mem_modR (List.getElem_mem c22)
      refine .skip ?_
      refine .seq ?_
      refine .block ?_
      refine .drawn (ms := [0,1,3,3,3,3,51,115,255,511,3,3,3,3,12291,28675,65023,130559,262143,524287,1048575]) (W := [8,16]) (items := [.op 0, .op 1, .op 2, .op 3, .op 4, .op 5, .op 6, .op 7, .op 10, .op 11, .op 12, .op 13, .op 14, .op 15, .op 8, .ck 15, .ck 10, .op 9, .op 16, .ck 9, .op 17, .op 18, .op 19, .op 20]) rfl zz0 zz0 zz0 ?_
      refine .rd rfl rfl (by decide) rfl (by decide) zz1 ?_   -- 0
      refine .rd rfl rfl (by decide) rfl (by decide) zz1 ?_   -- 1
      refine .split (t := 26) rfl (fun c26 => ?_) (fun c26 => ?_)
      · try rw [c26]
        try simp at c26
        rw [c26, Bool.true_and] at hS
        refine .rd rfl rfl (by decide) rfl (by decide) zz1 ?_   -- 2
        refine .rd rfl rfl (by decide) rfl (by decide) zz1 ?_   -- 3
        refine .rd rfl rfl (by decide) rfl (by decide) zz1 ?_   -- 4
        refine .rd rfl rfl (by decide) rfl (by decide) zz1 ?_   -- 5
        refine .rd rfl rfl (by decide) rfl (by decide) zz1 ?_   -- 6
        refine .rd rfl rfl (by decide) rfl (by decide) zz1 ?_   -- 7
        refine .rd rfl rfl (by decide) rfl (by decide) zz1 ?_   -- 10
        refine .rd rfl rfl (by decide) rfl (by decide) zz1 ?_   -- 11
        refine .rd rfl rfl (by decide) rfl (by decide) zz1 ?_   -- 12
        refine .rd rfl rfl (by decide) rfl (by decide) zz1 ?_   -- 13
        refine .rd rfl rfl (by decide) rfl (by decide) zz1 ?_   -- 14
        refine .rd rfl rfl (by decide) rfl (by decide) zz1 ?_   -- 15
        refine .wr rfl rfl (by decide) (.pure rfl rfl rfl Tryz.call111 (by decide) (p111 s c hc ok _ hm1) (by first | rfl | simp [*]) ?_)
        rintro _ rfl
        refine .ck rfl zz0 ?_   -- 15
        refine .ck rfl zz0 ?_   -- 10
        refine .rd rfl rfl (by decide) rfl (by decide) zz1 ?_   -- 9
        refine .wr rfl rfl (by decide) (.pure rfl rfl rfl Tryz.call111 (by decide) (p111 s c hc ok _ hm2) (by first | rfl | simp [*]) ?_)
        rintro _ rfl
        refine .ck rfl zz0 ?_   -- 9
        refine .rd rfl rfl (by decide) rfl (by decide) zz1 ?_   -- 17
        refine .rd rfl rfl (by decide) rfl (by decide) zz1 ?_   -- 18
        refine .rd rfl rfl (by decide) rfl (by decide) zz1 ?_   -- 19
        refine .rd rfl rfl (by decide) rfl (by decide) zz1 ?_   -- 20
        refine .done ?_
        refine .rn ?_
        refine ⟨q + 1, c22,zz5,(.mk [] [] zz14 zz15 rfl rfl rfl)⟩
      · try rw [c26]
        try simp at c26
        rw [c26, Bool.false_and] at hS
        refine .un rfl rfl (by decide) ?_   -- 2
        refine .un rfl rfl (by decide) ?_   -- 3
        refine .un rfl rfl (by decide) ?_   -- 4
        refine .un rfl rfl (by decide) ?_   -- 5
        refine .un rfl rfl (by decide) ?_   -- 6
        refine .un rfl rfl (by decide) ?_   -- 7
        refine .un rfl rfl (by decide) ?_   -- 10
        refine .un rfl rfl (by decide) ?_   -- 11
        refine .un rfl rfl (by decide) ?_   -- 12
        refine .un rfl rfl (by decide) ?_   -- 13
        refine .un rfl rfl (by decide) ?_   -- 14
        refine .un rfl rfl (by decide) ?_   -- 15
        refine .un rfl rfl (by decide) ?_   -- 8
        refine .ckU rfl rfl rfl ?_   -- 15
        refine .ckU rfl rfl rfl ?_   -- 10
        refine .un rfl rfl (by decide) ?_   -- 9
        refine .un rfl rfl (by decide) ?_   -- 16
        refine .ckU rfl rfl rfl ?_   -- 9
        refine .un rfl rfl (by decide) ?_   -- 17
        refine .un rfl rfl (by decide) ?_   -- 18
        refine .rd rfl rfl (by decide) rfl (by decide) zz1 ?_   -- 19
        refine .rd rfl rfl (by decide) rfl (by decide) zz1 ?_   -- 20
        refine .done ?_
        refine .rn ?_
        refine ⟨q + 1, c22,zz5,(.mk [] [] zz14 zz15 rfl rfl rfl)⟩
    · try simp at c22
      have hqn : q = (modR s s[c]).length := by omega
      subst hqn
      have hall := leB_all s s[c] (modR s s[c])[i]
      refine .exit ?_
      refine .seq ?_
      refine .rn ?_
      refine .condS rfl (fun c45 => ?_) (fun c45 => ?_)
      · try simp at c45
        rw [if_pos c45] at hT
        refine .rn ?_
        refine .rn ?_
        refine ⟨i + 1, c16,zz5,(.mk [] [(1,3)] zz14 zz15 rfl rfl rfl)⟩
      · try simp at c45
        rw [if_neg (by simp [c45])] at hT
        refine .skip ?_
        refine .rn ?_
        refine ⟨i + 1, c16,zz5,(.mk [] [] zz14 zz15 rfl rfl rfl)⟩
  · try simp at c16
    have hin : i = (modR s s[c]).length := by omega
    subst hin
    refine .exit ?_
    refine .seq ?_
    refine .rn ?_
    refine .ret ?_
    refine ⟨_, _, zz4,zz4, ?_⟩
    first | rfl | (simp [*]; done) | (simp_all; done)
theorem p110 (s : List Wit) (ok : OkS s) : VPure Tryz.prog 110 [encS s] fun r => r = .bool (s.any fun w => decide (modR s w = [])) := by
  have hl24 := ok.len
  refine .of_body Tryz.func110 rfl rfl ?_
  refine .seq ?_
  refine .rn ?_
  refine .seq ?_
  refine .seq ?_
  refine .rn ?_
  refine .block ?_
  refine .loopS (fun i : Nat => ([(1, .ptr 0 0),(3, .int .i64 i)], ⟨1,[(0, .box [.vec (s.map encW)])]⟩)) (fun i => i ≤ s.length ∧ ∀ w ∈ s.take i, modR s w ≠ []) (fun i => s.length - i) 0 (by simp) (.mk [] [] zz14 zz15 rfl rfl rfl) ?_
  rintro i ⟨hi, hne⟩
  simp only at hi hne ⊢
  refine .seq ?_
  refine .seq ?_
  refine .rn ?_
  refine .condS rfl (fun c8 => ?_) (fun c8 => ?_)
  · try simp at c8
    have hwr : IntKind.i64.wrap ((i : Int) + 1) = (i : Int) + 1 := wrap64 (by omega) (by omega)
    refine .skip ?_
    refine .seq ?_
    refine .block ?_
    refine .seq ?_
    refine .regionL [0,1,2,3,4] rfl zz0 ?_
    refine .rn [0,1] [2,3,4] ?_
    refine .step rfl rfl (.pure rfl rfl rfl Tryz.call107 (by decide) (p107 s i c8 ok) (by first | rfl | simp [*]) ?_)
    rintro _ rfl
    refine .rn [3,4] [] ?_
    refine .done ?_
    refine .condS rfl (fun c15 => ?_) (fun c15 => ?_)
    · try simp at c15
      refine .seq ?_
      refine .rn ?_
      refine .ret ?_
      refine ⟨_, _, zz4,zz4, ?_⟩
      have e : (s.any fun w => decide (modR s w = [])) = true := List.any_eq_true.2 ⟨s[i], List.getElem_mem c8, by simpa using c15⟩
      rw [e]
    · try simp at c15
      refine .skip ?_
      refine .rn ?_
      refine ⟨i + 1, ⟨c8, ?_⟩, zz5,(.mk [] [] zz14 zz15 rfl rfl rfl)⟩
      intro w hw
      rw [List.take_succ_eq_append_getElem c8] at hw
      rcases List.mem_append.1 hw with hw | hw
      · exact hne w hw
      · rw [List.mem_singleton] at hw
        rw [hw]; exact c15
  · try simp at c8
    have hin : i = s.length := by omega
    subst hin
    rw [List.take_length] at hne
    refine .exit ?_
    refine .seq ?_
    refine .rn ?_
    refine .ret ?_
    refine ⟨_, _, zz4,zz4, ?_⟩
    have e : (s.any fun w => decide (modR s w = [])) = false := by
      rw [List.any_eq_false]
      intro w hw
      simpa using hne w hw
    rw [e]
end Go.Am.Ds
end
