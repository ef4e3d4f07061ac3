/-
  What is used in the proof of a statement (part DsX); no condition.
-/
import Derived.Test.YtnablaecbohhmaaGreatDsT
import Derived.Test.YtnablaecbohhmaaGreatVm2
import Derived.Test.YtnablaecbohhmaaGreatDsC
import Derived.Test.YtnablaecbohhmaaGreatDsG
import Derived.Test.YtnablaecbohhmaaGreatDsF
set_option linter.all false
section
namespace Go.Am.Ds
open Go Go.Am Go.Proofs
set_option maxHeartbeats 4000000
set_option linter.unusedSimpArgs false
set_option linter.unusedVariables false
attribute [local simp] vrun vwanted vyielded vop veval vevals vparts vO vbuiltin vlen vappend velems vcopy vmakeSlice vbuildSlice valloc vbox vmakeMap vload vpartT vpart vstore vfieldAddr vfield vindexAddr vindex vextract vslice vsliceZ vbounds vbnd zeroO vidx vlookup vmget vmapUpdate vdelete vnilq vnilp vnils vbin vsc vsc1 vscs vscl abinOp aint ashift aunOp aconvert amaxs amax2 pvcV pvc pvcs tput tget vargs VHeap.get VHeap.alloc VHeap.put VHeap.drop VHeap.empty vlook vput vdrop psplice pfill preps chunk List.range List.range.loop vresults vresult vresultV frz frzL PV.isF PV.allF PV.scal PV.allS retP subT allFT PV.one PV.ids PV.idsL dropL beq_eq ble_dec blt_dec
attribute [local simp] zW tup2
theorem getW_idx {s : List Wit} {id : Int} {c : Wit} (h : getW s id = some c) : ∃ i, ∃ h : i < s.length, findI s id = (i : Int) ∧ s[i] = c := by
  rcases Int.lt_or_le (findI s id) 0 with h0 | h0
  · rw [getW_none h0] at h; cases h
  · obtain ⟨i, h1, h2, h3⟩ := getW_some h0
    rw [h3] at h; injection h with h
    exact ⟨i, h1, h2, h⟩
end Go.Am.Ds
end
section
namespace Go.Am.Ds
open Go Go.Am Go.Proofs
set_option maxRecDepth 100000
set_option maxHeartbeats 4000000
set_option linter.unusedSimpArgs false
set_option linter.unusedVariables false
attribute [local simp] vrun vwanted vyielded vop vopA vputAll VHeap.back hidI hidF backL bm Nat.testBit_eq_decide_div_mod_eq veval vevals vparts vO vbuiltin vlen vappend velems vcopy vmakeSlice vbuildSlice valloc vbox vmakeMap vload vpartT vpart vstore vfieldAddr vfield vindexAddr vindex vextract vslice vsliceZ vbounds vbnd zeroO vidx vlookup vmget vmapUpdate vdelete vclear vnilq vnilp vnils vbin vsc vsc1 vscs vscl abinOp aint ashift aunOp aconvert amaxs amax2 pvcV pvc pvcs tput tget vargs VHeap.get VHeap.alloc VHeap.put VHeap.drop VHeap.empty vlook vput vdrop psplice pfill preps chunk List.range List.range.loop vresults vresult vresultV frz frzL PV.isF PV.allF PV.scal PV.allS retP subT allFT PV.one PV.ids PV.idsL dropL beq_eq ble_dec blt_dec
attribute [local simp] zW tup2
theorem p108' (s : List Wit) (hl : s.length < 4294967296) : VPure Tryz.prog 108 [encS s] fun r => r = .tup [.vec ((chL s).map encC), .int .i64 (chE s)] := VPure.soft (p108 s hl) rfl
theorem parS_le {s : List Wit} {c : Wit} {y : Int × Int} (h : y ∈ parS s c) : 0 ≤ y.2 ∧ y.2 ≤ (c.slips.length : Int) := by
  unfold parS at h
  rcases List.mem_append.1 h with h | h
  · unfold headP at h
    split at h
    · simp at h; subst h; simp
    · cases h
  · obtain ⟨id, _, h2⟩ := List.mem_filterMap.1 h
    unfold stepP at h2
    split at h2
    · cases h2
    · split at h2
      · injection h2 with h2; subst h2
        simp only
        have : (ariS c ‹Wit›).length ≤ c.slips.length := List.length_filter_le _ _
        omega
      · cases h2
theorem choF_le (s : List Wit) (c : Wit) : 0 ≤ (choF s c).2 ∧ (choF s c).2 ≤ (c.slips.length : Int) := by
  have : ∀ (l : List (Int × Int)) (x : List Int × Int),(∀ y ∈ l, 0 ≤ y.2 ∧ y.2 ≤ (c.slips.length : Int)) → 0 ≤ x.2 ∧ x.2 ≤ (c.slips.length : Int) → 0 ≤ (l.foldl stepC x).2 ∧ (l.foldl stepC x).2 ≤ (c.slips.length : Int) := by
    intro l
    induction l with
    | nil => intro x _ h; exact h
    | cons y r ih =>
      intro x hy hx
      refine ih _ (fun z hz => hy z (List.mem_cons_of_mem _ hz)) ?_
      have h1 := hy y List.mem_cons_self
      unfold stepC
      split
      · exact hx
      · split
        · exact h1
        · exact hx
  exact this _ _ (fun y hy => parS_le hy) (by simp)
def madeP (s : List Wit) (a b : Int) : Int × Int := match kinR s a b with
  | .err e => (0, e)
  | .text c => if chE s ≠ 0 then (0, chE s) else if lastS c 0 ≠ 0 then (0,8) else ((c.slips.length : Int) - (choF s c).2,0)
  | .of c p => if chE s ≠ 0 then (0, chE s) else if (whyP c p).1 ≠ 0 then (0,8) else (((ariS c p).length : Int) - (choF s c).2,0)
theorem p32 (s : List Wit) (a b : Int) (hl : s.length < 4294967296) : VPure Tryz.prog 32 [encS s, .agg [.int .i64 a, .int .i64 b]] fun r => r = .tup [.int .i64 (madeP s a b).1, .int .i64 (madeP s a b).2] := by
  refine .of_body Tryz.func32 rfl rfl ?_
  rcases hk : kinR s a b with e | c | ⟨c, p⟩
  ·
    have he := kinR_err hk
    have hp100 := p100 s a b hl
    rw [hk] at hp100
    simp only [KinR.enc] at hp100
    refine .seq ?_
    refine .rn ?_
    refine .seq ?_
    refine .regionL [0,1,2,3,4,5,6,7,8,9,10] rfl zz0 ?_
    refine .rn [0,1] [2,3,4,5,6,7,8,9,10] ?_
    refine .step rfl rfl (.pure rfl rfl rfl Tryz.call100 (by decide) (hp100) (by first | rfl | simp [*]) ?_)
    rintro _ rfl
    refine .rn [3,4,5,6,7,8,9,10] [] ?_
    refine .done ?_
    refine .seq ?_
    refine .seq ?_
    refine .rn ?_
    refine .condS rfl (fun c20 => ?_) (fun c20 => ?_)
    · try simp at c20
      refine .seq ?_
      refine .rn ?_
      refine .ret ?_
      refine ⟨_, _, zz4,zz4, ?_⟩
      simp [madeP, hk]
    · try simp at c20
      exact absurd c20 he
  ·
    obtain ⟨hc0, hg, -⟩ := kinR_text hk
    obtain ⟨i, hi, hie, rfl⟩ := getW_idx hg
    have hlen := checkS_lens hc0 s[i] (List.getElem_mem hi)
    have hp100 := p100 s a b hl
    rw [hk] at hp100
    simp only [KinR.enc] at hp100
    have hwhy := p101a s[i] hlen.2.2
    have hari := p109a s[i]
    have hmr : madeP s a b = if chE s ≠ 0 then (0, chE s) else if lastS s[i] 0 ≠ 0 then (0,8) else ((s[i].slips.length : Int) - (choF s s[i]).2,0) := by unfold madeP; rw [hk]
    have hwr : IntKind.i64.wrap ((s[i].slips.length : Int) - (choF s s[i]).2) = (s[i].slips.length : Int) - (choF s s[i]).2 := by have := choF_le s s[i]; exact wrap64 (by omega) (by omega)
    have h105 := p105' s a hl
    rw [hie] at h105
    refine .seq ?_
    refine .rn ?_
    refine .seq ?_
    refine .regionL [0,1,2,3,4,5,6,7,8,9,10] rfl zz0 ?_
    refine .rn [0,1] [2,3,4,5,6,7,8,9,10] ?_
    refine .step rfl rfl (.pure rfl rfl rfl Tryz.call100 (by decide) (hp100) (by first | rfl | simp [*]) ?_)
    rintro _ rfl
    refine .rn [3,4,5,6,7,8,9,10] [] ?_
    refine .done ?_
    refine .seq ?_
    refine .seq ?_
    refine .rn ?_
    refine .condS rfl (fun c20 => ?_) (fun c20 => ?_)
    · try simp at c20
    · try simp at c20
      refine .skip ?_
      refine .seq ?_
      refine .regionL [0,1,2,3,4,5,6] rfl zz0 ?_
      refine .rn [0] [1,2,3,4,5,6] ?_
      refine .step rfl rfl (.pure rfl rfl rfl Tryz.call108 (by decide) (p108' s hl) (by first | rfl | simp [*]) ?_)
      rintro _ rfl
      refine .rn [2,3,4,5,6] [] ?_
      refine .done ?_
      refine .seq ?_
      refine .seq ?_
      refine .rn ?_
      refine .condS rfl (fun c28 => ?_) (fun c28 => ?_)
      · try simp at c28
        rw [if_pos c28] at hmr
        refine .seq ?_
        refine .rn ?_
        refine .ret ?_
        refine ⟨_, _, zz4,zz4, ?_⟩
        simp [hmr]
      · try simp at c28
        rw [if_neg (by simp [c28])] at hmr
        have hL : chL s = s.map (choF s) := by unfold chL; rw [if_pos c28]
        have hEc : encC (choF s s[i]) = .agg [ints (choF s s[i]).1, .int .i64 (choF s s[i]).2] := rfl
        refine .skip ?_
        refine .seq ?_
        refine .seq ?_
        refine .regionL [0,1,2,3,4,5,6,7] rfl zz0 ?_
        refine .rn [0,1] [2,3,4,5,6,7] ?_
        refine .step rfl rfl (.pure rfl rfl rfl Tryz.call101 (by decide) (hwhy) (by first | rfl | simp [*]) ?_)
        rintro _ rfl
        refine .rn [3,4,5,6,7] [] ?_
        refine .done ?_
        refine .seq ?_
        refine .rn ?_
        refine .condS rfl (fun c37 => ?_) (fun c37 => ?_)
        · try simp at c37
          rw [if_pos c37] at hmr
          refine .seq ?_
          refine .rn ?_
          refine .ret ?_
          refine ⟨_, _, zz4,zz4, ?_⟩
          simp [hmr]
        · try simp at c37
          rw [if_neg (by simp [c37])] at hmr
          refine .skip ?_
          refine .seq ?_
          refine .drawn (ms := [0,0,3,7,0,0,0,64,231,503,1015,2039,4095,8191,16383]) (W := [2,8]) (items := [.op 0, .op 1, .op 4, .op 5, .op 6, .op 7, .op 2, .ck 7, .ck 5, .op 3, .op 8, .ck 3, .op 9, .op 10, .op 11, .op 12, .op 13, .op 14]) rfl zz0 zz0 zz0 ?_
          refine .rd rfl rfl (by decide) rfl (by decide) zz1 ?_   -- 0
          refine .rd rfl rfl (by decide) rfl (by decide) zz1 ?_   -- 1
          refine .rd rfl rfl (by decide) rfl (by decide) zz1 ?_   -- 4
          refine .rd rfl rfl (by decide) rfl (by decide) zz1 ?_   -- 5
          refine .rd rfl rfl (by decide) rfl (by decide) zz1 ?_   -- 6
          refine .rd rfl rfl (by decide) rfl (by decide) zz1 ?_   -- 7
          refine .wr rfl rfl (by decide) (.pure rfl rfl rfl Tryz.call109 (by decide) (hari) (by first | rfl | simp [*]) ?_)
          rintro _ rfl
          refine .ck rfl zz0 ?_   -- 7
          refine .ck rfl zz0 ?_   -- 5
          refine .rd rfl rfl (by decide) rfl (by decide) zz1 ?_   -- 3
          refine .wr rfl rfl (by decide) (.pure rfl rfl rfl Tryz.call105 (by decide) (h105) (by first | rfl | simp [*]) ?_)
          rintro _ rfl
          refine .ck rfl zz0 ?_   -- 3
          refine .rd rfl rfl (by decide) rfl (by decide) zz1 ?_   -- 9
          refine .rd rfl rfl (by decide) rfl (by decide) zz1 ?_   -- 10
          refine .rd rfl rfl (by decide) rfl (by decide) zz1 ?_   -- 11
          refine .rd rfl rfl (by decide) rfl (by decide) zz1 ?_   -- 12
          refine .rd rfl rfl (by decide) rfl (by decide) zz1 ?_   -- 13
          refine .rd rfl rfl (by decide) rfl (by decide) zz1 ?_   -- 14
          refine .done ?_
          refine .ret ?_
          refine ⟨_, _, zz4,zz4, ?_⟩
          simp [hmr]
  ·
    obtain ⟨hc0, hg, -, hg2⟩ := kinR_of hk
    obtain ⟨i, hi, hie, rfl⟩ := getW_idx hg
    have hlen := checkS_lens hc0 s[i] (List.getElem_mem hi)
    have hlen2 := checkS_lens hc0 p (getW_mem hg2).1
    have hp100 := p100 s a b hl
    rw [hk] at hp100
    simp only [KinR.enc] at hp100
    have hwhy := p101b s[i] p hlen.1 hlen.2.1 hlen.2.2 hlen2.1
    have hari := p109 s[i] p hlen.1 hlen2.1
    have hmr : madeP s a b = if chE s ≠ 0 then (0, chE s) else if (whyP s[i] p).1 ≠ 0 then (0,8) else (((ariS s[i] p).length : Int) - (choF s s[i]).2,0) := by unfold madeP; rw [hk]
    have hwr : IntKind.i64.wrap (((ariS s[i] p).length : Int) - (choF s s[i]).2) = ((ariS s[i] p).length : Int) - (choF s s[i]).2 := by
      have := choF_le s s[i]
      have : (ariS s[i] p).length ≤ s[i].slips.length := List.length_filter_le _ _
      exact wrap64 (by omega) (by omega)
    have h105 := p105' s a hl
    rw [hie] at h105
    refine .seq ?_
    refine .rn ?_
    refine .seq ?_
    refine .regionL [0,1,2,3,4,5,6,7,8,9,10] rfl zz0 ?_
    refine .rn [0,1] [2,3,4,5,6,7,8,9,10] ?_
    refine .step rfl rfl (.pure rfl rfl rfl Tryz.call100 (by decide) (hp100) (by first | rfl | simp [*]) ?_)
    rintro _ rfl
    refine .rn [3,4,5,6,7,8,9,10] [] ?_
    refine .done ?_
    refine .seq ?_
    refine .seq ?_
    refine .rn ?_
    refine .condS rfl (fun c20 => ?_) (fun c20 => ?_)
    · try simp at c20
    · try simp at c20
      refine .skip ?_
      refine .seq ?_
      refine .regionL [0,1,2,3,4,5,6] rfl zz0 ?_
      refine .rn [0] [1,2,3,4,5,6] ?_
      refine .step rfl rfl (.pure rfl rfl rfl Tryz.call108 (by decide) (p108' s hl) (by first | rfl | simp [*]) ?_)
      rintro _ rfl
      refine .rn [2,3,4,5,6] [] ?_
      refine .done ?_
      refine .seq ?_
      refine .seq ?_
      refine .rn ?_
      refine .condS rfl (fun c28 => ?_) (fun c28 => ?_)
      · try simp at c28
        rw [if_pos c28] at hmr
        refine .seq ?_
        refine .rn ?_
        refine .ret ?_
        refine ⟨_, _, zz4,zz4, ?_⟩
        simp [hmr]
      · try simp at c28
        rw [if_neg (by simp [c28])] at hmr
        have hL : chL s = s.map (choF s) := by unfold chL; rw [if_pos c28]
        have hEc : encC (choF s s[i]) = .agg [ints (choF s s[i]).1, .int .i64 (choF s s[i]).2] := rfl
        refine .skip ?_
        refine .seq ?_
        refine .seq ?_
        refine .regionL [0,1,2,3,4,5,6,7] rfl zz0 ?_
        refine .rn [0,1] [2,3,4,5,6,7] ?_
        refine .step rfl rfl (.pure rfl rfl rfl Tryz.call101 (by decide) (hwhy) (by first | rfl | simp [*]) ?_)
        rintro _ rfl
        refine .rn [3,4,5,6,7] [] ?_
        refine .done ?_
        refine .seq ?_
        refine .rn ?_
        refine .condS rfl (fun c37 => ?_) (fun c37 => ?_)
        · try simp at c37
          rw [if_pos c37] at hmr
          refine .seq ?_
          refine .rn ?_
          refine .ret ?_
          refine ⟨_, _, zz4,zz4, ?_⟩
          simp [hmr]
        · try simp at c37
          rw [if_neg (by simp [c37])] at hmr
          refine .skip ?_
          refine .seq ?_
          refine .drawn (ms := [0,0,3,7,0,0,0,64,231,503,1015,2039,4095,8191,16383]) (W := [2,8]) (items := [.op 0, .op 1, .op 4, .op 5, .op 6, .op 7, .op 2, .ck 7, .ck 5, .op 3, .op 8, .ck 3, .op 9, .op 10, .op 11, .op 12, .op 13, .op 14]) rfl zz0 zz0 zz0 ?_
          refine .rd rfl rfl (by decide) rfl (by decide) zz1 ?_   -- 0
          refine .rd rfl rfl (by decide) rfl (by decide) zz1 ?_   -- 1
          refine .rd rfl rfl (by decide) rfl (by decide) zz1 ?_   -- 4
          refine .rd rfl rfl (by decide) rfl (by decide) zz1 ?_   -- 5
          refine .rd rfl rfl (by decide) rfl (by decide) zz1 ?_   -- 6
          refine .rd rfl rfl (by decide) rfl (by decide) zz1 ?_   -- 7
          refine .wr rfl rfl (by decide) (.pure rfl rfl rfl Tryz.call109 (by decide) (hari) (by first | rfl | simp [*]) ?_)
          rintro _ rfl
          refine .ck rfl zz0 ?_   -- 7
          refine .ck rfl zz0 ?_   -- 5
          refine .rd rfl rfl (by decide) rfl (by decide) zz1 ?_   -- 3
          refine .wr rfl rfl (by decide) (.pure rfl rfl rfl Tryz.call105 (by decide) (h105) (by first | rfl | simp [*]) ?_)
          rintro _ rfl
          refine .ck rfl zz0 ?_   -- 3
          refine .rd rfl rfl (by decide) rfl (by decide) zz1 ?_   -- 9
          refine .rd rfl rfl (by decide) rfl (by decide) zz1 ?_   -- 10
          refine .rd rfl rfl (by decide) rfl (by decide) zz1 ?_   -- 11
          refine .rd rfl rfl (by decide) rfl (by decide) zz1 ?_   -- 12
          refine .rd rfl rfl (by decide) rfl (by decide) zz1 ?_   -- 13
          refine .rd rfl rfl (by decide) rfl (by decide) zz1 ?_   -- 14
          refine .done ?_
          refine .ret ?_
          refine ⟨_, _, zz4,zz4, ?_⟩
          simp [hmr]
end Go.Am.Ds
end
section
namespace Go.Am.Ds
open Go Go.Am Go.Proofs

theorem checkL_nodup : ∀ {l : List Wit} {seen : List Int}, checkL l seen = 0 → (l.map Wit.id).Nodup ∧ ∀ w ∈ l, w.id ∉ seen
  | [], _, _ => ⟨.nil, fun w hw => by cases hw⟩
  | a :: r, seen, h => by
    simp only [checkL] at h
    split at h
    · split at h
      · simp at h
      · rename_i hn
        obtain ⟨h1, h2⟩ := checkL_nodup h
        refine ⟨?_, fun w hw => ?_⟩
        · rw [List.map_cons, List.nodup_cons]
          refine ⟨fun hm => ?_, h1⟩
          obtain ⟨w, hw, he⟩ := List.mem_map.1 hm
          exact h2 w hw ((mem_insU _ _ _).2 (.inr he))
        · rcases List.mem_cons.1 hw with rfl | hw
          · exact hn
          · exact fun hs => h2 w hw ((mem_insU _ _ _).2 (.inl hs))
    · rename_i h0; exact absurd h h0
theorem checkS_nodup {s : List Wit} (h : checkS s = 0) : (s.map Wit.id).Nodup := by
  unfold checkS at h
  split at h
  · simp at h
  · exact (checkL_nodup h).1
theorem checkS_pos {s : List Wit} (h : checkS s = 0) : ∀ w ∈ s, 0 < w.id := fun w hw => by
  have := (checkS_ok h).2 w hw
  unfold witE at this
  split at this
  · cases this
  · omega

theorem stepP_some {s : List Wit} {c : Wit} {id : Int} {y : Int × Int} : stepP s c id = some y ↔ ∃ p, getW s id = some p ∧ (whyP c p).1 = 0 ∧ y = (id, ((ariS c p).length : Int)) := by
  unfold stepP
  cases hg : getW s id with
  | none => simp
  | some p =>
    simp only
    by_cases h : (whyP c p).1 = 0
    · rw [if_pos h]
      constructor
      · intro h2; injection h2 with h2; exact ⟨p, rfl, h, h2.symm⟩
      · rintro ⟨q, h2, _, h3⟩; injection h2 with h2; subst h2; rw [h3]
    · rw [if_neg h]
      constructor
      · intro h2; cases h2
      · rintro ⟨q, h2, h3, _⟩; injection h2 with h2; subst h2; exact absurd h3 h
theorem parS_mem {s : List Wit} {c : Wit} {y : Int × Int} : y ∈ parS s c ↔ (y = (0,(c.slips.length : Int)) ∧ lastS c 0 = 0) ∨ ∃ p, y.1 ∈ idsS s ∧ getW s y.1 = some p ∧ (whyP c p).1 = 0 ∧ y.2 = ((ariS c p).length : Int) := by
  unfold parS
  rw [List.mem_append, List.mem_filterMap]
  have h0 : y ∈ headP c ↔ y = (0,(c.slips.length : Int)) ∧ lastS c 0 = 0 := by
    unfold headP
    split
    · rename_i h; simp [h]
    · rename_i h; simp [h]
  rw [h0]
  constructor
  · rintro (h | ⟨id, h1, h2⟩)
    · exact .inl h
    · obtain ⟨p, h3, h4, h5⟩ := stepP_some.1 h2
      subst h5
      exact .inr ⟨p, h1, h3, h4, rfl⟩
  · rintro (h | ⟨p, h1, h2, h3, h4⟩)
    · exact .inl h
    · exact .inr ⟨y.1, h1, stepP_some.2 ⟨p, h2, h3, Prod.ext rfl h4⟩⟩
theorem can_eq (s : List Wit) (a b : Int) : canR (kinR s a b) = (decide ((whyR (kinR s a b)).2.2 = 0) && decide ((whyR (kinR s a b)).1 = 0)) := by
  cases hk : kinR s a b with
  | err e => simp [canR, whyR, kinR_err hk]
  | text c =>
    simp only [canR, whyR]
    cases h : (lastS c 0 == 0) <;> simp_all
  | of c p =>
    simp only [canR, whyR]
    cases h : ((whyP c p).1 == 0) <;> simp_all
end Go.Am.Ds
end
section
namespace Go.Am.Ds
open Go Go.Am Go.Proofs
set_option maxRecDepth 100000
set_option maxHeartbeats 4000000
set_option linter.unusedSimpArgs false
set_option linter.unusedVariables false
attribute [local simp] vrun vwanted vyielded vop vopA vputAll VHeap.back hidI hidF backL bm Nat.testBit_eq_decide_div_mod_eq veval vevals vparts vO vbuiltin vlen vappend velems vcopy vmakeSlice vbuildSlice valloc vbox vmakeMap vload vpartT vpart vstore vfieldAddr vfield vindexAddr vindex vextract vslice vsliceZ vbounds vbnd zeroO vidx vlookup vmget vmapUpdate vdelete vclear vnilq vnilp vnils vbin vsc vsc1 vscs vscl abinOp aint ashift aunOp aconvert amaxs amax2 pvcV pvc pvcs tput tget vargs VHeap.get VHeap.alloc VHeap.put VHeap.drop VHeap.empty vlook vput vdrop psplice pfill preps chunk List.range List.range.loop vresults vresult vresultV frz frzL PV.isF PV.allF PV.scal PV.allS retP subT allFT PV.one PV.ids PV.idsL dropL beq_eq ble_dec blt_dec
def longT (w : Wit) : Bool := decide (8 < w.slips.length) || decide (30 < w.mended.length) || decide (24 < w.models.length)
def smallS (s : List Wit) : Bool := !(s.any longT) && decide (s.length ≤ 12)
def parR (s : List Wit) (id : Int) : PV := match getW s id with
  | some p => .vp (encW p).cells
  | none => .ptr0
def stepD (s : List Wit) (c : Wit) (id : Int) : Option Int := match getW s id with
  | none => if id = 0 ∧ lastS c 0 = 0 then some (c.slips.length : Int) else none
  | some p => if (whyP c p).1 = 0 then some ((ariS c p).length : Int) else none
def desL (s : List Wit) (l : List Int) : List (Option Int) := (s.zip l).map fun x => stepD s x.1 x.2
def desP (s : List Wit) (l : List Int) (k : Nat) : Int := (((desL s l).take k).map (·.getD 0)).sum
def desR (s : List Wit) (l : List Int) : Int × Bool := if l.length = s.length ∧ (desL s l).all Option.isSome = true then (desP s l s.length, true) else (0, false)
theorem p21 (s : List Wit) (hl : s.length < 4611686018427387904) : VPure Tryz.prog 21 [encS s] fun r => r = .bool (smallS s) := by
  refine .of_body Tryz.func21 rfl rfl ?_
  refine .seq ?_
  refine .rn ?_
  refine .seq ?_
  refine .seq ?_
  refine .rn ?_
  refine .block ?_
  refine .loopS (fun i : Nat => ([(1, .ptr 0 0),(3, .int .i64 i)], ⟨1,[(0, .box [.vec (s.map encW)])]⟩)) (fun i => i ≤ s.length ∧ (s.take i).any longT = false) (fun i => s.length - i) 0 (by simp) (.mk [] [] zz14 zz15 rfl rfl rfl) ?_
  rintro i ⟨hi, hr⟩
  simp only at hi hr ⊢
  refine .seq ?_
  refine .seq ?_
  refine .rn ?_
  refine .condS rfl (fun c8 => ?_) (fun c8 => ?_)
  · try simp at c8
    have hw2 : IntKind.i64.wrap ((i : Int) + 1) = (i : Int) + 1 := wrap64 (by omega) (by omega)
    have hA := take_succ_any longT s i c8
    rw [hr] at hA
    refine .skip ?_
    refine .seq ?_
    refine .block ?_
    refine .seq ?_
    refine .regionL [0,1,2,3,4,5,6,7,8,9,10,11,12,13,14,15,16,17,18,19,20,21,22,23,24,25,26,27] rfl zz0 ?_
    refine .rn [0,1,2,3,4,5,6,7,8] [9,10,11,12,13,14,15,16,17,18,19,20,21,22,23,24,25,26,27] ?_
    refine .split (t := 19) rfl (fun c19 => ?_) (fun c19 => ?_)
    · try rw [c19]
      try simp at c19
      refine .rn [9,10,11,12,13,14,15,16,17,18,19,20,21,22,23,24,25,26,27] [] ?_
      refine .done ?_
      refine .condT rfl ?_
      refine .seq ?_
      refine .rn ?_
      refine .ret ?_
      refine ⟨_, _, zz4,zz4, ?_⟩
      have h : longT s[i] = true := by unfold longT; simp; omega
      unfold smallS; rw [any_get longT s i c8 h]; rfl
    · try rw [c19]
      try simp at c19
      refine .rn [9,10,11,12,13,14,15,16,17,18] [19,20,21,22,23,24,25,26,27] ?_
      refine .split (t := 29) rfl (fun c29 => ?_) (fun c29 => ?_)
      · try rw [c29]
        try simp at c29
        refine .rn [19,20,21,22,23,24,25,26,27] [] ?_
        refine .done ?_
        refine .condT rfl ?_
        refine .seq ?_
        refine .rn ?_
        refine .ret ?_
        refine ⟨_, _, zz4,zz4, ?_⟩
        have h : longT s[i] = true := by unfold longT; simp; omega
        unfold smallS; rw [any_get longT s i c8 h]; rfl
      · try rw [c29]
        try simp at c29
        refine .rn [19,20,21,22,23,24,25,26,27] [] ?_
        refine .done ?_
        refine .condS rfl (fun c38 => ?_) (fun c38 => ?_)
        · try simp at c38
          refine .seq ?_
          refine .rn ?_
          refine .ret ?_
          refine ⟨_, _, zz4,zz4, ?_⟩
          have h : longT s[i] = true := by unfold longT; simp; omega
          unfold smallS; rw [any_get longT s i c8 h]; rfl
        · try simp at c38
          refine .skip ?_
          refine .rn ?_
          have h : longT s[i] = false := by unfold longT; simp; omega
          rw [h] at hA
          refine ⟨i + 1, ⟨zz5, by simpa using hA⟩, zz5,(.mk [] [] zz14 zz15 rfl rfl rfl)⟩
  · try simp at c8
    have hi2 : i = s.length := by omega
    subst hi2
    rw [List.take_length] at hr
    refine .exit ?_
    refine .seq ?_
    refine .rn ?_
    refine .ret ?_
    refine ⟨_, _, zz4,zz4, ?_⟩
    unfold smallS; rw [hr]; simp; omega
end Go.Am.Ds
end
section
namespace Go.Am.Ds
open Go Go.Am Go.Proofs
set_option maxRecDepth 100000
set_option maxHeartbeats 4000000
set_option linter.unusedSimpArgs false
set_option linter.unusedVariables false
attribute [local simp] vrun vwanted vyielded vop vopA vputAll VHeap.back hidI hidF backL bm Nat.testBit_eq_decide_div_mod_eq veval vevals vparts vO vbuiltin vlen vappend velems vcopy vmakeSlice vbuildSlice valloc vbox vmakeMap vload vpartT vpart vstore vfieldAddr vfield vindexAddr vindex vextract vslice vsliceZ vbounds vbnd zeroO vidx vlookup vmget vmapUpdate vdelete vclear vnilq vnilp vnils vbin vsc vsc1 vscs vscl abinOp aint ashift aunOp aconvert amaxs amax2 pvcV pvc pvcs tput tget vargs VHeap.get VHeap.alloc VHeap.put VHeap.drop VHeap.empty vlook vput vdrop psplice pfill preps chunk List.range List.range.loop vresults vresult vresultV frz frzL PV.isF PV.allF PV.scal PV.allS retP subT allFT PV.one PV.ids PV.idsL dropL beq_eq ble_dec blt_dec
def bestP (s : List Wit) : List Int := (chL s).map fun c => c.1.headD 0
def bestS (s : List Wit) (k : Nat) : Int := (((chL s).take k).map (·.2)).sum
theorem chL_ok {s : List Wit} (h : chE s = 0) : chL s = s.map (choF s) := by unfold chL; rw [if_pos h]
theorem chE_ok {s : List Wit} (h : chE s = 0) : checkS s = 0 ∧ ∀ c ∈ s, (choF s c).1 ≠ [] := by
  unfold chE at h
  split at h
  · split at h
    · cases h
    · rename_i h1 h2; exact ⟨h1, fun c hc h3 => h2 ⟨c, hc, h3⟩⟩
  · contradiction
theorem chL_len {s : List Wit} (h : chE s = 0) : (chL s).length = s.length := by rw [chL_ok h]; simp
end Go.Am.Ds
end
section
namespace Go.Am.Ds
open Go Go.Am Go.Proofs
theorem fold_mem : ∀ (l d : List (Int × Int)) (x : List Int × Int),(∀ b ∈ x.1,(b, x.2) ∈ d) → ∀ b ∈ (l.foldl stepC x).1,(b, (l.foldl stepC x).2) ∈ d ++ l
  | [], d, x, h => by simpa using h
  | y :: r, d, x, h => by
    have ih := fold_mem r (d ++ [y]) (stepC x y) (by
      unfold stepC
      split
      · intro b hb; exact List.mem_append_left _ (h b hb)
      · rename_i h1
        split
        · intro b hb
          rw [List.mem_singleton] at hb
          subst hb; simp
        · rename_i h2
          intro b hb
          have h3 : x.1 ≠ [] := fun h4 => h2 (.inl h4)
          have h4 : ¬ y.2 < x.2 := fun h4 => h2 (.inr h4)
          have h5 : ¬ x.2 < y.2 := fun h5 => h1 ⟨h3, h5⟩
          rcases List.mem_append.1 hb with hb | hb
          · exact List.mem_append_left _ (h b hb)
          · rw [List.mem_singleton] at hb
            subst hb
            have h6 : x.2 = y.2 := by omega
            simp [h6])
    rw [List.append_assoc, List.singleton_append] at ih
    rw [List.foldl_cons]
    exact ih
theorem choF_mem {s : List Wit} {c : Wit} {b : Int} (h : b ∈ (choF s c).1) : (b, (choF s c).2) ∈ parS s c := by
  have := fold_mem (parS s c) [] ([],0) (by simp) b h
  rw [List.nil_append] at this
  exact this
theorem stepD_par {s : List Wit} (h : checkS s = 0) {c : Wit} {b d : Int} (hb : (b, d) ∈ parS s c) : stepD s c b = some d := by
  rcases parS_mem.1 hb with ⟨he, h1⟩ | ⟨p, _, h2, h3, h4⟩
  · injection he with e1 e2
    subst e1; subst e2
    have hg : getW s 0 = none := by
      cases hg : getW s 0 with
      | none => rfl
      | some p =>
        obtain ⟨hp, h0⟩ := getW_mem hg
        have := checkS_pos h p hp
        omega
    simp only [stepD, hg]
    rw [if_pos ⟨trivial, h1⟩]
  · simp only at h2 h4
    simp only [stepD, h2]
    rw [if_pos h3, h4]
theorem getW_own : ∀ {s : List Wit},(s.map Wit.id).Nodup → ∀ {w : Wit}, w ∈ s → getW s w.id = some w
  | a :: r, hn, w, hw => by
    rw [List.map_cons, List.nodup_cons] at hn
    unfold getW
    rw [List.find?_cons]
    rcases List.mem_cons.1 hw with rfl | hw
    · simp
    · have : a.id ≠ w.id := fun h => hn.1 (h ▸ List.mem_map_of_mem hw)
      rw [show decide (a.id = w.id) = false from decide_eq_false this]
      exact getW_own hn.2 hw
end Go.Am.Ds
end
section
namespace Go.Am.Ds
open Go Go.Am Go.Proofs
set_option maxHeartbeats 4000000
set_option linter.unusedSimpArgs false
set_option linter.unusedVariables false
attribute [local simp] vrun vwanted vyielded vop veval vevals vparts vO vbuiltin vlen vappend velems vcopy vmakeSlice vbuildSlice valloc vbox vmakeMap vload vpartT vpart vstore vfieldAddr vfield vindexAddr vindex vextract vslice vsliceZ vbounds vbnd zeroO vidx vlookup vmget vmapUpdate vdelete vnilq vnilp vnils vbin vsc vsc1 vscs vscl abinOp aint ashift aunOp aconvert amaxs amax2 pvcV pvc pvcs tput tget vargs VHeap.get VHeap.alloc VHeap.put VHeap.drop VHeap.empty vlook vput vdrop psplice pfill preps chunk List.range List.range.loop vresults vresult vresultV frz frzL PV.isF PV.allF PV.scal PV.allS retP subT allFT PV.one PV.ids PV.idsL dropL beq_eq ble_dec blt_dec
theorem smallS_len {s : List Wit} (h : smallS s = true) : s.length ≤ 12 := by
  unfold smallS at h
  simp only [Bool.and_eq_true, decide_eq_true_eq] at h
  exact h.2
end Go.Am.Ds
end
section
namespace Go.Am.Ds
open Go Go.Am Go.Proofs
set_option maxRecDepth 100000
set_option maxHeartbeats 4000000
set_option linter.unusedSimpArgs false
set_option linter.unusedVariables false
attribute [local simp] vrun vwanted vyielded vop vopA vputAll VHeap.back hidI hidF backL bm Nat.testBit_eq_decide_div_mod_eq veval vevals vparts vO vbuiltin vlen vappend velems vcopy vmakeSlice vbuildSlice valloc vbox vmakeMap vload vpartT vpart vstore vfieldAddr vfield vindexAddr vindex vextract vslice vsliceZ vbounds vbnd zeroO vidx vlookup vmget vmapUpdate vdelete vclear vnilq vnilp vnils vbin vsc vsc1 vscs vscl abinOp aint ashift aunOp aconvert amaxs amax2 pvcV pvc pvcs tput tget vargs VHeap.get VHeap.alloc VHeap.put VHeap.drop VHeap.empty vlook vput vdrop psplice pfill preps chunk List.range List.range.loop vresults vresult vresultV frz frzL PV.isF PV.allF PV.scal PV.allS retP subT allFT PV.one PV.ids PV.idsL dropL beq_eq ble_dec blt_dec
def cntP (s : List Wit) (k : Nat) : Int := ((chL s).take k).foldl (fun a c => if a * (c.1.length : Int) < 1073741824 then a * (c.1.length : Int) else 1073741824) 1
def cntR (s : List Wit) : Int := if chE s = 0 then cntP s (chL s).length else 0
theorem cntP_succ (s : List Wit) (k : Nat) (hk : k < (chL s).length) : cntP s (k + 1) = if cntP s k * ((chL s)[k].1.length : Int) < 1073741824 then cntP s k * ((chL s)[k].1.length : Int) else 1073741824 := by
  unfold cntP; rw [List.take_succ_eq_append_getElem hk, List.foldl_append]; rfl
theorem chL_lenk {s : List Wit} (h : chE s = 0) {k : Nat} (hk : k < (chL s).length) : (chL s)[k].1.length ≤ s.length + 1 := by
  have aux : ∀ x ∈ chL s, ∃ c ∈ s, choF s c = x := fun x hx => by rw [chL_ok h] at hx; exact List.mem_map.1 hx
  obtain ⟨c, hc, he⟩ := aux _ (List.getElem_mem hk)
  rw [← he, ← chP_all]
  have := chP_len s c (idsS s).length
  have := idsS_len s
  omega
theorem cntP_bd {s : List Wit} : ∀ k, k ≤ (chL s).length → 0 ≤ cntP s k ∧ cntP s k ≤ 1073741824
  | 0, _ => by simp [cntP]
  | k + 1, hk => by
    have h1 := cntP_bd (s := s) k (by omega)
    rw [cntP_succ s k (by omega)]
    have : 0 ≤ cntP s k * ((chL s)[k].1.length : Int) := Int.mul_nonneg h1.1 (by omega)
    split <;> omega
def encK (x : Int × Int) : PV := .agg [.int .i64 x.1, .int .i64 x.2]
@[simp] theorem allSz_encK (l : List (Int × Int)) : allSz 2 (l.map encK) = true := allSz_map (f := encK) (n := 2) (fun _ => rfl) l
@[simp] theorem allOne_encK (l : List (Int × Int)) : allOne (l.map encK) = true := allOne_map (f := encK) (fun _ => rfl) l
theorem take_succ_mem {l : List Int} {n : Int} {i : Nat} (h : i < l.length) (h1 : n ∉ l.take i) (h2 : l[i] ≠ n) : n ∉ l.take (i + 1) := by
  rw [List.take_succ_eq_append_getElem h]
  intro h3
  rcases List.mem_append.1 h3 with h3 | h3
  · exact h1 h3
  · rw [List.mem_singleton] at h3; exact h2 h3.symm
theorem take_succ_count {α : Type} (p : α → Bool) (l : List α) (i : Nat) (h : i < l.length) : ((l.take (i + 1)).countP p : Nat) = (l.take i).countP p + (if p l[i] then 1 else 0) := by
  rw [List.take_succ_eq_append_getElem h, List.countP_append]; simp [List.countP_cons]
theorem p46 (l : List Int) (n : Int) (hl : l.length < 4611686018427387904) : VPure Tryz.prog 46 [ints l, .int .i64 n] fun r => r = .bool (decide (n ∈ l)) := by
  refine .of_body Tryz.func46 rfl rfl ?_
  refine .seq ?_
  refine .rn ?_
  refine .seq ?_
  refine .seq ?_
  refine .rn ?_
  refine .block ?_
  refine .loopS (fun i : Nat => ([(0, ints l),(1, .int .i64 n),(5, .int .i64 i)], ⟨0,[]⟩)) (fun i => i ≤ l.length ∧ n ∉ l.take i) (fun i => l.length - i) 0 (by simp) (.mk [] [] zz14 zz15 rfl rfl rfl) ?_
  rintro i ⟨hi, hn⟩
  simp only at hi hn ⊢
  refine .seq ?_
  refine .seq ?_
  refine .rn ?_
  refine .condS rfl (fun c9 => ?_) (fun c9 => ?_)
  · try simp at c9
    have hw2 : IntKind.i64.wrap ((i : Int) + 1) = (i : Int) + 1 := wrap64 (by omega) (by omega)
    refine .skip ?_
    refine .seq ?_
    refine .block ?_
    refine .seq ?_
    refine .rn ?_
    refine .condS rfl (fun c17 => ?_) (fun c17 => ?_)
    · try simp at c17
      refine .seq ?_
      refine .rn ?_
      refine .ret ?_
      refine ⟨_, _, zz4,zz4, ?_⟩
      have : n ∈ l := c17 ▸ List.getElem_mem c9
      simp [this]
    · try simp at c17
      refine .skip ?_
      refine .rn ?_
      refine ⟨i + 1, ⟨c9, take_succ_mem c9 hn c17⟩, zz5,(.mk [] [] zz14 zz15 rfl rfl rfl)⟩
  · try simp at c9
    have : i = l.length := by omega
    subst this
    rw [List.take_length] at hn
    refine .exit ?_
    refine .seq ?_
    refine .rn ?_
    refine .ret ?_
    refine ⟨_, _, zz4,zz4, ?_⟩
    simp [hn]
theorem p45 (l : List (Int × Int)) (a : Int) (hl : l.length < 4611686018427387904) : VPure Tryz.prog 45 [.vec (l.map encK), .int .i64 a] fun r => r = .int .i64 (l.countP fun k => decide (k.1 = a)) := by
  refine .of_body Tryz.func45 rfl rfl ?_
  refine .seq ?_
  refine .rn ?_
  refine .seq ?_
  refine .rn ?_
  refine .seq ?_
  refine .seq ?_
  refine .rn ?_
  refine .block ?_
  refine .loopS (fun i : Nat => ([(0, .vec (l.map encK)),(1, .int .i64 a),(5, .int .i64 ((l.take i).countP fun k => decide (k.1 = a))),(6, .int .i64 i)], ⟨0,[]⟩)) (fun i => i ≤ l.length) (fun i => l.length - i) 0 (by simp) (.mk [] [] zz14 zz15 rfl rfl rfl) ?_
  rintro i hi
  simp only at hi ⊢
  have hcl : ((l.take i).countP fun k => decide (k.1 = a)) ≤ i := Nat.le_trans List.countP_le_length (by simp; omega)
  refine .seq ?_
  refine .seq ?_
  refine .rn ?_
  refine .condS rfl (fun c10 => ?_) (fun c10 => ?_)
  · try simp at c10
    have hw2 : IntKind.i64.wrap ((i : Int) + 1) = (i : Int) + 1 := wrap64 (by omega) (by omega)
    have hw3 : IntKind.i64.wrap (((l.take i).countP fun k => decide (k.1 = a) : Nat) + 1 : Int) = ((l.take i).countP fun k => decide (k.1 = a) : Nat) + 1 := wrap64 (by omega) (by omega)
    have hE : encK l[i] = .agg [.int .i64 l[i].1, .int .i64 l[i].2] := rfl
    have hC := take_succ_count (fun k : Int × Int => decide (k.1 = a)) l i c10
    refine .skip ?_
    refine .seq ?_
    refine .block ?_
    refine .seq ?_
    refine .rn ?_
    refine .condS rfl (fun c19 => ?_) (fun c19 => ?_)
    · try simp at c19
      rw [if_pos (by simpa using c19)] at hC
      refine .rn ?_
      refine .rn ?_
      refine ⟨i + 1, c10,zz5,(.mk [] [] zz14 zz15 rfl rfl rfl)⟩
    · try simp at c19
      rw [if_neg (by simpa using c19)] at hC
      refine .skip ?_
      refine .rn ?_
      refine ⟨i + 1, c10,zz5,(.mk [] [] zz14 zz15 rfl rfl rfl)⟩
  · try simp at c10
    have : i = l.length := by omega
    subst this
    refine .exit ?_
    refine .seq ?_
    refine .rn ?_
    refine .ret ?_
    refine ⟨_, _, zz4,zz4, ?_⟩
    first | rfl | (simp [*]; done) | (simp_all; done)
theorem p44 (s : List Wit) (hl : s.length < 65536) : VPure Tryz.prog 44 [encS s] fun r => r = .tup [.int .i64 (cntR s), .int .i64 (chE s)] := by
  refine .of_body Tryz.func44 rfl rfl ?_
  refine .seq ?_
  refine .rn ?_
  refine .seq ?_
  refine .regionL [0,1,2,3,4,5,6] rfl zz0 ?_
  refine .rn [0] [1,2,3,4,5,6] ?_
  refine .step rfl rfl (.pure rfl rfl rfl Tryz.call108 (by decide) (p108' s (by omega)) (by first | rfl | simp [*]) ?_)
  rintro _ rfl
  refine .rn [2,3,4,5,6] [] ?_
  refine .done ?_
  refine .seq ?_
  refine .seq ?_
  refine .rn ?_
  refine .condS rfl (fun c15 => ?_) (fun c15 => ?_)
  · try simp at c15
    refine .seq ?_
    refine .rn ?_
    refine .ret ?_
    refine ⟨_, _, zz4,zz4, ?_⟩
    simp [cntR, c15]
  · try simp at c15
    refine .skip ?_
    refine .seq ?_
    refine .rn ?_
    refine .seq ?_
    refine .seq ?_
    refine .rn ?_
    refine .block ?_
    refine .loopS (fun k : Nat => ([(6, .int .i64 (cntP s k)),(17, .vec ((chL s).map encC)),(18, .int .i64 (chL s).length),(19, .int .i64 k)], ⟨1,[(0, .box [.vec (s.map encW)])]⟩)) (fun k => k ≤ (chL s).length) (fun k => (chL s).length - k) 0 (by simp) (.mk [] [] zz14 zz15 rfl rfl rfl) ?_
    rintro k hk
    simp only at hk ⊢
    refine .seq ?_
    refine .rn ?_
    refine .seq ?_
    refine .condS rfl (fun c20 => ?_) (fun c20 => ?_)
    · try simp at c20
      have hcl : (chL s).length < 65536 := by have := chL_len c15; omega
      have hw2 : IntKind.i64.wrap ((k : Int) + 1) = (k : Int) + 1 := wrap64 (by omega) (by omega)
      have hE : encC (chL s)[k] = .agg [ints (chL s)[k].1, .int .i64 (chL s)[k].2] := rfl
      have hS := cntP_succ s k c20
      have hbd := cntP_bd (s := s) k hk
      have hlk := chL_lenk c15 c20
      have hmul : cntP s k * ((chL s)[k].1.length : Int) ≤ 1073741824 * 65537 := Int.mul_le_mul hbd.2 (by omega) (by omega) (by omega)
      have hmul0 : 0 ≤ cntP s k * ((chL s)[k].1.length : Int) := Int.mul_nonneg hbd.1 (by omega)
      have hW4 : IntKind.i64.wrap (cntP s k * ((chL s)[k].1.length : Int)) = cntP s k * ((chL s)[k].1.length : Int) := wrap64 (by omega) (by omega)
      refine .skip ?_
      refine .seq ?_
      refine .block ?_
      refine .seq ?_
      refine .rn ?_
      refine .rn ?_
      refine .rn ?_
      refine ⟨k + 1, c20,zz5,(.mk [] [] zz14 zz15 rfl rfl rfl)⟩
    · try simp at c20
      have : k = (chL s).length := by omega
      subst this
      refine .exit ?_
      refine .seq ?_
      refine .rn ?_
      refine .ret ?_
      refine ⟨_, _, zz4,zz4, ?_⟩
      simp [cntR, c15]
end Go.Am.Ds
end
section
namespace Go.Am.Ds
open Go Go.Am Go.Proofs
set_option maxRecDepth 100000
set_option maxHeartbeats 4000000
set_option linter.unusedSimpArgs false
set_option linter.unusedVariables false
attribute [local simp] vrun vwanted vyielded vop vopA vputAll VHeap.back hidI hidF backL bm Nat.testBit_eq_decide_div_mod_eq veval vevals vparts vO vbuiltin vlen vappend velems vcopy vmakeSlice vbuildSlice valloc vbox vmakeMap vload vpartT vpart vstore vfieldAddr vfield vindexAddr vindex vextract vslice vsliceZ vbounds vbnd zeroO vidx vlookup vmget vmapUpdate vdelete vclear vnilq vnilp vnils vbin vsc vsc1 vscs vscl abinOp aint ashift aunOp aconvert amaxs amax2 pvcV pvc pvcs tput tget vargs VHeap.get VHeap.alloc VHeap.put VHeap.drop VHeap.empty vlook vput vdrop psplice pfill preps chunk List.range List.range.loop vresults vresult vresultV frz frzL PV.isF PV.allF PV.scal PV.allS retP subT allFT PV.one PV.ids PV.idsL dropL beq_eq ble_dec blt_dec
def cI (s : List Wit) (id : Int) : List Int := match getW s id with
  | some c => (choF s c).1
  | none => []
def kinI (may : Nat → Bool) (s : List Wit) (id : Int) : List (Int × Int) := if may (cI s id).length = true then (cI s id).map fun b => (id, b) else []
def kinP (may : Nat → Bool) (s : List Wit) (k : Nat) : List (Int × Int) := ((idsS s).take k).flatMap (kinI may s)
def kinQ (may : Nat → Bool) (s : List Wit) (id : Int) (j : Nat) : List (Int × Int) := if may (cI s id).length = true then ((cI s id).take j).map fun b => (id, b) else []
def kinT (may : Nat → Bool) (s : List Wit) : List (Int × Int) := if chE s = 0 then (idsS s).flatMap (kinI may s) else []
theorem kinP_succ (may : Nat → Bool) (s : List Wit) (k : Nat) (h : k < (idsS s).length) : kinP may s (k + 1) = kinP may s k ++ kinI may s (idsS s)[k] := by
  unfold kinP; rw [List.take_succ_eq_append_getElem h, List.flatMap_append]; simp
theorem kinQ_all (may : Nat → Bool) (s : List Wit) (id : Int) : kinQ may s id (cI s id).length = kinI may s id := by unfold kinQ kinI; rw [List.take_length]
theorem kinQ_zero (may : Nat → Bool) (s : List Wit) (id : Int) : kinQ may s id 0 = [] := by unfold kinQ; split <;> rfl
theorem kinQ_len (may : Nat → Bool) (s : List Wit) (id : Int) (j : Nat) : (kinQ may s id j).length ≤ j := by
  unfold kinQ; split
  · rw [List.length_map, List.length_take]; omega
  · simp
theorem cI_len (s : List Wit) (id : Int) : (cI s id).length ≤ s.length + 1 := by
  unfold cI
  cases getW s id with
  | none => simp
  | some c =>
    simp only
    rw [← chP_all]
    have := chP_len s c (idsS s).length
    have := idsS_len s
    omega
theorem kinI_len (may : Nat → Bool) (s : List Wit) (id : Int) : (kinI may s id).length ≤ s.length + 1 := by
  have := cI_len s id
  unfold kinI; split
  · rw [List.length_map]; exact this
  · simp
theorem kinP_len (may : Nat → Bool) (s : List Wit) : ∀ k, k ≤ (idsS s).length → (kinP may s k).length ≤ k * (s.length + 1)
  | 0, _ => by simp [kinP]
  | k + 1, h => by
    have h1 := kinP_len may s k (by omega)
    have h2 := kinI_len may s (idsS s)[k]
    rw [kinP_succ may s k (by omega), List.length_append, Nat.succ_mul]
    omega
theorem chL_at {s : List Wit} (h : chE s = 0) {id : Int} {j : Nat} (hj : j < s.length) (hg : getW s id = some s[j]) : ∃ h2 : j < (chL s).length, (chL s)[j] = (cI s id, (choF s s[j]).2) := by
  refine ⟨by rw [chL_len h]; exact hj, ?_⟩
  have aux : ∀ (l : List (List Int × Int)) (e : l = s.map (choF s)) (hl : j < l.length), l[j] = choF s s[j] := by rintro _ rfl _; simp
  rw [aux _ (chL_ok h)]
  unfold cI; rw [hg]
theorem p122 (s : List Wit) (may : Nat → Bool) (f : FuncId) (hl : s.length < 65536) (hcf : ∀ cs w, (callFunc f cs).run Tryz.prog w = .ok (.enter f cs) w) (hp : ∀ n : Nat, n < 65538 → VPure Tryz.prog f ([] ++ [.int .i64 n] ++ []) fun r => r = .bool (may n)) : VPure Tryz.prog 122 [encS s, .func f [] []] fun r => Soft r (.tup [.vec ((kinT may s).map encK), .int .i64 (chE s)]) := by
  refine .of_body Tryz.func122 rfl rfl ?_
  refine .seq ?_
  refine .rn ?_
  refine .seq ?_
  refine .regionL [0,1,2,3,4,5,6] rfl zz0 ?_
  refine .rn [0] [1,2,3,4,5,6] ?_
  refine .step rfl rfl (.pure rfl rfl rfl Tryz.call108 (by decide) (p108' s (by omega)) (by first | rfl | simp [*]) ?_)
  rintro _ rfl
  refine .rn [2,3,4,5,6] [] ?_
  refine .done ?_
  refine .seq ?_
  refine .seq ?_
  refine .rn ?_
  refine .condS rfl (fun c20 => ?_) (fun c20 => ?_)
  · try simp at c20
    refine .seq ?_
    refine .rn ?_
    refine .ret ?_
    refine ⟨_, _, zz4,zz4, ?_⟩
    have e1 : kinT may s = [] := by unfold kinT; rw [if_neg c20]
    rw [e1]
    exact soft_tup (AltL.cons .sl0v (AltL.cons (.same _ rfl) AltL.nil))
  · try simp at c20
    have h24 := (checkS_ok (chE_ok c20).1).1
    refine .skip ?_
    refine .seq ?_
    refine .rn ?_
    refine .seq ?_
    refine .seq ?_
    refine .regionL [0,1,2,3] rfl zz0 ?_
    refine .rn [0] [1,2,3] ?_
    refine .step rfl rfl (.pure rfl rfl rfl Tryz.call99 (by decide) (p99' s (by omega)) (by first | rfl | simp [*]) ?_)
    rintro _ rfl
    refine .rn [2,3] [] ?_
    refine .done ?_
    refine .block ?_
    refine .loopS (fun k : Nat => ([(1, .func f [] []),(2, .ptr 0 0),(6, .vec ((chL s).map encC)),(8, .grow 1 (kinP may s k).length true),(23, ints (idsS s)),(24, .int .i64 (idsS s).length),(25, .int .i64 k)], ⟨2,[(1, .grow 2 ((kinP may s k).map encK)),(0, .box [.vec (s.map encW)])]⟩)) (fun k => k ≤ (idsS s).length) (fun k => (idsS s).length - k) 0 (by simp) (.mk [] [] zz14 zz15 rfl rfl rfl) ?_
    rintro k hk
    simp only at hk ⊢
    refine .seq ?_
    refine .rn ?_
    refine .seq ?_
    refine .condS rfl (fun c26 => ?_) (fun c26 => ?_)
    · try simp at c26
      have hk24 : k < 24 := by have := idsS_len s; omega
      have hw2 : IntKind.i64.wrap ((k : Int) + 1) = (k : Int) + 1 := wrap64 (by omega) (by omega)
      obtain ⟨j, hj, hje, hgb⟩ := getW_some (find_ids (List.getElem_mem c26))
      obtain ⟨hj2, hcj⟩ := chL_at c20 hj hgb
      have hE : encC (cI s (idsS s)[k],(choF s s[j]).2) = .agg [ints (cI s (idsS s)[k]), .int .i64 (choF s s[j]).2] := rfl
      have hpl := kinP_len may s k hk
      have hcl := cI_len s (idsS s)[k]
      have hS := kinP_succ may s k c26
      have hQ0 := kinQ_zero may s (idsS s)[k]
      have hkm : k * (s.length + 1) ≤ 24 * 25 := Nat.mul_le_mul (by omega) (by omega)
      refine .skip ?_
      refine .seq ?_
      refine .block ?_
      refine .seq ?_
      refine .rn ?_
      refine .seq ?_
      refine .regionL [0,1,2,3,4,5,6,7] rfl zz0 ?_
      refine .rn [0,1,2] [3,4,5,6,7] ?_
      refine .step rfl rfl (.pure rfl rfl rfl Tryz.call105 (by decide) (p105' s _ (by omega)) (by first | rfl | simp [*]) ?_)
      rintro _ rfl
      refine .rn [4,5,6,7] [] ?_
      refine .done ?_
      refine .seq ?_
      refine .rn ?_
      refine .block ?_
      refine .loopS (fun q : Nat => ([(1, .func f [] []),(2, .ptr 0 0),(6, .vec ((chL s).map encC)),(8, .grow 1 (kinP may s k ++ kinQ may s (idsS s)[k] q).length true),(10, .int .i64 (idsS s)[k]),(11, .ptr 2 0),(23, ints (idsS s)),(24, .int .i64 (idsS s).length),(25, .int .i64 k),(36, ints (cI s (idsS s)[k])),(37, .int .i64 (cI s (idsS s)[k]).length),(38, .int .i64 q)], ⟨3,[(2, .box [ints (cI s (idsS s)[k]), .int .i64 (choF s s[j]).2]),(1, .grow 2 ((kinP may s k ++ kinQ may s (idsS s)[k] q).map encK)),(0, .box [.vec (s.map encW)])]⟩)) (fun q => q ≤ (cI s (idsS s)[k]).length) (fun q => (cI s (idsS s)[k]).length - q) 0 (by simp) (.mk [] [] zz14 zz15 rfl rfl rfl) ?_
      rintro q hq
      simp only at hq ⊢
      have hql := kinQ_len may s (idsS s)[k] q
      refine .seq ?_
      refine .rn ?_
      refine .seq ?_
      refine .condS rfl (fun c39 => ?_) (fun c39 => ?_)
      · try simp at c39
        have hw3 : IntKind.i64.wrap ((q : Int) + 1) = (q : Int) + 1 := wrap64 (by omega) (by omega)
        have hb : (kinP may s k).length + (kinQ may s (idsS s)[k] q).length ≤ 4294967295 := by omega
        have hone : allOne [PV.agg [PV.int .i64 (idsS s)[k], PV.int .i64 (cI s (idsS s)[k])[q]]] = true := rfl
        have hpp := hp (cI s (idsS s)[k]).length (by omega)
        have hEk : encK ((idsS s)[k],(cI s (idsS s)[k])[q]) = .agg [.int .i64 (idsS s)[k], .int .i64 (cI s (idsS s)[k])[q]] := rfl
        refine .skip ?_
        refine .seq ?_
        refine .block ?_
        refine .seq ?_
        refine .rn ?_
        refine .seq ?_
        refine .regionL [0,1,2,3,4] rfl zz0 ?_
        refine .rn [0,1,2,3] [4] ?_
        refine .step rfl rfl (.pure rfl rfl rfl hcf (by decide) (hpp) (by first | rfl | simp [*]) ?_)
        rintro _ rfl
        refine .done ?_
        refine .condS rfl (fun c46 => ?_) (fun c46 => ?_)
        · try simp at c46
          have hQ : kinQ may s (idsS s)[k] (q + 1) = kinQ may s (idsS s)[k] q ++ [((idsS s)[k],(cI s (idsS s)[k])[q])] := by
            unfold kinQ; rw [if_pos c46, if_pos c46, List.take_succ_eq_append_getElem c39, List.map_append]; rfl
          refine .rn ?_
          refine .rn ?_
          have hL : (kinP may s k).length + ((kinQ may s (idsS s)[k] q).length + 1) = (kinP may s k).length + (kinQ may s (idsS s)[k] q).length + 1 := by omega
          refine ⟨q + 1, c39,zz5,(.mk [] [(1,4)] zz14 zz15 rfl rfl rfl)⟩
        · try simp at c46
          have hQ : kinQ may s (idsS s)[k] (q + 1) = kinQ may s (idsS s)[k] q := by
            unfold kinQ; rw [if_neg (by simp [c46]), if_neg (by simp [c46])]
          refine .skip ?_
          refine .rn ?_
          refine ⟨q + 1, c39,zz5,(.mk [] [] zz14 zz15 rfl rfl rfl)⟩
      · try simp at c39
        have : q = (cI s (idsS s)[k]).length := by omega
        subst this
        have hQ2 := kinQ_all may s (idsS s)[k]
        refine .exit ?_
        refine .rn ?_
        refine ⟨k + 1, c26,zz5,(.mk [] [] zz14 zz15 rfl rfl rfl)⟩
    · try simp at c26
      have : k = (idsS s).length := by omega
      subst this
      refine .exit ?_
      refine .seq ?_
      refine .rn ?_
      refine .ret ?_
      refine ⟨_, _, zz4,zz4, ?_⟩
      have e1 : kinT may s = kinP may s (idsS s).length := by unfold kinT kinP; rw [if_pos c20, List.take_length]
      rw [e1, c20]
      show Soft _ _
      exact soft_rfl rfl
end Go.Am.Ds
end
section
namespace Go.Am.Ds
open Go Go.Am Go.Proofs
set_option maxRecDepth 100000
set_option maxHeartbeats 4000000
set_option linter.unusedSimpArgs false
set_option linter.unusedVariables false
attribute [local simp] vrun vwanted vyielded vop vopA vputAll VHeap.back hidI hidF backL bm Nat.testBit_eq_decide_div_mod_eq veval vevals vparts vO vbuiltin vlen vappend velems vcopy vmakeSlice vbuildSlice valloc vbox vmakeMap vload vpartT vpart vstore vfieldAddr vfield vindexAddr vindex vextract vslice vsliceZ vbounds vbnd zeroO vidx vlookup vmget vmapUpdate vdelete vclear vnilq vnilp vnils vbin vsc vsc1 vscs vscl abinOp aint ashift aunOp aconvert amaxs amax2 pvcV pvc pvcs tput tget vargs VHeap.get VHeap.alloc VHeap.put VHeap.drop VHeap.empty vlook vput vdrop psplice pfill preps chunk List.range List.range.loop vresults vresult vresultV frz frzL PV.isF PV.allF PV.scal PV.allS retP subT allFT PV.one PV.ids PV.idsL dropL beq_eq ble_dec blt_dec
theorem p123 (n : Nat) : VPure Tryz.prog 123 [.int .i64 n] fun r => r = .bool (decide (n = 1)) := by
  refine .of_body Tryz.func123 rfl rfl ?_
  refine .seq ?_
  refine .rn ?_
  refine .seq ?_
  refine .rn ?_
  refine .ret ?_
  refine ⟨_, _, zz4,zz4, ?_⟩
  have h : (((n : Nat) : Int) == 1) = decide (n = 1) := by rw [Bool.eq_iff_iff]; simp <;> omega
  simp [h]
theorem p124 (n : Nat) : VPure Tryz.prog 124 [.int .i64 n] fun r => r = .bool true := by
  refine .of_body Tryz.func124 rfl rfl ?_
  refine .seq ?_
  refine .rn ?_
  refine .seq ?_
  refine .rn ?_
  refine .ret ?_
  refine ⟨_, _, zz4,zz4, ?_⟩
  first | rfl | (simp [*]; done) | (simp_all; done)
theorem p42 (s : List Wit) (hl : s.length < 65536) : VPure Tryz.prog 42 [encS s] fun r => r = .tup [.vec ((kinT (fun n => decide (n = 1)) s).map encK), .int .i64 (chE s)] := by
  refine .of_body Tryz.func42 rfl rfl ?_
  refine .seq ?_
  refine .rn ?_
  refine .seq ?_
  refine .regionL [0,1,2,3,4,5] rfl zz0 ?_
  refine .rn [0] [1,2,3,4,5] ?_
  refine .step rfl rfl (.pure rfl rfl rfl Tryz.call122 (by decide) ((VPure.soft (p122 s (fun n => decide (n = 1)) 123 hl Tryz.call123 (fun n _ => p123 n)) rfl)) (by first | rfl | simp [*]) ?_)
  rintro _ rfl
  refine .rn [2,3,4,5] [] ?_
  refine .done ?_
  refine .ret ?_
  refine ⟨_, _, zz4,zz4, ?_⟩
  first | rfl | (simp [*]; done) | (simp_all; done)
theorem p43 (s : List Wit) (hl : s.length < 65536) : VPure Tryz.prog 43 [encS s] fun r => r = .tup [.vec ((kinT (fun _ => true) s).map encK), .int .i64 (chE s)] := by
  refine .of_body Tryz.func43 rfl rfl ?_
  refine .seq ?_
  refine .rn ?_
  refine .seq ?_
  refine .regionL [0,1,2,3,4,5] rfl zz0 ?_
  refine .rn [0] [1,2,3,4,5] ?_
  refine .step rfl rfl (.pure rfl rfl rfl Tryz.call122 (by decide) ((VPure.soft (p122 s (fun _ => true) 124 hl Tryz.call124 (fun n _ => p124 n)) rfl)) (by first | rfl | simp [*]) ?_)
  rintro _ rfl
  refine .rn [2,3,4,5] [] ?_
  refine .done ?_
  refine .ret ?_
  refine ⟨_, _, zz4,zz4, ?_⟩
  first | rfl | (simp [*]; done) | (simp_all; done)
end Go.Am.Ds
end
section
namespace Go.Am.Ds
open Go Go.Am Go.Proofs
theorem countP_kinI (may : Nat → Bool) (s : List Wit) (id a : Int) : (kinI may s id).countP (fun k => decide (k.1 = a)) = if id = a ∧ may (cI s id).length = true then (cI s id).length else 0 := by
  unfold kinI
  by_cases h1 : may (cI s id).length = true
  · rw [if_pos h1, List.countP_map]
    by_cases h2 : id = a
    · rw [if_pos ⟨h2, h1⟩]
      have : (fun k : Int × Int => decide (k.1 = a)) ∘ (fun b => (id, b)) = fun _ => true := by funext b; simp [h2]
      rw [this]; simp
    · rw [if_neg (fun h => h2 h.1)]
      have : (fun k : Int × Int => decide (k.1 = a)) ∘ (fun b => (id, b)) = fun _ => false := by funext b; simp [h2]
      rw [this]; simp
  · rw [if_neg h1, if_neg (fun h => h1 h.2)]; rfl
theorem countP_flat (may : Nat → Bool) (s : List Wit) (a : Int) : ∀ l : List Int, l.Nodup → (l.flatMap (kinI may s)).countP (fun k => decide (k.1 = a)) = if a ∈ l ∧ may (cI s a).length = true then (cI s a).length else 0
  | [], _ => by simp
  | id :: r, hn => by
    rw [List.nodup_cons] at hn
    rw [List.flatMap_cons, List.countP_append, countP_kinI, countP_flat may s a r hn.2]
    by_cases h1 : id = a
    · subst h1
      have hn1 := hn.1
      by_cases h2 : may (cI s id).length = true <;> simp [h2, hn1]
    · rw [if_neg (fun h => h1 h.1)]
      have : (a ∈ id :: r) ↔ a ∈ r := by rw [List.mem_cons]; exact ⟨fun h => h.resolve_left (fun h => h1 h.symm), .inr⟩
      simp [this]
theorem idsS_nodup {s : List Wit} (h : checkS s = 0) : (idsS s).Nodup := (List.mergeSort_perm _ _).nodup_iff.2 (checkS_nodup h)
theorem parents_kin (may : Nat → Bool) {s : List Wit} (h : chE s = 0) {w : Wit} (hw : w ∈ s) : (kinT may s).countP (fun k => decide (k.1 = w.id)) = if may (choF s w).1.length = true then (choF s w).1.length else 0 := by
  obtain ⟨h0, _⟩ := chE_ok h
  have hc : cI s w.id = (choF s w).1 := by unfold cI; rw [getW_own (checkS_nodup h0) hw]
  unfold kinT
  rw [if_pos h, countP_flat may s w.id _ (idsS_nodup h0), hc]
  have : w.id ∈ idsS s := idsS_mem.2 ⟨w, hw, rfl⟩
  simp [this]
theorem fold_all : ∀ (l d : List (Int × Int)) (x : List Int × Int),(∀ y ∈ d, x.1 ≠ [] ∧ x.2 ≤ y.2 ∧ (y.2 = x.2 → y.1 ∈ x.1)) → ∀ y ∈ d ++ l, (l.foldl stepC x).1 ≠ [] ∧ (l.foldl stepC x).2 ≤ y.2 ∧ (y.2 = (l.foldl stepC x).2 → y.1 ∈ (l.foldl stepC x).1)
  | [], d, x, h => by simpa using h
  | z :: r, d, x, h => by
    have ih := fold_all r (d ++ [z]) (stepC x z) (by
      unfold stepC
      split
      · rename_i h1
        intro y hy
        rcases List.mem_append.1 hy with hy | hy
        · exact h y hy
        · rw [List.mem_singleton] at hy
          subst hy
          exact ⟨h1.1, by omega, fun h2 => by omega⟩
      · rename_i h1
        split
        · rename_i h2
          intro y hy
          rcases List.mem_append.1 hy with hy | hy
          · obtain ⟨h3, h4, _⟩ := h y hy
            rcases h2 with h2 | h2
            · exact absurd h2 h3
            · exact ⟨by simp, by simp only; omega, fun h5 => by simp only at h5; omega⟩
          · rw [List.mem_singleton] at hy
            subst hy
            exact ⟨by simp, Int.le_refl _, fun _ => by simp⟩
        · rename_i h2
          have h3 : x.1 ≠ [] := fun h4 => h2 (.inl h4)
          have h4 : ¬ z.2 < x.2 := fun h4 => h2 (.inr h4)
          have h5 : ¬ x.2 < z.2 := fun h5 => h1 ⟨h3, h5⟩
          intro y hy
          rcases List.mem_append.1 hy with hy | hy
          · obtain ⟨_, h7, h8⟩ := h y hy
            exact ⟨by simp, h7, fun h9 => List.mem_append_left _ (h8 h9)⟩
          · rw [List.mem_singleton] at hy
            subst hy
            exact ⟨by simp, by simp only; omega, fun _ => by simp⟩)
    rw [List.append_assoc, List.singleton_append] at ih
    rw [List.foldl_cons]
    exact ih
theorem choF_all {s : List Wit} {c : Wit} {y : Int × Int} (h : y ∈ parS s c) : (choF s c).2 ≤ y.2 ∧ (y.2 = (choF s c).2 → y.1 ∈ (choF s c).1) := by
  have := fold_all (parS s c) [] ([],0) (by simp) y (by simpa using h)
  exact this.2
theorem in_kin {s : List Wit} (h : chE s = 0) {w : Wit} (hw : w ∈ s) (b : Int) : (w.id, b) ∈ kinT (fun _ => true) s ↔ b ∈ (choF s w).1 := by
  obtain ⟨h0, _⟩ := chE_ok h
  have hc : cI s w.id = (choF s w).1 := by unfold cI; rw [getW_own (checkS_nodup h0) hw]
  unfold kinT
  rw [if_pos h, List.mem_flatMap]
  constructor
  · rintro ⟨id, _, h1⟩
    unfold kinI at h1
    rw [if_pos rfl] at h1
    obtain ⟨b', h2, h3⟩ := List.mem_map.1 h1
    injection h3 with e1 e2
    subst e2; rw [e1, hc] at h2; exact h2
  · intro h1
    refine ⟨w.id, idsS_mem.2 ⟨w, hw, rfl⟩, ?_⟩
    unfold kinI
    rw [if_pos rfl, hc]
    exact List.mem_map_of_mem h1
theorem can_par {s : List Wit} (h : chE s = 0) {w : Wit} (hw : w ∈ s) (b : Int) (hb : b = 0 ∨ ∃ p ∈ s, p.id = b) :
    (∃ d, (b, d) ∈ parS s w ∧ canR (kinR s w.id b) = true ∧ madeP s w.id b = (d - (choF s w).2,0)) ∨ ((∀ d, (b, d) ∉ parS s w) ∧ canR (kinR s w.id b) = false ∧ (madeP s w.id b).2 = 8 ∧ (whyR (kinR s w.id b)).1 ≠ 0) := by
  obtain ⟨h0, _⟩ := chE_ok h
  have hgw := getW_own (checkS_nodup h0) hw
  rcases Decidable.em (b = 0) with hb0 | hb0
  · subst hb0
    have hk : kinR s w.id 0 = .text w := by unfold kinR; rw [if_pos h0, hgw]; simp
    unfold madeP
    rw [hk]
    simp only [canR, whyR, h]
    by_cases h1 : lastS w 0 = 0
    · exact .inl ⟨(w.slips.length : Int), parS_mem.2 (.inl ⟨rfl, h1⟩), by simp [h1], by simp [h1]⟩
    · refine .inr ⟨fun d hd => ?_, by simp [h1], by simp [h1], h1⟩
      rcases parS_mem.1 hd with ⟨_, h2⟩ | ⟨p, _, h2, _⟩
      · exact h1 h2
      · obtain ⟨hp, hpi⟩ := getW_mem h2
        have := checkS_pos h0 p hp
        simp only at hpi; omega
  · obtain ⟨p, hp, rfl⟩ := hb.resolve_left hb0
    have hgp := getW_own (checkS_nodup h0) hp
    have hk : kinR s w.id p.id = .of w p := by unfold kinR; rw [if_pos h0, hgw]; simp only; rw [if_neg hb0, hgp]
    unfold madeP
    rw [hk]
    simp only [canR, whyR, h]
    by_cases h1 : (whyP w p).1 = 0
    · exact .inl ⟨((ariS w p).length : Int), parS_mem.2 (.inr ⟨p, idsS_mem.2 ⟨p, hp, rfl⟩, hgp, h1, rfl⟩), by simp [h1], by simp [h1]⟩
    · refine .inr ⟨fun d hd => ?_, by simp [h1], by simp [h1], h1⟩
      rcases parS_mem.1 hd with ⟨h2, _⟩ | ⟨q, _, h2, h3, _⟩
      · injection h2 with h2 _; exact hb0 h2
      · simp only at h2
        rw [hgp] at h2; injection h2 with h2; subst h2; exact h1 h3
end Go.Am.Ds
end
section
namespace Go.Am.Ds
open Go Go.Am Go.Proofs
set_option maxRecDepth 100000
set_option maxHeartbeats 4000000
set_option linter.unusedSimpArgs false
set_option linter.unusedVariables false
attribute [local simp] vrun vwanted vyielded vop vopA vputAll VHeap.back hidI hidF backL bm Nat.testBit_eq_decide_div_mod_eq veval vevals vparts vO vbuiltin vlen vappend velems vcopy vmakeSlice vbuildSlice valloc vbox vmakeMap vload vpartT vpart vstore vfieldAddr vfield vindexAddr vindex vextract vslice vsliceZ vbounds vbnd zeroO vidx vlookup vmget vmapUpdate vdelete vclear vnilq vnilp vnils vbin vsc vsc1 vscs vscl abinOp aint ashift aunOp aconvert amaxs amax2 pvcV pvc pvcs tput tget vargs VHeap.get VHeap.alloc VHeap.put VHeap.drop VHeap.empty vlook vput vdrop psplice pfill preps chunk List.range List.range.loop vresults vresult vresultV frz frzL PV.isF PV.allF PV.scal PV.allS retP subT allFT PV.one PV.ids PV.idsL dropL beq_eq ble_dec blt_dec
theorem cntP_par {s : List Wit} (h : chE s = 0) (k : Nat) (hk : k < s.length) : cntP s (k + 1) = if cntP s k * (((kinT (fun _ => true) s).countP (fun x => decide (x.1 = s[k].id)) : Nat) : Int) < 1073741824 then cntP s k * (((kinT (fun _ => true) s).countP (fun x => decide (x.1 = s[k].id)) : Nat) : Int) else 1073741824 := by
  have hk2 : k < (chL s).length := by rw [chL_len h]; exact hk
  have aux : ∀ (l : List (List Int × Int)) (e : l = s.map (choF s)) (hl : k < l.length), l[k] = choF s s[k] := by rintro _ rfl _; simp
  rw [cntP_succ s k hk2, aux _ (chL_ok h), parents_kin _ h (List.getElem_mem hk), if_pos rfl]
theorem kinT_len (may : Nat → Bool) (s : List Wit) : (kinT may s).length ≤ s.length * (s.length + 1) := by
  unfold kinT
  split
  · have := kinP_len may s (idsS s).length (Nat.le_refl _)
    unfold kinP at this
    rw [List.take_length, idsS_len] at this
    exact this
  · exact Nat.zero_le _
end Go.Am.Ds
end
section
namespace Go.Am.Ds
open Go Go.Am Go.Proofs
set_option maxRecDepth 100000
set_option linter.unusedSimpArgs false
theorem g38 : (Tryz.prog.stoodInHeld 38 || Tryz.prog.eqGuardType Tryz.prog.depth 38) = false := by decide +kernel
theorem n38 : (match Tryz.prog.underlying 38 with | some (.struct fs) => fs.toList.map (fun f => (f.name == "_", tsz Tryz.prog f.type, f.type, f.offset)) | _ => []) = [(false, some 1,3,0),(false, some 1,3,1)] := by decide +kernel
theorem eq38 (a b c d : Int) : aeql Tryz.prog 38 (.agg #[.int .i64 a, .int .i64 b]) (.agg #[.int .i64 c, .int .i64 d]) = some (a == c && b == d) := by
  have hn := n38
  have hg := g38
  unfold aeql
  simp only
  cases hu : Tryz.prog.underlying 38 with
  | none => rw [hu] at hn; simp at hn
  | some td =>
    cases td with
    | struct fs =>
      rw [hu] at hn
      simp only at hn ⊢
      rw [hg]
      simp only [cond_false]
      generalize fs.toList = l at hn
      rcases l with _ | ⟨f1, _ | ⟨f2, _ | ⟨f3, r⟩⟩⟩
      · simp at hn
      · simp at hn
      · simp only [List.map_cons, List.map_nil, List.cons.injEq, Prod.mk.injEq, and_true] at hn
        obtain ⟨⟨k1, k2, k3, k4⟩, ⟨m1, m2, m3, m4⟩⟩ := hn
        simp only [fieldsEq, k1, k2, k3, k4, m1, m2, m3, m4, cond_false]
        have ha : tagg Tryz.prog 3 = some false := by decide +kernel
        have hu3 : Tryz.prog.underlying 3 = some (.int .i64) := by rfl
        simp [apart, ha, simpleEq, hu3]
        cases a == c <;> cases b == d <;> rfl
      · simp at hn
    | _ => rw [hu] at hn; simp at hn
theorem chs_end {s : List Wit} (h : chE s = 0) {w : Wit} (hw : w ∈ s) (b : Int) (hb : b = 0 ∨ ∃ p ∈ s, p.id = b) :
    canR (kinR s w.id b) = decide ((whyR (kinR s w.id b)).1 = 0) ∧ decide (b ∈ modL s w.id) = decide ((whyR (kinR s w.id b)).1 = 0) ∧ decide ((madeP s w.id b).2 = 0) = decide ((whyR (kinR s w.id b)).1 = 0) ∧
    decide ((w.id, b) ∈ kinT (fun _ => true) s) = (decide ((madeP s w.id b).2 = 0) && decide ((madeP s w.id b).1 = 0)) ∧ 0 ≤ (madeP s w.id b).1 ∧ (whyR (kinR s w.id b)).2.2 = 0 ∧ modE s w.id = 0 := by
  obtain ⟨h0, hne⟩ := chE_ok h
  have hgw := getW_own (checkS_nodup h0) hw
  have hmod : modL s w.id = (parS s w).map (·.1) := by unfold modL; rw [if_pos h0, hgw]
  have hmE : modE s w.id = 0 := by unfold modE; rw [if_pos h0, hgw]
  have h22 : (whyR (kinR s w.id b)).2.2 = 0 := by
    unfold kinR
    rw [if_pos h0, hgw]
    rcases Decidable.em (b = 0) with hb0 | hb0
    · simp [hb0, whyR]
    · obtain ⟨p, hp, rfl⟩ := hb.resolve_left hb0
      simp only
      rw [if_neg hb0, getW_own (checkS_nodup h0) hp]
      rfl
  have hc : canR (kinR s w.id b) = decide ((whyR (kinR s w.id b)).1 = 0) := by rw [can_eq, h22]; simp
  have hik := in_kin h hw b
  rw [← hc]
  refine ⟨rfl, ?_⟩
  rcases can_par h hw b hb with ⟨d, h1, h2, h3⟩ | ⟨h1, h2, h3, h4⟩
  · have hm : b ∈ modL s w.id := by rw [hmod]; exact List.mem_map.2 ⟨_, h1, rfl⟩
    have ha := choF_all h1
    simp only at ha
    have hk : (w.id, b) ∈ kinT (fun _ => true) s ↔ d - (choF s w).2 = 0 := by
      rw [hik]
      constructor
      · intro h5
        have e1 := stepD_par h0 (choF_mem h5)
        rw [stepD_par h0 h1] at e1
        injection e1 with e1
        omega
      · intro h5
        exact ha.2 (by omega)
    rw [h2, h3]
    refine ⟨decide_eq_true hm, rfl, ?_, by simp only; omega, h22, hmE⟩
    rw [Bool.eq_iff_iff]
    simp only [decide_true, Bool.true_and, decide_eq_true_eq]
    exact hk
  · have hm : b ∉ modL s w.id := by
      rw [hmod]
      intro h5
      obtain ⟨⟨b', d⟩, h6, rfl⟩ := List.mem_map.1 h5
      exact h1 d h6
    have hk : (w.id, b) ∉ kinT (fun _ => true) s := by
      rw [hik]
      intro h5
      exact h1 _ (choF_mem h5)
    have hm1 : (madeP s w.id b).1 = 0 := by
      unfold madeP
      revert h3 h4
      unfold madeP
      cases kinR s w.id b with
      | err e => intro _ _; rfl
      | text c =>
        simp only [whyR, h]
        intro h3 h4
        simp [h4]
      | of c p =>
        simp only [whyR, h]
        intro h3 h4
        simp [h4]
    rw [h2, h3, hm1]
    refine ⟨decide_eq_false hm, by decide, ?_, by omega, h22, hmE⟩
    rw [decide_eq_false hk]; decide
theorem modL_len7 (s : List Wit) (a : Int) (hl : s.length ≤ 40) : (modL s a).length < 4611686018427387904 := by
  unfold modL
  split
  · split
    · rw [List.length_map, parS, List.length_append]
      have h1 : ∀ c : Wit, (headP c).length ≤ 1 := by intro c; unfold headP; split <;> simp
      have h2 := List.length_filterMap_le (stepP s ‹Wit›) (idsS s)
      have h3 : (idsS s).length = s.length := by simp [idsS]
      have := h1 ‹Wit›
      omega
    · decide
  · decide
theorem dec_beq (x y : Int) : decide (x = y) = (x == y) := by rw [Bool.eq_iff_iff]; simp
theorem chs_endB {s : List Wit} (h : chE s = 0) {w : Wit} (hw : w ∈ s) (b : Int) (hb : b = 0 ∨ ∃ p ∈ s, p.id = b) :
    canR (kinR s w.id b) = ((whyR (kinR s w.id b)).1 == 0) ∧ decide (b ∈ modL s w.id) = ((whyR (kinR s w.id b)).1 == 0) ∧ ((madeP s w.id b).2 == 0) = ((whyR (kinR s w.id b)).1 == 0) ∧
    decide ((w.id, b) ∈ kinT (fun _ => true) s) = (((madeP s w.id b).2 == 0) && ((madeP s w.id b).1 == 0)) ∧ 0 ≤ (madeP s w.id b).1 ∧ (whyR (kinR s w.id b)).2.2 = 0 ∧ modE s w.id = 0 := by
  have := chs_end h hw b hb
  simp only [dec_beq] at this
  exact this
end Go.Am.Ds
end
section
namespace Go.Am.Ds
open Go Go.Am Go.Proofs
set_option maxRecDepth 100000
set_option maxHeartbeats 4000000
set_option linter.unusedSimpArgs false
set_option linter.unusedVariables false
attribute [local simp] vrun vwanted vyielded vop vopA vputAll VHeap.back hidI hidF backL bm Nat.testBit_eq_decide_div_mod_eq veval vevals vparts vO vbuiltin vlen vappend velems vcopy vmakeSlice vbuildSlice valloc vbox vmakeMap vload vpartT vpart vstore vfieldAddr vfield vindexAddr vindex vextract vslice vsliceZ vbounds vbnd zeroO vidx vlookup vmget vmapUpdate vdelete vclear vnilq vnilp vnils vbin vsc vsc1 vscs vscl abinOp aint ashift aunOp aconvert amaxs amax2 pvcV pvc pvcs tput tget vargs VHeap.get VHeap.alloc VHeap.put VHeap.drop VHeap.empty vlook vput vdrop psplice pfill preps chunk List.range List.range.loop vresults vresult vresultV frz frzL PV.isF PV.allF PV.scal PV.allS retP subT allFT PV.one PV.ids PV.idsL dropL beq_eq ble_dec blt_dec
theorem p7 (s : List Wit) (a b : Int) (ha : 0 ≤ a ∧ a ≤ 255) (hb : 0 ≤ b ∧ b ≤ 255) (hl : s.length < 4611686018427387904) (sanB : Bool) (hsan : VPure Tryz.prog 22 [] fun r => r = .bool sanB) (hsb : sanB = true) : VPure Tryz.prog 7 [encS s, .int .u8 a, .int .u8 b] fun r => r = .bool true := by
  refine .of_body Tryz.func7 rfl rfl ?_
  refine .seq ?_
  refine .rn ?_
  refine .seq ?_
  refine .seq ?_
  refine .regionL [0,1,2,3,4,5,6,7,8] rfl zz0 ?_
  refine .rn [0] [1,2,3,4,5,6,7,8] ?_
  refine .step rfl rfl (.pure rfl rfl rfl Tryz.call21 (by decide) (p21 s hl) (by first | rfl | simp [*]) ?_)
  rintro _ rfl
  refine .rn [2,3] [4,5,6,7,8] ?_
  refine .split (t := 32) rfl (fun c32 => ?_) (fun c32 => ?_)
  · try rw [c32]
    try simp at c32
    refine .rn [4,5,6,7,8] [] ?_
    refine .done ?_
    refine .condT rfl ?_
    refine .seq ?_
    refine .regionL [0,1] rfl zz0 ?_
    refine .step rfl rfl (.pure rfl rfl rfl Tryz.call22 (by decide) (hsan) (by first | rfl | simp [*]) ?_)
    rintro _ rfl
    refine .rn [1] [] ?_
    refine .done ?_
    refine .ret ?_
    refine ⟨_, _, zz4,zz4, ?_⟩
    first | rfl | (simp [*]; done) | (simp_all; done)
  · try rw [c32]
    try simp at c32
    have hl2 := smallS_len c32
    refine .rn [4,5,6,7,8] [] ?_
    refine .done ?_
    refine .condS rfl (fun c37 => ?_) (fun c37 => ?_)
    · try simp at c37
      refine .seq ?_
      refine .regionL [0,1] rfl zz0 ?_
      refine .step rfl rfl (.pure rfl rfl rfl Tryz.call22 (by decide) (hsan) (by first | rfl | simp [*]) ?_)
      rintro _ rfl
      refine .rn [1] [] ?_
      refine .done ?_
      refine .ret ?_
      refine ⟨_, _, zz4,zz4, ?_⟩
      first | rfl | (simp [*]; done) | (simp_all; done)
    · try simp at c37
      refine .skip ?_
      refine .seq ?_
      refine .regionL [0,1,2,3,4,5,6] rfl zz0 ?_
      refine .rn [0] [1,2,3,4,5,6] ?_
      refine .step rfl rfl (.pure rfl rfl rfl Tryz.call42 (by decide) (p42 s (by omega)) (by first | rfl | simp [*]) ?_)
      rintro _ rfl
      refine .rn [2,3,4,5,6] [] ?_
      refine .done ?_
      refine .seq ?_
      refine .regionL [0,1,2,3,4,5,6] rfl zz0 ?_
      refine .rn [0] [1,2,3,4,5,6] ?_
      refine .step rfl rfl (.pure rfl rfl rfl Tryz.call43 (by decide) (p43 s (by omega)) (by first | rfl | simp [*]) ?_)
      rintro _ rfl
      refine .rn [2,3,4,5,6] [] ?_
      refine .done ?_
      refine .seq ?_
      refine .regionL [0,1,2,3,4,5,6] rfl zz0 ?_
      refine .rn [0] [1,2,3,4,5,6] ?_
      refine .step rfl rfl (.pure rfl rfl rfl Tryz.call44 (by decide) (p44 s (by omega)) (by first | rfl | simp [*]) ?_)
      rintro _ rfl
      refine .rn [2,3,4,5,6] [] ?_
      refine .done ?_
      refine .seq ?_
      refine .seq ?_
      refine .rn ?_
      refine .condS rfl (fun c55 => ?_) (fun c55 => ?_)
      · try simp at c55
        refine .seq ?_
        refine .regionL [0,1,2,3,4,5,6,7,8,9,10,11] rfl zz0 ?_
        refine .step rfl rfl (.pure rfl rfl rfl Tryz.call22 (by decide) (hsan) (by first | rfl | simp [*]) ?_)
        rintro _ rfl
        refine .rn [1] [2,3,4,5,6,7,8,9,10,11] ?_
        refine .split (t := 57) rfl (fun c57 => ?_) (fun c57 => ?_)
        · try rw [c57]
          try simp at c57
          refine .rn [2,3,4,5,6] [7,8,9,10,11] ?_
          refine .split (t := 62) rfl (fun c62 => ?_) (fun c62 => ?_)
          · try rw [c62]
            try simp at c62
            refine .rn [7,8,9,10,11] [] ?_
            refine .done ?_
            refine .ret ?_
            refine ⟨_, _, zz4,zz4, ?_⟩
            first | rfl | (simp [*]; done) | (simp_all; done)
          · try rw [c62]
            try simp at c62
        · try rw [c57]
          try simp at c57
      · try simp at c55
        refine .skip ?_
        refine .seq ?_
        refine .rn ?_
        refine .seq ?_
        refine .seq ?_
        refine .rn ?_
        refine .block ?_
        refine .loopS (fun k : Nat => ([(1, .int .u8 a),(2, .int .u8 b),(3, .ptr 0 0),(7, .vec ((kinT (fun n => decide (n = 1)) s).map encK)),(9, .vec ((kinT (fun _ => true) s).map encK)),(10, .int .i64 (chE s)),(11, .int .i64 (cntR s)),(12, .int .i64 (chE s)),(13, .int .i64 (cntP s k)),(14, .int .i64 k)], ⟨1,[(0, .box [.vec (s.map encW)])]⟩)) (fun k => k ≤ s.length) (fun k => s.length - k) 0 (by simp) (.mk [] [] zz14 zz15 rfl rfl rfl) ?_
        rintro k hk
        simp only at hk ⊢
        have hkt := kinT_len (fun _ => true) s
        have hks := kinT_len (fun n => decide (n = 1)) s
        have hm : s.length * (s.length + 1) ≤ 12 * 13 := Nat.mul_le_mul (by omega) (by omega)
        refine .seq ?_
        refine .seq ?_
        refine .rn ?_
        refine .condS rfl (fun c71 => ?_) (fun c71 => ?_)
        · try simp at c71
          have hw2 : IntKind.i64.wrap ((k : Int) + 1) = (k : Int) + 1 := wrap64 (by omega) (by omega)
          have hE : encW s[k] = .agg [.int .i64 s[k].id, .int .i64 s[k].known, ints s[k].slips, ints s[k].mended, ints s[k].models, .int .i64 s[k].lo, .int .i64 s[k].hi] := rfl
          have hA := parents_kin (fun _ => true) c55 (List.getElem_mem c71)
          rw [if_pos rfl] at hA
          have hB := parents_kin (fun n => decide (n = 1)) c55 (List.getElem_mem c71)
          have hne := (chE_ok c55).2 s[k] (List.getElem_mem c71)
          have hS := cntP_par c55 k c71
          rw [hA] at hS
          have hbd := cntP_bd (s := s) k (by rw [chL_len c55]; exact hk)
          have hpos : 0 < (choF s s[k]).1.length := List.length_pos_iff.2 hne
          have hlk : (choF s s[k]).1.length ≤ 13 := by rw [← chP_all]; have := chP_len s s[k] (idsS s).length; have := idsS_len s; omega
          have hmul : cntP s k * ((choF s s[k]).1.length : Int) ≤ 1073741824 * 13 := Int.mul_le_mul hbd.2 (by omega) (by omega) (by omega)
          have hmul0 : 0 ≤ cntP s k * ((choF s s[k]).1.length : Int) := Int.mul_nonneg hbd.1 (by omega)
          have hW4 : IntKind.i64.wrap (cntP s k * ((choF s s[k]).1.length : Int)) = cntP s k * ((choF s s[k]).1.length : Int) := wrap64 (by omega) (by omega)
          have hQ : (((if (choF s s[k]).1.length = 1 then 1 else 0 : Nat) : Int) == 1) = (((choF s s[k]).1.length : Int) == 1) := by rw [Bool.eq_iff_iff]; split <;> simp <;> omega
          have hR : ¬ (1 < ((if (choF s s[k]).1.length = 1 then 1 else 0 : Nat) : Int)) := by split <;> omega
          refine .skip ?_
          refine .seq ?_
          refine .block ?_
          refine .seq ?_
          refine .regionL [0,1,2,3,4,5,6,7,8] rfl zz0 ?_
          refine .rn [0,1,2,3,4,5,6] [7,8] ?_
          refine .step rfl rfl (.pure rfl rfl rfl Tryz.call45 (by decide) (p45 (kinT (fun _ => true) s) s[k].id (by omega)) (by first | rfl | simp [*]) ?_)
          rintro _ rfl
          refine .rn [8] [] ?_
          refine .done ?_
          refine .seq ?_
          refine .regionL [0,1,2,3,4,5,6,7,8] rfl zz0 ?_
          refine .rn [0,1,2,3,4,5,6] [7,8] ?_
          refine .step rfl rfl (.pure rfl rfl rfl Tryz.call45 (by decide) (p45 (kinT (fun n => decide (n = 1)) s) s[k].id (by omega)) (by first | rfl | simp [*]) ?_)
          rintro _ rfl
          refine .rn [8] [] ?_
          refine .done ?_
          refine .seq ?_
          refine .rn ?_
          refine .seq ?_
          refine .regionL [0,1,2,3,4,5,6,7,8,9,10,11,12] rfl zz0 ?_
          refine .rn [0,1,2] [3,4,5,6,7,8,9,10,11,12] ?_
          refine .split (t := 96) rfl (fun c96 => ?_) (fun c96 => ?_)
          · try rw [c96]
            try simp at c96
            exact absurd c96 hne
          · try rw [c96]
            try simp at c96
            refine .rn [3,4,5,6,7,8,9] [10,11,12] ?_
            refine .split (t := 103) rfl (fun c103 => ?_) (fun c103 => ?_)
            · try rw [c103]
              try simp at c103
              exfalso; rcases Decidable.em ((choF s s[k]).1.length = 1) with h1 | h1 <;> simp_all <;> omega
            · try rw [c103]
              try simp at c103
              refine .rn [10,11,12] [] ?_
              refine .done ?_
              refine .condS rfl (fun c106 => ?_) (fun c106 => ?_)
              · try simp at c106
                exfalso; rcases Decidable.em ((choF s s[k]).1.length = 1) with h1 | h1 <;> simp_all <;> omega
              · try simp at c106
                refine .skip ?_
                refine .rn ?_
                refine ⟨k + 1, c71,zz5,(.mk [] [] zz14 zz15 rfl rfl rfl)⟩
        · try simp at c71
          have : k = s.length := by omega
          subst this
          have hwa : IntKind.i64.wrap a = a := wrap64 (by omega) (by omega)
          have hwb : IntKind.i64.wrap b = b := wrap64 (by omega) (by omega)
          have hsl : 0 < s.length := List.length_pos_iff.2 c37
          obtain ⟨i, hi, hia⟩ : ∃ i : Nat, i < s.length ∧ a.tmod (s.length : Int) = (i : Int) := by
            have h1 := Int.tmod_nonneg (s.length : Int) ha.1
            have h2 := Int.tmod_lt_of_pos a (show (0 : Int) < (s.length : Int) by omega)
            exact ⟨(a.tmod s.length).toNat, by omega, by omega⟩
          have hEi : encW s[i] = .agg [.int .i64 s[i].id, .int .i64 s[i].known, ints s[i].slips, ints s[i].mended, ints s[i].models, .int .i64 s[i].lo, .int .i64 s[i].hi] := rfl
          have hwl : IntKind.i64.wrap ((s.length : Int) + 1) = (s.length : Int) + 1 := wrap64 (by omega) (by omega)
          obtain ⟨j, hj, hjb⟩ : ∃ j : Nat, j < s.length + 1 ∧ b.tmod ((s.length : Int) + 1) = (j : Int) := by
            have h1 := Int.tmod_nonneg ((s.length : Int) + 1) hb.1
            have h2 := Int.tmod_lt_of_pos b (show (0 : Int) < (s.length : Int) + 1 by omega)
            exact ⟨(b.tmod ((s.length : Int) + 1)).toNat, by omega, by omega⟩
          have hnz : ¬ ((s.length : Int) + 1 = 0) := by omega
          have hcn : cntR s = cntP s s.length := by unfold cntR; rw [if_pos c55, chL_len c55]
          refine .exit ?_
          refine .seq ?_
          refine .drawn (ms := [0,1,0,4,0,16,48,124,255,511,1023,2047,0,8191]) (W := [12,13]) (items := [.op 0, .op 1, .op 2, .op 3, .op 4, .op 5, .op 6, .op 7, .op 8, .op 9, .op 10, .op 11, .op 12, .ck 10, .ck 6, .ck 5, .ck 1, .op 13]) rfl zz0 zz0 zz0 ?_
          refine .rd rfl rfl (by decide) rfl (by decide) zz1 ?_   -- 0
          refine .rd rfl rfl (by decide) rfl (by decide) zz1 ?_   -- 1
          refine .rd rfl rfl (by decide) rfl (by decide) zz1 ?_   -- 2
          refine .rd rfl rfl (by decide) rfl (by decide) zz1 ?_   -- 3
          refine .rd rfl rfl (by decide) rfl (by decide) zz1 ?_   -- 4
          refine .rd rfl rfl (by decide) rfl (by decide) zz1 ?_   -- 5
          refine .rd rfl rfl (by decide) rfl (by decide) zz1 ?_   -- 6
          refine .rd rfl rfl (by decide) rfl (by decide) zz1 ?_   -- 7
          refine .rd rfl rfl (by decide) rfl (by decide) zz1 ?_   -- 8
          refine .rd rfl rfl (by decide) rfl (by decide) zz1 ?_   -- 9
          refine .rd rfl rfl (by decide) rfl (by decide) zz1 ?_   -- 10
          refine .rd rfl rfl (by decide) rfl (by decide) zz1 ?_   -- 11
          refine .wr rfl rfl (by decide) (.vop zz1 (by decide) ?_)   -- 12
          refine .ck rfl zz0 ?_   -- 10
          refine .ck rfl zz0 ?_   -- 6
          refine .ck rfl zz0 ?_   -- 5
          refine .ck rfl zz0 ?_   -- 1
          refine .wr rfl rfl (by decide) (.vop zz1 (by decide) ?_)   -- 13
          refine .done ?_
          refine .seq ?_
          refine .seq ?_
          refine .rn ?_
          refine .condS rfl (fun c126 => ?_) (fun c126 => ?_)
          · try simp at c126
            have hj2 : j - 1 < s.length := by omega
            have hwj : IntKind.i64.wrap ((j : Int) - 1) = ((j - 1 : Nat) : Int) := by rw [wrap64 (by omega) (by omega)]; omega
            have hEj : encW s[j - 1] = .agg [.int .i64 s[j - 1].id, .int .i64 s[j - 1].known, ints s[j - 1].slips, ints s[j - 1].mended, ints s[j - 1].models, .int .i64 s[j - 1].lo, .int .i64 s[j - 1].hi] := rfl
            refine .drawn (ms := [0,1,0,4,0,16,48,112,252,508,1023,2047,4095,8191,16383]) (W := [14]) (items := [.op 0, .op 1, .op 2, .op 3, .op 4, .op 5, .op 6, .op 7, .op 8, .op 9, .op 10, .op 11, .op 12, .op 13, .op 14]) rfl zz0 zz0 zz0 ?_
            refine .rd rfl rfl (by decide) rfl (by decide) zz1 ?_   -- 0
            refine .rd rfl rfl (by decide) rfl (by decide) zz1 ?_   -- 1
            refine .rd rfl rfl (by decide) rfl (by decide) zz1 ?_   -- 2
            refine .rd rfl rfl (by decide) rfl (by decide) zz1 ?_   -- 3
            refine .rd rfl rfl (by decide) rfl (by decide) zz1 ?_   -- 4
            refine .rd rfl rfl (by decide) rfl (by decide) zz1 ?_   -- 5
            refine .rd rfl rfl (by decide) rfl (by decide) zz1 ?_   -- 6
            refine .rd rfl rfl (by decide) rfl (by decide) zz1 ?_   -- 7
            refine .rd rfl rfl (by decide) rfl (by decide) zz1 ?_   -- 8
            refine .rd rfl rfl (by decide) rfl (by decide) zz1 ?_   -- 9
            refine .rd rfl rfl (by decide) rfl (by decide) zz1 ?_   -- 10
            refine .rd rfl rfl (by decide) rfl (by decide) zz1 ?_   -- 11
            refine .rd rfl rfl (by decide) rfl (by decide) zz1 ?_   -- 12
            refine .rd rfl rfl (by decide) rfl (by decide) zz1 ?_   -- 13
            refine .wr rfl rfl (by decide) (.vop zz1 (by decide) ?_)   -- 14
            refine .done ?_
            refine .seq ?_
            refine .regionL [0,1,2,3,4,5,6,7] rfl zz0 ?_
            refine .rn [0,1] [2,3,4,5,6,7] ?_
            refine .step rfl rfl (.pure rfl rfl rfl Tryz.call27 (by decide) (p27 s s[i].id _ (by omega)) (by first | rfl | simp [*]) ?_)
            rintro _ rfl
            refine .rn [3,4,5,6,7] [] ?_
            refine .done ?_
            refine .seq ?_
            refine .regionL [0,1,2,3,4,5,6,7,8,9] rfl zz0 ?_
            refine .rn [0,1] [2,3,4,5,6,7,8,9] ?_
            refine .step rfl rfl (.pure rfl rfl rfl Tryz.call28 (by decide) (p28 s s[i].id _ (by omega)) (by first | rfl | simp [*]) ?_)
            rintro _ rfl
            refine .rn [3,4,5,6,7,8,9] [] ?_
            refine .done ?_
            refine .seq ?_
            refine .regionL [0,1,2,3,4,5,6,7,8] rfl zz0 ?_
            refine .rn [0,1,2] [3,4,5,6,7,8] ?_
            refine .step rfl rfl (.pure rfl rfl rfl Tryz.call30 (by decide) (p30' s s[i].id (by omega)) (by first | rfl | simp [*]) ?_)
            rintro _ rfl
            refine .rn [4,5,6,7,8] [] ?_
            refine .done ?_
            refine .seq ?_
            refine .regionL [0,1,2,3,4,5,6,7] rfl zz0 ?_
            refine .rn [0,1] [2,3,4,5,6,7] ?_
            refine .step rfl rfl (.pure rfl rfl rfl Tryz.call32 (by decide) (p32 s s[i].id _ (by omega)) (by first | rfl | simp [*]) ?_)
            rintro _ rfl
            refine .rn [3,4,5,6,7] [] ?_
            refine .done ?_
            refine .seq ?_
            refine .rn ?_
            refine .seq ?_
            refine .seq ?_
            refine .rn ?_
            refine .block ?_
            refine .loopS (fun k : Nat => ([(9, .vec ((kinT (fun _ => true) s).map encK)),(10, .int .i64 (chE s)),(11, .int .i64 (cntR s)),(12, .int .i64 (chE s)),(13, .int .i64 (cntP s s.length)),(17, .ptr 1 0),(18, .bool (canR (kinR s s[i].id s[j - 1].id))),(19, .int .i64 (whyR (kinR s s[i].id s[j - 1].id)).2.2),(20, .int .i64 (whyR (kinR s s[i].id s[j - 1].id)).1),(22, .int .i64 (whyR (kinR s s[i].id s[j - 1].id)).2.2),(23, ints (modL s s[i].id)),(24, .int .i64 (modE s s[i].id)),(25, .int .i64 (madeP s s[i].id s[j - 1].id).1),(26, .int .i64 (madeP s s[i].id s[j - 1].id).2),(27, .bool (decide ((s[i].id, s[j - 1].id) ∈ (kinT (fun _ => true) s).take k))),(28, .int .i64 k)], ⟨2,[(1, .box [.int .i64 s[i].id, .int .i64 s[j - 1].id]),(0, .box [.vec (s.map encW)])]⟩)) (fun k => k ≤ (kinT (fun _ => true) s).length) (fun k => (kinT (fun _ => true) s).length - k) 0 (by simp) (.mk [] [] zz14 zz15 rfl rfl rfl) ?_
            rintro k hk
            simp only at hk ⊢
            refine .seq ?_
            refine .seq ?_
            refine .rn ?_
            refine .condS rfl (fun c170 => ?_) (fun c170 => ?_)
            · try simp at c170
              have hw3 : IntKind.i64.wrap ((k : Int) + 1) = (k : Int) + 1 := wrap64 (by omega) (by omega)
              have hEk : encK (kinT (fun _ => true) s)[k] = .agg [.int .i64 (kinT (fun _ => true) s)[k].1, .int .i64 (kinT (fun _ => true) s)[k].2] := rfl
              have hT : ∀ x : Int × Int, (x ∈ (kinT (fun _ => true) s).take (k + 1) ↔ x ∈ (kinT (fun _ => true) s).take k ∨ x = (kinT (fun _ => true) s)[k]) := fun x => by rw [List.take_succ_eq_append_getElem c170, List.mem_append, List.mem_singleton]
              have he38 := eq38 (kinT (fun _ => true) s)[k].1 (kinT (fun _ => true) s)[k].2
              refine .skip ?_
              refine .seq ?_
              refine .block ?_
              refine .drawn (ms := [0,1,3,3,15,31,3,127,255,511]) (W := []) (items := [.op 0, .op 1, .op 2, .op 3, .op 4, .op 5, .op 6, .op 7, .op 8, .op 9]) rfl zz0 zz0 zz0 ?_
              refine .rd rfl rfl (by decide) rfl (by decide) zz1 ?_   -- 0
              refine .rd rfl rfl (by decide) rfl (by decide) zz1 ?_   -- 1
              refine .split (t := 174) rfl (fun c174 => ?_) (fun c174 => ?_)
              · try rw [c174]
                try simp at c174
                refine .un rfl rfl (by decide) ?_   -- 2
                refine .un rfl rfl (by decide) ?_   -- 3
                refine .un rfl rfl (by decide) ?_   -- 4
                refine .un rfl rfl (by decide) ?_   -- 5
                refine .un rfl rfl (by decide) ?_   -- 6
                refine .un rfl rfl (by decide) ?_   -- 7
                refine .rd rfl rfl (by decide) rfl (by decide) zz1 ?_   -- 8
                refine .rd rfl rfl (by decide) rfl (by decide) zz1 ?_   -- 9
                refine .done ?_
                refine .rn ?_
                have hD : decide ((s[i].id, s[j - 1].id) ∈ (kinT (fun _ => true) s).take (k + 1)) = true := decide_eq_true ((hT _).2 (.inl c174))
                clear hT
                refine ⟨k + 1, c170,zz5,(.mk [] [] zz14 zz15 rfl rfl rfl)⟩
              · try rw [c174]
                try simp at c174
                refine .rd rfl rfl (by decide) rfl (by decide) zz1 ?_   -- 2
                refine .rd rfl rfl (by decide) rfl (by decide) zz1 ?_   -- 3
                refine .rd rfl rfl (by decide) rfl (by decide) zz1 ?_   -- 4
                refine .rd rfl rfl (by decide) rfl (by decide) zz1 ?_   -- 5
                refine .rd rfl rfl (by decide) rfl (by decide) zz1 ?_   -- 6
                refine .rd rfl rfl (by decide) rfl (by decide) zz1 ?_   -- 7
                refine .rd rfl rfl (by decide) rfl (by decide) zz1 ?_   -- 8
                refine .rd rfl rfl (by decide) rfl (by decide) zz1 ?_   -- 9
                refine .done ?_
                refine .rn ?_
                have hD : decide ((s[i].id, s[j - 1].id) ∈ (kinT (fun _ => true) s).take (k + 1)) = ((kinT (fun _ => true) s)[k].1 == s[i].id && (kinT (fun _ => true) s)[k].2 == s[j - 1].id) := by
                  rw [Bool.eq_iff_iff, decide_eq_true_eq, hT]
                  simp only [Bool.and_eq_true, beq_iff_eq]
                  exact ⟨fun h => have h2 := h.resolve_left c174; ⟨(congrArg Prod.fst h2).symm, (congrArg Prod.snd h2).symm⟩, fun h => .inr (Prod.ext h.1.symm h.2.symm)⟩
                clear hT
                refine ⟨k + 1, c170,zz5,(.mk [] [] zz14 zz15 rfl rfl rfl)⟩
            · try simp at c170
              obtain ⟨hq1, hq2, hq3, hq4, hq5, hq6, hq7⟩ := chs_endB c55 (List.getElem_mem hi) s[j - 1].id (.inr ⟨s[j - 1], List.getElem_mem hj2, rfl⟩)
              have hTk : (kinT (fun _ => true) s).take k = kinT (fun _ => true) s := List.take_of_length_le (by omega)
              refine .exit ?_
              refine .seq ?_
              refine .regionL [0,1,2,3,4,5,6,7,8,9,10,11,12,13,14,15,16,17,18,19,20,21,22,23,24,25,26,27,28,29,30,31,32,33,34,35,36,37,38,39,40,41,42,43,44,45,46,47,48,49,50,51,52,53,54,55,56,57,58,59,60] rfl zz0 ?_
              refine .step rfl rfl (.pure rfl rfl rfl Tryz.call22 (by decide) (hsan) (by first | rfl | simp [*]) ?_)
              rintro _ rfl
              refine .rn [1] [2,3,4,5,6,7,8,9,10,11,12,13,14,15,16,17,18,19,20,21,22,23,24,25,26,27,28,29,30,31,32,33,34,35,36,37,38,39,40,41,42,43,44,45,46,47,48,49,50,51,52,53,54,55,56,57,58,59,60] ?_
              refine .split (t := 183) rfl (fun c183 => ?_) (fun c183 => ?_)
              · try rw [c183]
                try simp at c183
                refine .rn [2,3,4,5] [6,7,8,9,10,11,12,13,14,15,16,17,18,19,20,21,22,23,24,25,26,27,28,29,30,31,32,33,34,35,36,37,38,39,40,41,42,43,44,45,46,47,48,49,50,51,52,53,54,55,56,57,58,59,60] ?_
                refine .split (t := 187) rfl (fun c187 => ?_) (fun c187 => ?_)
                · try rw [c187]
                  try simp at c187
                  refine .rn [6,7,8,9] [10,11,12,13,14,15,16,17,18,19,20,21,22,23,24,25,26,27,28,29,30,31,32,33,34,35,36,37,38,39,40,41,42,43,44,45,46,47,48,49,50,51,52,53,54,55,56,57,58,59,60] ?_
                  refine .split (t := 191) rfl (fun c191 => ?_) (fun c191 => ?_)
                  · try rw [c191]
                    try simp at c191
                    refine .rn [10,11,12,13] [14,15,16,17,18,19,20,21,22,23,24,25,26,27,28,29,30,31,32,33,34,35,36,37,38,39,40,41,42,43,44,45,46,47,48,49,50,51,52,53,54,55,56,57,58,59,60] ?_
                    refine .split (t := 195) rfl (fun c195 => ?_) (fun c195 => ?_)
                    · try rw [c195]
                      try simp at c195
                      refine .rn [14,15,16,17] [18,19,20,21,22,23,24,25,26,27,28,29,30,31,32,33,34,35,36,37,38,39,40,41,42,43,44,45,46,47,48,49,50,51,52,53,54,55,56,57,58,59,60] ?_
                      refine .split (t := 199) rfl (fun c199 => ?_) (fun c199 => ?_)
                      · try rw [c199]
                        try simp at c199
                        refine .rn [18,19,20,21] [22,23,24,25,26,27,28,29,30,31,32,33,34,35,36,37,38,39,40,41,42,43,44,45,46,47,48,49,50,51,52,53,54,55,56,57,58,59,60] ?_
                        refine .split (t := 203) rfl (fun c203 => ?_) (fun c203 => ?_)
                        · try rw [c203]
                          try simp at c203
                          refine .rn [22,23,24,25,26] [27,28,29,30,31,32,33,34,35,36,37,38,39,40,41,42,43,44,45,46,47,48,49,50,51,52,53,54,55,56,57,58,59,60] ?_
                          refine .split (t := 208) rfl (fun c208 => ?_) (fun c208 => ?_)
                          · try rw [c208]
                            try simp at c208
                            refine .rn [27,28,29,30,31,32] [33,34,35,36,37,38,39,40,41,42,43,44,45,46,47,48,49,50,51,52,53,54,55,56,57,58,59,60] ?_
                            refine .split (t := 214) rfl (fun c214 => ?_) (fun c214 => ?_)
                            · try rw [c214]
                              try simp at c214
                              refine .rn [33,34,35,36] [37,38,39,40,41,42,43,44,45,46,47,48,49,50,51,52,53,54,55,56,57,58,59,60] ?_
                              refine .step rfl rfl (.pure rfl rfl rfl Tryz.call46 (by decide) (p46 (modL s s[i].id) _ (modL_len7 s s[i].id (by omega))) (by first | rfl | simp [*]) ?_)
                              rintro _ rfl
                              refine .rn [38,39,40] [41,42,43,44,45,46,47,48,49,50,51,52,53,54,55,56,57,58,59,60] ?_
                              refine .split (t := 222) rfl (fun c222 => ?_) (fun c222 => ?_)
                              · try rw [c222]
                                try simp at c222
                                refine .rn [41,42,43,44,45,46] [47,48,49,50,51,52,53,54,55,56,57,58,59,60] ?_
                                refine .split (t := 228) rfl (fun c228 => ?_) (fun c228 => ?_)
                                · try rw [c228]
                                  try simp at c228
                                  refine .rn [47,48,49,50] [51,52,53,54,55,56,57,58,59,60] ?_
                                  refine .split (t := 232) rfl (fun c232 => ?_) (fun c232 => ?_)
                                  · try rw [c232]
                                    try simp at c232
                                    refine .rn [51,52,53,54,55,56] [57,58,59,60] ?_
                                    refine .split (t := 238) rfl (fun c238 => ?_) (fun c238 => ?_)
                                    · try rw [c238]
                                      try simp at c238
                                      refine .rn [57,58,59,60] [] ?_
                                      refine .done ?_
                                      refine .ret ?_
                                      refine ⟨_, _, zz4,zz4, ?_⟩
                                      first | rfl | (simp [*]; done) | (simp_all; done)
                                    · try rw [c238]
                                      try simp at c238
                                  · try rw [c232]
                                    try simp at c232
                                    refine .rn [51,52,53,54,55,56] [57,58,59,60] ?_
                                    refine .split (t := 238) rfl (fun c238 => ?_) (fun c238 => ?_)
                                    · try rw [c238]
                                      try simp at c238
                                      refine .rn [57,58,59,60] [] ?_
                                      refine .done ?_
                                      refine .ret ?_
                                      refine ⟨_, _, zz4,zz4, ?_⟩
                                      first | rfl | (simp [*]; done) | (simp_all; done)
                                    · try rw [c238]
                                      try simp at c238
                                · try rw [c228]
                                  try simp at c228
                              · try rw [c222]
                                try simp at c222
                            · try rw [c214]
                              try simp at c214
                          · try rw [c208]
                            try simp at c208
                        · try rw [c203]
                          try simp at c203
                      · try rw [c199]
                        try simp at c199
                    · try rw [c195]
                      try simp at c195
                  · try rw [c191]
                    try simp at c191
                · try rw [c187]
                  try simp at c187
              · try rw [c183]
                try simp at c183
          · try simp at c126
            refine .skip ?_
            refine .seq ?_
            refine .regionL [0,1,2,3,4,5,6,7] rfl zz0 ?_
            refine .rn [0,1] [2,3,4,5,6,7] ?_
            refine .step rfl rfl (.pure rfl rfl rfl Tryz.call27 (by decide) (p27 s s[i].id _ (by omega)) (by first | rfl | simp [*]) ?_)
            rintro _ rfl
            refine .rn [3,4,5,6,7] [] ?_
            refine .done ?_
            refine .seq ?_
            refine .regionL [0,1,2,3,4,5,6,7,8,9] rfl zz0 ?_
            refine .rn [0,1] [2,3,4,5,6,7,8,9] ?_
            refine .step rfl rfl (.pure rfl rfl rfl Tryz.call28 (by decide) (p28 s s[i].id _ (by omega)) (by first | rfl | simp [*]) ?_)
            rintro _ rfl
            refine .rn [3,4,5,6,7,8,9] [] ?_
            refine .done ?_
            refine .seq ?_
            refine .regionL [0,1,2,3,4,5,6,7,8] rfl zz0 ?_
            refine .rn [0,1,2] [3,4,5,6,7,8] ?_
            refine .step rfl rfl (.pure rfl rfl rfl Tryz.call30 (by decide) (p30' s s[i].id (by omega)) (by first | rfl | simp [*]) ?_)
            rintro _ rfl
            refine .rn [4,5,6,7,8] [] ?_
            refine .done ?_
            refine .seq ?_
            refine .regionL [0,1,2,3,4,5,6,7] rfl zz0 ?_
            refine .rn [0,1] [2,3,4,5,6,7] ?_
            refine .step rfl rfl (.pure rfl rfl rfl Tryz.call32 (by decide) (p32 s s[i].id _ (by omega)) (by first | rfl | simp [*]) ?_)
            rintro _ rfl
            refine .rn [3,4,5,6,7] [] ?_
            refine .done ?_
            refine .seq ?_
            refine .rn ?_
            refine .seq ?_
            refine .seq ?_
            refine .rn ?_
            refine .block ?_
            refine .loopS (fun k : Nat => ([(9, .vec ((kinT (fun _ => true) s).map encK)),(10, .int .i64 (chE s)),(11, .int .i64 (cntR s)),(12, .int .i64 (chE s)),(13, .int .i64 (cntP s s.length)),(17, .ptr 1 0),(18, .bool (canR (kinR s s[i].id (0 : Int)))),(19, .int .i64 (whyR (kinR s s[i].id (0 : Int))).2.2),(20, .int .i64 (whyR (kinR s s[i].id (0 : Int))).1),(22, .int .i64 (whyR (kinR s s[i].id (0 : Int))).2.2),(23, ints (modL s s[i].id)),(24, .int .i64 (modE s s[i].id)),(25, .int .i64 (madeP s s[i].id (0 : Int)).1),(26, .int .i64 (madeP s s[i].id (0 : Int)).2),(27, .bool (decide ((s[i].id, (0 : Int)) ∈ (kinT (fun _ => true) s).take k))),(28, .int .i64 k)], ⟨2,[(1, .box [.int .i64 s[i].id, .int .i64 (0 : Int)]),(0, .box [.vec (s.map encW)])]⟩)) (fun k => k ≤ (kinT (fun _ => true) s).length) (fun k => (kinT (fun _ => true) s).length - k) 0 (by simp) (.mk [] [] zz14 zz15 rfl rfl rfl) ?_
            rintro k hk
            simp only at hk ⊢
            refine .seq ?_
            refine .seq ?_
            refine .rn ?_
            refine .condS rfl (fun c170 => ?_) (fun c170 => ?_)
            · try simp at c170
              have hw3 : IntKind.i64.wrap ((k : Int) + 1) = (k : Int) + 1 := wrap64 (by omega) (by omega)
              have hEk : encK (kinT (fun _ => true) s)[k] = .agg [.int .i64 (kinT (fun _ => true) s)[k].1, .int .i64 (kinT (fun _ => true) s)[k].2] := rfl
              have hT : ∀ x : Int × Int, (x ∈ (kinT (fun _ => true) s).take (k + 1) ↔ x ∈ (kinT (fun _ => true) s).take k ∨ x = (kinT (fun _ => true) s)[k]) := fun x => by rw [List.take_succ_eq_append_getElem c170, List.mem_append, List.mem_singleton]
              have he38 := eq38 (kinT (fun _ => true) s)[k].1 (kinT (fun _ => true) s)[k].2
              refine .skip ?_
              refine .seq ?_
              refine .block ?_
              refine .drawn (ms := [0,1,3,3,15,31,3,127,255,511]) (W := []) (items := [.op 0, .op 1, .op 2, .op 3, .op 4, .op 5, .op 6, .op 7, .op 8, .op 9]) rfl zz0 zz0 zz0 ?_
              refine .rd rfl rfl (by decide) rfl (by decide) zz1 ?_   -- 0
              refine .rd rfl rfl (by decide) rfl (by decide) zz1 ?_   -- 1
              refine .split (t := 174) rfl (fun c174 => ?_) (fun c174 => ?_)
              · try rw [c174]
                try simp at c174
                refine .un rfl rfl (by decide) ?_   -- 2
                refine .un rfl rfl (by decide) ?_   -- 3
                refine .un rfl rfl (by decide) ?_   -- 4
                refine .un rfl rfl (by decide) ?_   -- 5
                refine .un rfl rfl (by decide) ?_   -- 6
                refine .un rfl rfl (by decide) ?_   -- 7
                refine .rd rfl rfl (by decide) rfl (by decide) zz1 ?_   -- 8
                refine .rd rfl rfl (by decide) rfl (by decide) zz1 ?_   -- 9
                refine .done ?_
                refine .rn ?_
                have hD : decide ((s[i].id, (0 : Int)) ∈ (kinT (fun _ => true) s).take (k + 1)) = true := decide_eq_true ((hT _).2 (.inl c174))
                clear hT
                refine ⟨k + 1, c170,zz5,(.mk [] [] zz14 zz15 rfl rfl rfl)⟩
              · try rw [c174]
                try simp at c174
                refine .rd rfl rfl (by decide) rfl (by decide) zz1 ?_   -- 2
                refine .rd rfl rfl (by decide) rfl (by decide) zz1 ?_   -- 3
                refine .rd rfl rfl (by decide) rfl (by decide) zz1 ?_   -- 4
                refine .rd rfl rfl (by decide) rfl (by decide) zz1 ?_   -- 5
                refine .rd rfl rfl (by decide) rfl (by decide) zz1 ?_   -- 6
                refine .rd rfl rfl (by decide) rfl (by decide) zz1 ?_   -- 7
                refine .rd rfl rfl (by decide) rfl (by decide) zz1 ?_   -- 8
                refine .rd rfl rfl (by decide) rfl (by decide) zz1 ?_   -- 9
                refine .done ?_
                refine .rn ?_
                have hD : decide ((s[i].id, (0 : Int)) ∈ (kinT (fun _ => true) s).take (k + 1)) = ((kinT (fun _ => true) s)[k].1 == s[i].id && (kinT (fun _ => true) s)[k].2 == (0 : Int)) := by
                  rw [Bool.eq_iff_iff, decide_eq_true_eq, hT]
                  simp only [Bool.and_eq_true, beq_iff_eq]
                  exact ⟨fun h => have h2 := h.resolve_left c174; ⟨(congrArg Prod.fst h2).symm, (congrArg Prod.snd h2).symm⟩, fun h => .inr (Prod.ext h.1.symm h.2.symm)⟩
                clear hT
                refine ⟨k + 1, c170,zz5,(.mk [] [] zz14 zz15 rfl rfl rfl)⟩
            · try simp at c170
              obtain ⟨hq1, hq2, hq3, hq4, hq5, hq6, hq7⟩ := chs_endB c55 (List.getElem_mem hi) (0 : Int) (.inl rfl)
              have hTk : (kinT (fun _ => true) s).take k = kinT (fun _ => true) s := List.take_of_length_le (by omega)
              refine .exit ?_
              refine .seq ?_
              refine .regionL [0,1,2,3,4,5,6,7,8,9,10,11,12,13,14,15,16,17,18,19,20,21,22,23,24,25,26,27,28,29,30,31,32,33,34,35,36,37,38,39,40,41,42,43,44,45,46,47,48,49,50,51,52,53,54,55,56,57,58,59,60] rfl zz0 ?_
              refine .step rfl rfl (.pure rfl rfl rfl Tryz.call22 (by decide) (hsan) (by first | rfl | simp [*]) ?_)
              rintro _ rfl
              refine .rn [1] [2,3,4,5,6,7,8,9,10,11,12,13,14,15,16,17,18,19,20,21,22,23,24,25,26,27,28,29,30,31,32,33,34,35,36,37,38,39,40,41,42,43,44,45,46,47,48,49,50,51,52,53,54,55,56,57,58,59,60] ?_
              refine .split (t := 183) rfl (fun c183 => ?_) (fun c183 => ?_)
              · try rw [c183]
                try simp at c183
                refine .rn [2,3,4,5] [6,7,8,9,10,11,12,13,14,15,16,17,18,19,20,21,22,23,24,25,26,27,28,29,30,31,32,33,34,35,36,37,38,39,40,41,42,43,44,45,46,47,48,49,50,51,52,53,54,55,56,57,58,59,60] ?_
                refine .split (t := 187) rfl (fun c187 => ?_) (fun c187 => ?_)
                · try rw [c187]
                  try simp at c187
                  refine .rn [6,7,8,9] [10,11,12,13,14,15,16,17,18,19,20,21,22,23,24,25,26,27,28,29,30,31,32,33,34,35,36,37,38,39,40,41,42,43,44,45,46,47,48,49,50,51,52,53,54,55,56,57,58,59,60] ?_
                  refine .split (t := 191) rfl (fun c191 => ?_) (fun c191 => ?_)
                  · try rw [c191]
                    try simp at c191
                    refine .rn [10,11,12,13] [14,15,16,17,18,19,20,21,22,23,24,25,26,27,28,29,30,31,32,33,34,35,36,37,38,39,40,41,42,43,44,45,46,47,48,49,50,51,52,53,54,55,56,57,58,59,60] ?_
                    refine .split (t := 195) rfl (fun c195 => ?_) (fun c195 => ?_)
                    · try rw [c195]
                      try simp at c195
                      refine .rn [14,15,16,17] [18,19,20,21,22,23,24,25,26,27,28,29,30,31,32,33,34,35,36,37,38,39,40,41,42,43,44,45,46,47,48,49,50,51,52,53,54,55,56,57,58,59,60] ?_
                      refine .split (t := 199) rfl (fun c199 => ?_) (fun c199 => ?_)
                      · try rw [c199]
                        try simp at c199
                        refine .rn [18,19,20,21] [22,23,24,25,26,27,28,29,30,31,32,33,34,35,36,37,38,39,40,41,42,43,44,45,46,47,48,49,50,51,52,53,54,55,56,57,58,59,60] ?_
                        refine .split (t := 203) rfl (fun c203 => ?_) (fun c203 => ?_)
                        · try rw [c203]
                          try simp at c203
                          refine .rn [22,23,24,25,26] [27,28,29,30,31,32,33,34,35,36,37,38,39,40,41,42,43,44,45,46,47,48,49,50,51,52,53,54,55,56,57,58,59,60] ?_
                          refine .split (t := 208) rfl (fun c208 => ?_) (fun c208 => ?_)
                          · try rw [c208]
                            try simp at c208
                            refine .rn [27,28,29,30,31,32] [33,34,35,36,37,38,39,40,41,42,43,44,45,46,47,48,49,50,51,52,53,54,55,56,57,58,59,60] ?_
                            refine .split (t := 214) rfl (fun c214 => ?_) (fun c214 => ?_)
                            · try rw [c214]
                              try simp at c214
                              refine .rn [33,34,35,36] [37,38,39,40,41,42,43,44,45,46,47,48,49,50,51,52,53,54,55,56,57,58,59,60] ?_
                              refine .step rfl rfl (.pure rfl rfl rfl Tryz.call46 (by decide) (p46 (modL s s[i].id) _ (modL_len7 s s[i].id (by omega))) (by first | rfl | simp [*]) ?_)
                              rintro _ rfl
                              refine .rn [38,39,40] [41,42,43,44,45,46,47,48,49,50,51,52,53,54,55,56,57,58,59,60] ?_
                              refine .split (t := 222) rfl (fun c222 => ?_) (fun c222 => ?_)
                              · try rw [c222]
                                try simp at c222
                                refine .rn [41,42,43,44,45,46] [47,48,49,50,51,52,53,54,55,56,57,58,59,60] ?_
                                refine .split (t := 228) rfl (fun c228 => ?_) (fun c228 => ?_)
                                · try rw [c228]
                                  try simp at c228
                                  refine .rn [47,48,49,50] [51,52,53,54,55,56,57,58,59,60] ?_
                                  refine .split (t := 232) rfl (fun c232 => ?_) (fun c232 => ?_)
                                  · try rw [c232]
                                    try simp at c232
                                    refine .rn [51,52,53,54,55,56] [57,58,59,60] ?_
                                    refine .split (t := 238) rfl (fun c238 => ?_) (fun c238 => ?_)
                                    · try rw [c238]
                                      try simp at c238
                                      refine .rn [57,58,59,60] [] ?_
                                      refine .done ?_
                                      refine .ret ?_
                                      refine ⟨_, _, zz4,zz4, ?_⟩
                                      first | rfl | (simp [*]; done) | (simp_all; done)
                                    · try rw [c238]
                                      try simp at c238
                                  · try rw [c232]
                                    try simp at c232
                                    refine .rn [51,52,53,54,55,56] [57,58,59,60] ?_
                                    refine .split (t := 238) rfl (fun c238 => ?_) (fun c238 => ?_)
                                    · try rw [c238]
                                      try simp at c238
                                      refine .rn [57,58,59,60] [] ?_
                                      refine .done ?_
                                      refine .ret ?_
                                      refine ⟨_, _, zz4,zz4, ?_⟩
                                      first | rfl | (simp [*]; done) | (simp_all; done)
                                    · try rw [c238]
                                      try simp at c238
                                · try rw [c228]
                                  try simp at c228
                              · try rw [c222]
                                try simp at c222
                            · try rw [c214]
                              try simp at c214
                          · try rw [c208]
                            try simp at c208
                        · try rw [c203]
                          try simp at c203
                      · try rw [c199]
                        try simp at c199
                    · try rw [c195]
                      try simp at c195
                  · try rw [c191]
                    try simp at c191
                · try rw [c187]
                  try simp at c187
              · try rw [c183]
                try simp at c183
end Go.Am.Ds
end
