/-
  What is used in the proof of a statement (part DsC); no condition.
-/
import Derived.Test.YtnablaecbohhmaaGreatVm2
import Derived.Test.YtnablaecbohhmaaGreatDsT
import Derived.Test.YtnablaecbohhmaaGreatDsB
set_option linter.all false
section
namespace Go.Am.Ds
open Go Go.Am Go.Proofs
set_option maxHeartbeats 4000000
set_option linter.unusedSimpArgs false
set_option linter.unusedVariables false
attribute [local simp] vrun vwanted vyielded vop veval vevals vparts vO vbuiltin vlen vappend velems vcopy vmakeSlice vbuildSlice valloc vbox vmakeMap vload vpartT vpart vstore vfieldAddr vfield vindexAddr vindex vextract vslice vsliceZ vbounds vbnd zeroO vidx vlookup vmget vmapUpdate vdelete vnilq vnilp vnils vbin vsc vsc1 vscs vscl abinOp aint ashift aunOp aconvert amaxs amax2 pvcV pvc pvcs tput tget vargs VHeap.get VHeap.alloc VHeap.put VHeap.drop VHeap.empty vlook vput vdrop psplice pfill preps chunk List.range List.range.loop vresults vresult vresultV frz frzL PV.isF PV.allF PV.scal PV.allS retP subT allFT PV.one PV.ids PV.idsL dropL beq_eq ble_dec blt_dec
theorem p39a (s : List Wit) (day : Int) (hl : s.length < 4294967296) (hw : ∀ w ∈ s, w.slips.length < 4294967296 ∧ w.mended.length < 4294967296 ∧ w.models.length < 4294967296) : VPure Tryz.prog 39 [encS s, .int .i64 day] fun r => r = .agg [if checkS s = 0 ∧ 0 ≤ day ∧ day ≤ 730 then .vec ((s.filter fun w => decide (w.known ≤ day)).map encW) else .sl0, .int .i64 (if checkS s = 0 then (if 0 ≤ day ∧ day ≤ 730 then 0 else 1) else checkS s)] := by
  refine .of_body Tryz.func39 rfl rfl ?_
  refine .seq ?_
  refine .run (by decide +kernel) (by simp [*] <;> first | exact ⟨rfl, rfl⟩ | exact rfl) ?_   -- region 0
  refine .seq ?_
  refine .regionL [0, 1, 2] rfl (by decide +kernel) ?_   -- region 1
  refine .run (l := [0]) (r := [1, 2]) (by decide +kernel) (by simp [*] <;> first | exact ⟨rfl, rfl⟩ | exact rfl) ?_
  refine .step rfl rfl (.pure rfl rfl rfl Tryz.call52 (by decide) (p52 s hl hw) (by first | rfl | simp [*]) ?_)
  rintro _ rfl
  refine .run (l := [2]) (r := []) (by decide +kernel) (by simp [*] <;> first | exact ⟨rfl, rfl⟩ | exact rfl) ?_
  refine .done ?_
  refine .seq ?_
  refine .seq ?_
  refine .run (by decide +kernel) (by simp [*] <;> first | exact ⟨rfl, rfl⟩ | exact rfl) ?_   -- region 2
  refine .condS rfl (fun c12 => ?_) (fun c12 => ?_)
  · try simp at c12
    refine .seq ?_
    refine .run (by decide +kernel) (by simp [*] <;> first | exact ⟨rfl, rfl⟩ | exact rfl) ?_   -- region 3
    refine .ret ?_
    refine ⟨_, _, (by simp <;> rfl), (by simp <;> rfl), ?_⟩
    simp [c12]
  · try simp at c12
    refine .skip ?_
    refine .seq ?_
    refine .regionL [0, 1, 2] rfl (by decide +kernel) ?_   -- region 4
    refine .run (l := [0]) (r := [1, 2]) (by decide +kernel) (by simp [*] <;> first | exact ⟨rfl, rfl⟩ | exact rfl) ?_
    refine .step rfl rfl (.pure rfl rfl rfl Tryz.call120 (by decide) (p120 day 0 730) (by first | rfl | simp [*]) ?_)
    rintro _ rfl
    refine .run (l := [2]) (r := []) (by decide +kernel) (by simp [*] <;> first | exact ⟨rfl, rfl⟩ | exact rfl) ?_
    refine .done ?_
    refine .seq ?_
    refine .seq ?_
    refine .run (by decide +kernel) (by simp [*] <;> first | exact ⟨rfl, rfl⟩ | exact rfl) ?_   -- region 5
    refine .condS rfl (fun c18 => ?_) (fun c18 => ?_)
    · try simp at c18
      refine .seq ?_
      refine .run (by decide +kernel) (by simp [*] <;> first | exact ⟨rfl, rfl⟩ | exact rfl) ?_   -- region 6
      refine .ret ?_
      refine ⟨_, _, (by simp <;> rfl), (by simp <;> rfl), ?_⟩
      have h2 : ¬ (0 ≤ day ∧ day ≤ 730) := by omega
      simp [c12, h2]
    · try simp at c18
      have h2 : 0 ≤ day ∧ day ≤ 730 := by omega
      refine .skip ?_
      refine .seq ?_
      refine .run (by decide +kernel) (by simp [*] <;> first | exact ⟨rfl, rfl⟩ | exact rfl) ?_   -- region 7
      refine .seq ?_
      refine .seq ?_
      refine .run (by decide +kernel) (by simp [*] <;> first | exact ⟨rfl, rfl⟩ | exact rfl) ?_   -- region 8
      refine .block ?_
      refine .loopS (fun i : Nat => ([(1, .int .i64 day), (2, .ptr 0 0), (4, .ptr 1 0), (7, .ptr 2 0), (8, .int .i64 i)], ⟨4, [(3, .grow 7 (((s.take i).filter fun w => decide (w.known ≤ day)).map encW)), (2, .box [.grow 3 ((s.take i).filter fun w => decide (w.known ≤ day)).length true]), (1, .box [.sl0, .int .i64 0]), (0, .box [.vec (s.map encW)])]⟩)) (fun i => i ≤ s.length) (fun i => s.length - i) 0 (by simp) (.mk [] [] (by repeat' (first | exact trivial | refine And.intro (Exists.intro _ (And.intro rfl ?_)) ?_ | (refine Alt.same _ ?_; first | rfl | (simp [*]; done)) | exact Alt.mapv _ _ (Nat.le_of_ble_eq_true rfl) rfl | exact Alt.grow _ _ _ _ (Nat.le_of_ble_eq_true rfl) rfl | (refine Alt.growE _ _ _ _ _ ?_ (Nat.le_of_ble_eq_true rfl) rfl; simp [*]; done) | exact Alt.ptr _ _ _ (Nat.le_of_ble_eq_true rfl) rfl | exact Alt.own _ _ _ _ _ (Nat.le_of_ble_eq_true rfl) rfl | exact Alt.sl0 _ _ | exact Alt.e0 _ | exact Alt.own0 _ _ _)) (by repeat' (first | exact trivial | refine And.intro (And.intro (Nat.le_of_ble_eq_true rfl) (Or.inr (And.intro rfl (Exists.intro _ (And.intro rfl ?_))))) ?_ | refine And.intro (And.intro (Nat.le_of_ble_eq_true rfl) (Or.inl (Exists.intro _ (And.intro rfl (Nat.le_of_ble_eq_true rfl))))) ?_ | rfl | exact AltL.nil | (refine congrArg (VObj.grow _) ?_; simp [*]; done) | (refine congrArg VObj.map ?_; simp [*]; done) | refine AltL.cons ?_ ?_ | (refine Alt.same _ ?_; first | rfl | (simp [*]; done)) | exact Alt.mapv _ _ (Nat.le_of_ble_eq_true rfl) rfl | exact Alt.grow _ _ _ _ (Nat.le_of_ble_eq_true rfl) rfl | (refine Alt.growE _ _ _ _ _ ?_ (Nat.le_of_ble_eq_true rfl) rfl; simp [*]; done) | exact Alt.ptr _ _ _ (Nat.le_of_ble_eq_true rfl) rfl | exact Alt.own _ _ _ _ _ (Nat.le_of_ble_eq_true rfl) rfl | exact Alt.sl0 _ _ | exact Alt.e0 _ | exact Alt.own0 _ _ _)) rfl rfl rfl) ?_
      rintro i hi
      simp only at hi ⊢
      have hlen : ((s.take i).filter fun w => decide (w.known ≤ day)).length ≤ i := Nat.le_trans (List.length_filter_le _ _) (by simp; omega)
      refine .seq ?_
      refine .seq ?_
      refine .run (by decide +kernel) (by simp [*] <;> first | exact ⟨rfl, rfl⟩ | exact rfl) ?_   -- region 9
      refine .condS rfl (fun c24 => ?_) (fun c24 => ?_)
      · try simp at c24
        have hw2 : IntKind.i64.wrap ((i : Int) + 1) = (i : Int) + 1 := wrap64 (by omega) (by omega)
        have hT := take_succ_filter (fun w => decide (w.known ≤ day)) s i c24
        have hb : ((s.take i).filter fun w => decide (w.known ≤ day)).length + 1 ≤ 4294967296 := by omega
        have hE : encW s[i] = .agg [.int .i64 s[i].id, .int .i64 s[i].known, ints s[i].slips, ints s[i].mended, ints s[i].models, .int .i64 s[i].lo, .int .i64 s[i].hi] := rfl
        refine .skip ?_
        refine .seq ?_
        refine .block ?_
        refine .seq ?_
        refine .run (by decide +kernel) (by simp [*] <;> first | exact ⟨rfl, rfl⟩ | exact rfl) ?_   -- region 11
        refine .condS rfl (fun c34 => ?_) (fun c34 => ?_)
        · try simp at c34
          rw [if_pos (by simpa using c34)] at hT
          refine .drawn (ms := [0, 1, 0, 4, 0, 28, 60, 124, 255, 511, 1023]) (W := [7, 8, 10]) (items := [.op 0, .op 1, .op 2, .op 3, .op 4, .op 5, .op 6, .op 7, .ck 1, .op 8, .op 9, .op 10]) rfl (by decide +kernel) (by decide +kernel) (by decide +kernel) ?_   -- region 12
          refine .rd rfl rfl (by decide) rfl (by decide) (by simp [*] <;> first | exact ⟨rfl, rfl⟩ | exact rfl) ?_   -- 0
          refine .rd rfl rfl (by decide) rfl (by decide) (by simp [*] <;> first | exact ⟨rfl, rfl⟩ | exact rfl) ?_   -- 1
          refine .rd rfl rfl (by decide) rfl (by decide) (by simp [*] <;> first | exact ⟨rfl, rfl⟩ | exact rfl) ?_   -- 2
          refine .rd rfl rfl (by decide) rfl (by decide) (by simp [*] <;> first | exact ⟨rfl, rfl⟩ | exact rfl) ?_   -- 3
          refine .rd rfl rfl (by decide) rfl (by decide) (by simp [*] <;> first | exact ⟨rfl, rfl⟩ | exact rfl) ?_   -- 4
          refine .rd rfl rfl (by decide) rfl (by decide) (by simp [*] <;> first | exact ⟨rfl, rfl⟩ | exact rfl) ?_   -- 5
          refine .rd rfl rfl (by decide) rfl (by decide) (by simp [*] <;> first | exact ⟨rfl, rfl⟩ | exact rfl) ?_   -- 6
          refine .wr rfl rfl (by decide) (.vop (by simp [*] <;> first | exact ⟨rfl, rfl⟩ | exact rfl) (by decide) ?_)   -- 7
          refine .ck rfl (by decide +kernel) ?_   -- 1
          refine .wr rfl rfl (by decide) (.vop (by simp [*] <;> first | exact ⟨rfl, rfl⟩ | exact rfl) (by decide) ?_)   -- 8
          refine .rd rfl rfl (by decide) rfl (by decide) (by simp [*] <;> first | exact ⟨rfl, rfl⟩ | exact rfl) ?_   -- 9
          refine .wr rfl rfl (by decide) (.vop (by simp [*] <;> first | exact ⟨rfl, rfl⟩ | exact rfl) (by decide) ?_)   -- 10
          refine .done ?_
          refine .run (by decide +kernel) (by simp [*] <;> first | exact ⟨rfl, rfl⟩ | exact rfl) ?_   -- region 10
          refine ⟨i + 1, (by first | omega | (simp; omega)), (by first | omega | (simp; omega)), (.mk [] [(3, 5)] (by repeat' (first | exact trivial | refine And.intro (Exists.intro _ (And.intro rfl ?_)) ?_ | (refine Alt.same _ ?_; first | rfl | (simp [*]; done)) | exact Alt.mapv _ _ (Nat.le_of_ble_eq_true rfl) rfl | exact Alt.grow _ _ _ _ (Nat.le_of_ble_eq_true rfl) rfl | (refine Alt.growE _ _ _ _ _ ?_ (Nat.le_of_ble_eq_true rfl) rfl; simp [*]; done) | exact Alt.ptr _ _ _ (Nat.le_of_ble_eq_true rfl) rfl | exact Alt.own _ _ _ _ _ (Nat.le_of_ble_eq_true rfl) rfl | exact Alt.sl0 _ _ | exact Alt.e0 _ | exact Alt.own0 _ _ _)) (by repeat' (first | exact trivial | refine And.intro (And.intro (Nat.le_of_ble_eq_true rfl) (Or.inr (And.intro rfl (Exists.intro _ (And.intro rfl ?_))))) ?_ | refine And.intro (And.intro (Nat.le_of_ble_eq_true rfl) (Or.inl (Exists.intro _ (And.intro rfl (Nat.le_of_ble_eq_true rfl))))) ?_ | rfl | exact AltL.nil | (refine congrArg (VObj.grow _) ?_; simp [*]; done) | (refine congrArg VObj.map ?_; simp [*]; done) | refine AltL.cons ?_ ?_ | (refine Alt.same _ ?_; first | rfl | (simp [*]; done)) | exact Alt.mapv _ _ (Nat.le_of_ble_eq_true rfl) rfl | exact Alt.grow _ _ _ _ (Nat.le_of_ble_eq_true rfl) rfl | (refine Alt.growE _ _ _ _ _ ?_ (Nat.le_of_ble_eq_true rfl) rfl; simp [*]; done) | exact Alt.ptr _ _ _ (Nat.le_of_ble_eq_true rfl) rfl | exact Alt.own _ _ _ _ _ (Nat.le_of_ble_eq_true rfl) rfl | exact Alt.sl0 _ _ | exact Alt.e0 _ | exact Alt.own0 _ _ _)) rfl rfl rfl)⟩
        · try simp at c34
          rw [if_neg (by simpa using c34)] at hT
          refine .skip ?_
          refine .run (by decide +kernel) (by simp [*] <;> first | exact ⟨rfl, rfl⟩ | exact rfl) ?_   -- region 10
          refine ⟨i + 1, (by first | omega | (simp; omega)), (by first | omega | (simp; omega)), (.mk [] [] (by repeat' (first | exact trivial | refine And.intro (Exists.intro _ (And.intro rfl ?_)) ?_ | (refine Alt.same _ ?_; first | rfl | (simp [*]; done)) | exact Alt.mapv _ _ (Nat.le_of_ble_eq_true rfl) rfl | exact Alt.grow _ _ _ _ (Nat.le_of_ble_eq_true rfl) rfl | (refine Alt.growE _ _ _ _ _ ?_ (Nat.le_of_ble_eq_true rfl) rfl; simp [*]; done) | exact Alt.ptr _ _ _ (Nat.le_of_ble_eq_true rfl) rfl | exact Alt.own _ _ _ _ _ (Nat.le_of_ble_eq_true rfl) rfl | exact Alt.sl0 _ _ | exact Alt.e0 _ | exact Alt.own0 _ _ _)) (by repeat' (first | exact trivial | refine And.intro (And.intro (Nat.le_of_ble_eq_true rfl) (Or.inr (And.intro rfl (Exists.intro _ (And.intro rfl ?_))))) ?_ | refine And.intro (And.intro (Nat.le_of_ble_eq_true rfl) (Or.inl (Exists.intro _ (And.intro rfl (Nat.le_of_ble_eq_true rfl))))) ?_ | rfl | exact AltL.nil | (refine congrArg (VObj.grow _) ?_; simp [*]; done) | (refine congrArg VObj.map ?_; simp [*]; done) | refine AltL.cons ?_ ?_ | (refine Alt.same _ ?_; first | rfl | (simp [*]; done)) | exact Alt.mapv _ _ (Nat.le_of_ble_eq_true rfl) rfl | exact Alt.grow _ _ _ _ (Nat.le_of_ble_eq_true rfl) rfl | (refine Alt.growE _ _ _ _ _ ?_ (Nat.le_of_ble_eq_true rfl) rfl; simp [*]; done) | exact Alt.ptr _ _ _ (Nat.le_of_ble_eq_true rfl) rfl | exact Alt.own _ _ _ _ _ (Nat.le_of_ble_eq_true rfl) rfl | exact Alt.sl0 _ _ | exact Alt.e0 _ | exact Alt.own0 _ _ _)) rfl rfl rfl)⟩
      · try simp at c24
        have : i = s.length := by omega
        subst this
        refine .exit ?_   -- to 0
        refine .seq ?_
        refine .run (by decide +kernel) (by simp [*] <;> first | exact ⟨rfl, rfl⟩ | exact rfl) ?_   -- region 13
        refine .ret ?_
        refine ⟨_, _, (by simp <;> rfl), (by simp <;> rfl), ?_⟩
        simp [c12, h2]
theorem p40a (s : List Wit) (ids : List Int) (hl : s.length < 4294967296) (hi0 : ids.length < 4294967296) (hw : ∀ w ∈ s, w.slips.length < 4294967296 ∧ w.mended.length < 4294967296 ∧ w.models.length < 4294967296) : VPure Tryz.prog 40 [encS s, ints ids] fun r => r = .agg [if checkS s = 0 then .vec ((s.filter fun w => !decide (w.id ∈ ids)).map encW) else .sl0, .int .i64 (checkS s)] := by
  refine .of_body Tryz.func40 rfl rfl ?_
  refine .seq ?_
  refine .run (by decide +kernel) (by simp [*] <;> first | exact ⟨rfl, rfl⟩ | exact rfl) ?_   -- region 0
  refine .seq ?_
  refine .regionL [0, 1, 2] rfl (by decide +kernel) ?_   -- region 1
  refine .run (l := [0]) (r := [1, 2]) (by decide +kernel) (by simp [*] <;> first | exact ⟨rfl, rfl⟩ | exact rfl) ?_
  refine .step rfl rfl (.pure rfl rfl rfl Tryz.call52 (by decide) (p52 s hl hw) (by first | rfl | simp [*]) ?_)
  rintro _ rfl
  refine .run (l := [2]) (r := []) (by decide +kernel) (by simp [*] <;> first | exact ⟨rfl, rfl⟩ | exact rfl) ?_
  refine .done ?_
  refine .seq ?_
  refine .seq ?_
  refine .run (by decide +kernel) (by simp [*] <;> first | exact ⟨rfl, rfl⟩ | exact rfl) ?_   -- region 2
  refine .condS rfl (fun c12 => ?_) (fun c12 => ?_)
  · try simp at c12
    refine .seq ?_
    refine .run (by decide +kernel) (by simp [*] <;> first | exact ⟨rfl, rfl⟩ | exact rfl) ?_   -- region 3
    refine .ret ?_
    refine ⟨_, _, (by simp <;> rfl), (by simp <;> rfl), ?_⟩
    simp [c12]
  · try simp at c12
    refine .skip ?_
    refine .seq ?_
    refine .run (by decide +kernel) (by simp [*] <;> first | exact ⟨rfl, rfl⟩ | exact rfl) ?_   -- region 4
    refine .seq ?_
    refine .seq ?_
    refine .run (by decide +kernel) (by simp [*] <;> first | exact ⟨rfl, rfl⟩ | exact rfl) ?_   -- region 5
    refine .block ?_
    refine .loopS (fun i : Nat => ([(1, ints ids), (2, .ptr 0 0), (4, .ptr 1 0), (6, .ptr 2 0), (7, .int .i64 i)], ⟨4, [(3, .grow 7 (((s.take i).filter fun w => !decide (w.id ∈ ids)).map encW)), (2, .box [.grow 3 ((s.take i).filter fun w => !decide (w.id ∈ ids)).length true]), (1, .box [.sl0, .int .i64 0]), (0, .box [.vec (s.map encW)])]⟩)) (fun i => i ≤ s.length) (fun i => s.length - i) 0 (by simp) (.mk [] [] (by repeat' (first | exact trivial | refine And.intro (Exists.intro _ (And.intro rfl ?_)) ?_ | (refine Alt.same _ ?_; first | rfl | (simp [*]; done)) | exact Alt.mapv _ _ (Nat.le_of_ble_eq_true rfl) rfl | exact Alt.grow _ _ _ _ (Nat.le_of_ble_eq_true rfl) rfl | (refine Alt.growE _ _ _ _ _ ?_ (Nat.le_of_ble_eq_true rfl) rfl; simp [*]; done) | exact Alt.ptr _ _ _ (Nat.le_of_ble_eq_true rfl) rfl | exact Alt.own _ _ _ _ _ (Nat.le_of_ble_eq_true rfl) rfl | exact Alt.sl0 _ _ | exact Alt.e0 _ | exact Alt.own0 _ _ _)) (by repeat' (first | exact trivial | refine And.intro (And.intro (Nat.le_of_ble_eq_true rfl) (Or.inr (And.intro rfl (Exists.intro _ (And.intro rfl ?_))))) ?_ | refine And.intro (And.intro (Nat.le_of_ble_eq_true rfl) (Or.inl (Exists.intro _ (And.intro rfl (Nat.le_of_ble_eq_true rfl))))) ?_ | rfl | exact AltL.nil | (refine congrArg (VObj.grow _) ?_; simp [*]; done) | (refine congrArg VObj.map ?_; simp [*]; done) | refine AltL.cons ?_ ?_ | (refine Alt.same _ ?_; first | rfl | (simp [*]; done)) | exact Alt.mapv _ _ (Nat.le_of_ble_eq_true rfl) rfl | exact Alt.grow _ _ _ _ (Nat.le_of_ble_eq_true rfl) rfl | (refine Alt.growE _ _ _ _ _ ?_ (Nat.le_of_ble_eq_true rfl) rfl; simp [*]; done) | exact Alt.ptr _ _ _ (Nat.le_of_ble_eq_true rfl) rfl | exact Alt.own _ _ _ _ _ (Nat.le_of_ble_eq_true rfl) rfl | exact Alt.sl0 _ _ | exact Alt.e0 _ | exact Alt.own0 _ _ _)) rfl rfl rfl) ?_
    rintro i hi
    simp only at hi ⊢
    have hlen : ((s.take i).filter fun w => !decide (w.id ∈ ids)).length ≤ i := Nat.le_trans (List.length_filter_le _ _) (by simp; omega)
    refine .seq ?_
    refine .seq ?_
    refine .run (by decide +kernel) (by simp [*] <;> first | exact ⟨rfl, rfl⟩ | exact rfl) ?_   -- region 6
    refine .condS rfl (fun c19 => ?_) (fun c19 => ?_)
    · try simp at c19
      have hw2 : IntKind.i64.wrap ((i : Int) + 1) = (i : Int) + 1 := wrap64 (by omega) (by omega)
      have hT := take_succ_filter (fun w => !decide (w.id ∈ ids)) s i c19
      have hb : ((s.take i).filter fun w => !decide (w.id ∈ ids)).length + 1 ≤ 4294967296 := by omega
      have hE : encW s[i] = .agg [.int .i64 s[i].id, .int .i64 s[i].known, ints s[i].slips, ints s[i].mended, ints s[i].models, .int .i64 s[i].lo, .int .i64 s[i].hi] := rfl
      refine .skip ?_
      refine .seq ?_
      refine .block ?_
      refine .seq ?_
      refine .regionL [0, 1, 2, 3, 4, 5, 6, 7, 8] rfl (by decide +kernel) ?_   -- region 8
      refine .run (l := [0, 1, 2, 3, 4, 5, 6]) (r := [7, 8]) (by decide +kernel) (by simp [*] <;> first | exact ⟨rfl, rfl⟩ | exact rfl) ?_
      refine .step rfl rfl (.pure rfl rfl rfl Tryz.call121 (by decide) (p121 ids s[i].id hi0) (by first | rfl | simp [*]) ?_)
      rintro _ rfl
      refine .run (l := [8]) (r := []) (by decide +kernel) (by simp [*] <;> first | exact ⟨rfl, rfl⟩ | exact rfl) ?_
      refine .done ?_
      refine .seq ?_
      refine .run (by decide +kernel) (by simp [*] <;> first | exact ⟨rfl, rfl⟩ | exact rfl) ?_   -- region 9
      refine .condS rfl (fun c31 => ?_) (fun c31 => ?_)
      · try simp at c31
        rw [if_pos (by simpa using c31)] at hT
        refine .drawn (ms := [0, 1, 0, 4, 0, 28, 60, 124, 255, 511, 1023]) (W := [7, 8, 10]) (items := [.op 0, .op 1, .op 2, .op 3, .op 4, .op 5, .op 6, .op 7, .ck 1, .op 8, .op 9, .op 10]) rfl (by decide +kernel) (by decide +kernel) (by decide +kernel) ?_   -- region 10
        refine .rd rfl rfl (by decide) rfl (by decide) (by simp [*] <;> first | exact ⟨rfl, rfl⟩ | exact rfl) ?_   -- 0
        refine .rd rfl rfl (by decide) rfl (by decide) (by simp [*] <;> first | exact ⟨rfl, rfl⟩ | exact rfl) ?_   -- 1
        refine .rd rfl rfl (by decide) rfl (by decide) (by simp [*] <;> first | exact ⟨rfl, rfl⟩ | exact rfl) ?_   -- 2
        refine .rd rfl rfl (by decide) rfl (by decide) (by simp [*] <;> first | exact ⟨rfl, rfl⟩ | exact rfl) ?_   -- 3
        refine .rd rfl rfl (by decide) rfl (by decide) (by simp [*] <;> first | exact ⟨rfl, rfl⟩ | exact rfl) ?_   -- 4
        refine .rd rfl rfl (by decide) rfl (by decide) (by simp [*] <;> first | exact ⟨rfl, rfl⟩ | exact rfl) ?_   -- 5
        refine .rd rfl rfl (by decide) rfl (by decide) (by simp [*] <;> first | exact ⟨rfl, rfl⟩ | exact rfl) ?_   -- 6
        refine .wr rfl rfl (by decide) (.vop (by simp [*] <;> first | exact ⟨rfl, rfl⟩ | exact rfl) (by decide) ?_)   -- 7
        refine .ck rfl (by decide +kernel) ?_   -- 1
        refine .wr rfl rfl (by decide) (.vop (by simp [*] <;> first | exact ⟨rfl, rfl⟩ | exact rfl) (by decide) ?_)   -- 8
        refine .rd rfl rfl (by decide) rfl (by decide) (by simp [*] <;> first | exact ⟨rfl, rfl⟩ | exact rfl) ?_   -- 9
        refine .wr rfl rfl (by decide) (.vop (by simp [*] <;> first | exact ⟨rfl, rfl⟩ | exact rfl) (by decide) ?_)   -- 10
        refine .done ?_
        refine .run (by decide +kernel) (by simp [*] <;> first | exact ⟨rfl, rfl⟩ | exact rfl) ?_   -- region 7
        refine ⟨i + 1, (by first | omega | (simp; omega)), (by first | omega | (simp; omega)), (.mk [] [(3, 5)] (by repeat' (first | exact trivial | refine And.intro (Exists.intro _ (And.intro rfl ?_)) ?_ | (refine Alt.same _ ?_; first | rfl | (simp [*]; done)) | exact Alt.mapv _ _ (Nat.le_of_ble_eq_true rfl) rfl | exact Alt.grow _ _ _ _ (Nat.le_of_ble_eq_true rfl) rfl | (refine Alt.growE _ _ _ _ _ ?_ (Nat.le_of_ble_eq_true rfl) rfl; simp [*]; done) | exact Alt.ptr _ _ _ (Nat.le_of_ble_eq_true rfl) rfl | exact Alt.own _ _ _ _ _ (Nat.le_of_ble_eq_true rfl) rfl | exact Alt.sl0 _ _ | exact Alt.e0 _ | exact Alt.own0 _ _ _)) (by repeat' (first | exact trivial | refine And.intro (And.intro (Nat.le_of_ble_eq_true rfl) (Or.inr (And.intro rfl (Exists.intro _ (And.intro rfl ?_))))) ?_ | refine And.intro (And.intro (Nat.le_of_ble_eq_true rfl) (Or.inl (Exists.intro _ (And.intro rfl (Nat.le_of_ble_eq_true rfl))))) ?_ | rfl | exact AltL.nil | (refine congrArg (VObj.grow _) ?_; simp [*]; done) | (refine congrArg VObj.map ?_; simp [*]; done) | refine AltL.cons ?_ ?_ | (refine Alt.same _ ?_; first | rfl | (simp [*]; done)) | exact Alt.mapv _ _ (Nat.le_of_ble_eq_true rfl) rfl | exact Alt.grow _ _ _ _ (Nat.le_of_ble_eq_true rfl) rfl | (refine Alt.growE _ _ _ _ _ ?_ (Nat.le_of_ble_eq_true rfl) rfl; simp [*]; done) | exact Alt.ptr _ _ _ (Nat.le_of_ble_eq_true rfl) rfl | exact Alt.own _ _ _ _ _ (Nat.le_of_ble_eq_true rfl) rfl | exact Alt.sl0 _ _ | exact Alt.e0 _ | exact Alt.own0 _ _ _)) rfl rfl rfl)⟩
      · try simp at c31
        rw [if_neg (by simpa using c31)] at hT
        refine .skip ?_
        refine .run (by decide +kernel) (by simp [*] <;> first | exact ⟨rfl, rfl⟩ | exact rfl) ?_   -- region 7
        refine ⟨i + 1, (by first | omega | (simp; omega)), (by first | omega | (simp; omega)), (.mk [] [] (by repeat' (first | exact trivial | refine And.intro (Exists.intro _ (And.intro rfl ?_)) ?_ | (refine Alt.same _ ?_; first | rfl | (simp [*]; done)) | exact Alt.mapv _ _ (Nat.le_of_ble_eq_true rfl) rfl | exact Alt.grow _ _ _ _ (Nat.le_of_ble_eq_true rfl) rfl | (refine Alt.growE _ _ _ _ _ ?_ (Nat.le_of_ble_eq_true rfl) rfl; simp [*]; done) | exact Alt.ptr _ _ _ (Nat.le_of_ble_eq_true rfl) rfl | exact Alt.own _ _ _ _ _ (Nat.le_of_ble_eq_true rfl) rfl | exact Alt.sl0 _ _ | exact Alt.e0 _ | exact Alt.own0 _ _ _)) (by repeat' (first | exact trivial | refine And.intro (And.intro (Nat.le_of_ble_eq_true rfl) (Or.inr (And.intro rfl (Exists.intro _ (And.intro rfl ?_))))) ?_ | refine And.intro (And.intro (Nat.le_of_ble_eq_true rfl) (Or.inl (Exists.intro _ (And.intro rfl (Nat.le_of_ble_eq_true rfl))))) ?_ | rfl | exact AltL.nil | (refine congrArg (VObj.grow _) ?_; simp [*]; done) | (refine congrArg VObj.map ?_; simp [*]; done) | refine AltL.cons ?_ ?_ | (refine Alt.same _ ?_; first | rfl | (simp [*]; done)) | exact Alt.mapv _ _ (Nat.le_of_ble_eq_true rfl) rfl | exact Alt.grow _ _ _ _ (Nat.le_of_ble_eq_true rfl) rfl | (refine Alt.growE _ _ _ _ _ ?_ (Nat.le_of_ble_eq_true rfl) rfl; simp [*]; done) | exact Alt.ptr _ _ _ (Nat.le_of_ble_eq_true rfl) rfl | exact Alt.own _ _ _ _ _ (Nat.le_of_ble_eq_true rfl) rfl | exact Alt.sl0 _ _ | exact Alt.e0 _ | exact Alt.own0 _ _ _)) rfl rfl rfl)⟩
    · try simp at c19
      have : i = s.length := by omega
      subst this
      refine .exit ?_   -- to 0
      refine .seq ?_
      refine .run (by decide +kernel) (by simp [*] <;> first | exact ⟨rfl, rfl⟩ | exact rfl) ?_   -- region 11
      refine .ret ?_
      refine ⟨_, _, (by simp <;> rfl), (by simp <;> rfl), ?_⟩
      simp [c12]
theorem p34 (a b : List Int) (ha : a.length < 4294967296) (hb : b.length < 4294967296) : VPure Tryz.prog 34 [ints a, ints b] fun r => r = .bool (decide (a = b)) := by
  refine .of_body Tryz.func34 rfl rfl ?_
  refine .seq ?_
  refine .run (by decide +kernel) (by simp [*] <;> first | exact ⟨rfl, rfl⟩ | exact rfl) ?_   -- region 0
  refine .seq ?_
  refine .seq ?_
  refine .run (by decide +kernel) (by simp [*] <;> first | exact ⟨rfl, rfl⟩ | exact rfl) ?_   -- region 1
  refine .condS rfl (fun c10 => ?_) (fun c10 => ?_)
  · try simp at c10
    refine .seq ?_
    refine .run (by decide +kernel) (by simp [*] <;> first | exact ⟨rfl, rfl⟩ | exact rfl) ?_   -- region 2
    refine .ret ?_
    refine ⟨_, _, (by simp <;> rfl), (by simp <;> rfl), ?_⟩
    have h : ¬ a = b := by intro h; subst h; omega
    simp [h]
  · try simp at c10
    refine .skip ?_
    refine .seq ?_
    refine .seq ?_
    refine .run (by decide +kernel) (by simp [*] <;> first | exact ⟨rfl, rfl⟩ | exact rfl) ?_   -- region 3
    refine .block ?_
    refine .loopS (fun i : Nat => ([(0, ints a), (1, ints b), (5, .int .i64 i)], VHeap.empty)) (fun i => i ≤ a.length ∧ a.take i = b.take i) (fun i => a.length - i) 0 (by simp) (.pure (by simp [*]) (by simp)) ?_
    rintro i ⟨hi, hr⟩
    simp only at hi hr ⊢
    refine .seq ?_
    refine .seq ?_
    refine .run (by decide +kernel) (by simp [*] <;> first | exact ⟨rfl, rfl⟩ | exact rfl) ?_   -- region 4
    refine .condS rfl (fun c14 => ?_) (fun c14 => ?_)
    · try simp at c14
      have hw2 : IntKind.i64.wrap ((i : Int) + 1) = (i : Int) + 1 := wrap64 (by omega) (by omega)
      have hia : i < a.length := by omega
      have hib : i < b.length := by omega
      refine .skip ?_
      refine .seq ?_
      refine .block ?_
      refine .seq ?_
      refine .drawn (ms := [0, 0, 3, 7, 0, 0, 48, 112, 255]) (W := []) (items := [.op 0, .op 1, .op 2, .op 3, .op 4, .op 5, .op 6, .op 7, .op 8]) rfl (by decide +kernel) (by decide +kernel) (by decide +kernel) ?_   -- region 6
      refine .rd rfl rfl (by decide) rfl (by decide) (by simp [*] <;> first | exact ⟨rfl, rfl⟩ | exact rfl) ?_   -- 0
      refine .rd rfl rfl (by decide) rfl (by decide) (by simp [*] <;> first | exact ⟨rfl, rfl⟩ | exact rfl) ?_   -- 1
      refine .rd rfl rfl (by decide) rfl (by decide) (by simp [*] <;> first | exact ⟨rfl, rfl⟩ | exact rfl) ?_   -- 2
      refine .rd rfl rfl (by decide) rfl (by decide) (by simp [*] <;> first | exact ⟨rfl, rfl⟩ | exact rfl) ?_   -- 3
      refine .rd rfl rfl (by decide) rfl (by decide) (by simp [*] <;> first | exact ⟨rfl, rfl⟩ | exact rfl) ?_   -- 4
      refine .rd rfl rfl (by decide) rfl (by decide) (by simp [*] <;> first | exact ⟨rfl, rfl⟩ | exact rfl) ?_   -- 5
      refine .rd rfl rfl (by decide) rfl (by decide) (by simp [*] <;> first | exact ⟨rfl, rfl⟩ | exact rfl) ?_   -- 6
      refine .rd rfl rfl (by decide) rfl (by decide) (by simp [*] <;> first | exact ⟨rfl, rfl⟩ | exact rfl) ?_   -- 7
      refine .rd rfl rfl (by decide) rfl (by decide) (by simp [*] <;> first | exact ⟨rfl, rfl⟩ | exact rfl) ?_   -- 8
      refine .done ?_
      refine .condS rfl (fun c25 => ?_) (fun c25 => ?_)
      · try simp at c25
        refine .seq ?_
        refine .run (by decide +kernel) (by simp [*] <;> first | exact ⟨rfl, rfl⟩ | exact rfl) ?_   -- region 7
        refine .ret ?_
        refine ⟨_, _, (by simp <;> rfl), (by simp <;> rfl), ?_⟩
        have h : ¬ a = b := by intro h; subst h; simp at c25
        simp [h]
      · try simp at c25
        refine .skip ?_
        refine .run (by decide +kernel) (by simp [*] <;> first | exact ⟨rfl, rfl⟩ | exact rfl) ?_   -- region 5
        refine ⟨i + 1, ⟨(by first | omega | (simp; omega)), ?_⟩, (by first | omega | (simp; omega)), .pure (by simp [*]) (by simp)⟩
        rw [List.take_succ_eq_append_getElem hia, List.take_succ_eq_append_getElem hib, hr, c25]
    · try simp at c14
      have : i = a.length := by omega
      have hab : a = b := by
        rw [this, List.take_length] at hr
        rw [hr]; exact List.take_of_length_le (by omega)
      refine .exit ?_   -- to 0
      refine .seq ?_
      refine .run (by decide +kernel) (by simp [*] <;> first | exact ⟨rfl, rfl⟩ | exact rfl) ?_   -- region 8
      refine .ret ?_
      refine ⟨_, _, (by simp <;> rfl), (by simp <;> rfl), ?_⟩
      simp [hab]
end Go.Am.Ds
end

section
namespace Go.Am.Ds
open Go Go.Am Go.Proofs
set_option maxRecDepth 100000
set_option maxHeartbeats 4000000
set_option linter.unusedSimpArgs false
set_option linter.unusedVariables false
attribute [local simp] vrun vwanted vyielded vop veval vevals vparts vO vbuiltin vlen vappend velems vcopy vmakeSlice vbuildSlice valloc vbox vmakeMap vload vpartT vpart vstore vfieldAddr vfield vindexAddr vindex vextract vslice vsliceZ vbounds vbnd zeroO vidx vlookup vmget vmapUpdate vdelete vnilq vnilp vnils vbin vsc vsc1 vscs vscl abinOp aint ashift aunOp aconvert amaxs amax2 pvcV pvc pvcs tput tget vargs VHeap.get VHeap.alloc VHeap.put VHeap.drop VHeap.empty vlook vput vdrop psplice pfill preps chunk List.range List.range.loop vresults vresult vresultV frz frzL PV.isF PV.allF PV.scal PV.allS retP subT allFT PV.one PV.ids PV.idsL dropL beq_eq ble_dec blt_dec
theorem g60 : (Tryz.prog.stoodInHeld 60 || Tryz.prog.eqGuardType Tryz.prog.depth 60) = false := by decide +kernel
theorem n60 : (match Tryz.prog.underlying 60 with | some (.struct fs) => fs.toList.map (fun f => (f.name == "_", tsz Tryz.prog f.type, f.type, f.offset)) | _ => []) = [(false, some 1, 3, 0), (false, some 1, 3, 1)] := by decide +kernel
theorem eq60 (a b c d : Int) : aeql Tryz.prog 60 (.agg #[.int .i64 a, .int .i64 b]) (.agg #[.int .i64 c, .int .i64 d]) = some (a == c && b == d) := by
  have hn := n60
  have hg := g60
  unfold aeql
  simp only
  cases hu : Tryz.prog.underlying 60 with
  | none => rw [hu] at hn; simp at hn
  | some td =>
    cases td with
    | struct fs =>
      rw [hu] at hn
      simp only at hn ⊢
      rw [hg]
      simp only [cond_false]
      generalize fs.toList = l at hn
      rcases l with _ | ⟨f1, _ | ⟨f2, _ | ⟨f3, r⟩⟩⟩
      · simp at hn
      · simp at hn
      · simp only [List.map_cons, List.map_nil, List.cons.injEq, Prod.mk.injEq, and_true] at hn
        obtain ⟨⟨k1, k2, k3, k4⟩, ⟨m1, m2, m3, m4⟩⟩ := hn
        simp only [fieldsEq, k1, k2, k3, k4, m1, m2, m3, m4, cond_false]
        have ha : tagg Tryz.prog 3 = some false := by decide +kernel
        have hu3 : Tryz.prog.underlying 3 = some (.int .i64) := by rfl
        simp [apart, ha, simpleEq, hu3]
        cases a == c <;> cases b == d <;> rfl
      · simp at hn
    | _ => rw [hu] at hn; simp at hn
theorem wit_ext {v w : Wit} (h1 : v.id = w.id) (h2 : v.known = w.known) (h3 : v.slips = w.slips) (h4 : v.mended = w.mended) (h5 : v.models = w.models) (h6 : v.lo = w.lo) (h7 : v.hi = w.hi) : v = w := by
  cases v; cases w; simp_all
theorem p41 (a b : List Wit) (ha : a.length < 4294967296) (hb : b.length < 4294967296) (hwa : ∀ w ∈ a, w.slips.length < 4294967296 ∧ w.mended.length < 4294967296 ∧ w.models.length < 4294967296) (hwb : ∀ w ∈ b, w.slips.length < 4294967296 ∧ w.mended.length < 4294967296 ∧ w.models.length < 4294967296) : VPure Tryz.prog 41 [encS a, encS b] fun r => r = .bool (decide (a = b)) := by
  refine .of_body Tryz.func41 rfl rfl ?_
  refine .seq ?_
  refine .run (by decide +kernel) (by simp [*] <;> first | exact ⟨rfl, rfl⟩ | exact rfl) ?_   -- region 0
  refine .seq ?_
  refine .seq ?_
  refine .run (by decide +kernel) (by simp [*] <;> first | exact ⟨rfl, rfl⟩ | exact rfl) ?_   -- region 1
  refine .condS rfl (fun c17 => ?_) (fun c17 => ?_)
  · try simp at c17
    refine .seq ?_
    refine .run (by decide +kernel) (by simp [*] <;> first | exact ⟨rfl, rfl⟩ | exact rfl) ?_   -- region 2
    refine .ret ?_
    refine ⟨_, _, (by simp <;> rfl), (by simp <;> rfl), ?_⟩
    have h : ¬ a = b := by intro h; subst h; omega
    simp [h]
  · try simp at c17
    have hlen : a.length = b.length := by omega
    clear c17
    refine .skip ?_
    refine .seq ?_
    refine .seq ?_
    refine .run (by decide +kernel) (by simp [*] <;> first | exact ⟨rfl, rfl⟩ | exact rfl) ?_   -- region 3
    refine .block ?_
    refine .loopS (fun i : Nat => ([(2, .ptr 0 0), (3, .ptr 1 0), (5, .int .i64 i)], ⟨2, [(1, .box [.vec (b.map encW)]), (0, .box [.vec (a.map encW)])]⟩)) (fun i => i ≤ a.length ∧ a.take i = b.take i) (fun i => a.length - i) 0 (by simp) (.mk [] [] (by repeat' (first | exact trivial | refine And.intro (Exists.intro _ (And.intro rfl ?_)) ?_ | (refine Alt.same _ ?_; first | rfl | (simp [*]; done)) | exact Alt.mapv _ _ (Nat.le_of_ble_eq_true rfl) rfl | exact Alt.grow _ _ _ _ (Nat.le_of_ble_eq_true rfl) rfl | (refine Alt.growE _ _ _ _ _ ?_ (Nat.le_of_ble_eq_true rfl) rfl; simp [*]; done) | exact Alt.ptr _ _ _ (Nat.le_of_ble_eq_true rfl) rfl | exact Alt.own _ _ _ _ _ (Nat.le_of_ble_eq_true rfl) rfl | exact Alt.sl0 _ _ | exact Alt.e0 _ | exact Alt.own0 _ _ _)) (by repeat' (first | exact trivial | refine And.intro (And.intro (Nat.le_of_ble_eq_true rfl) (Or.inr (And.intro rfl (Exists.intro _ (And.intro rfl ?_))))) ?_ | refine And.intro (And.intro (Nat.le_of_ble_eq_true rfl) (Or.inl (Exists.intro _ (And.intro rfl (Nat.le_of_ble_eq_true rfl))))) ?_ | rfl | exact AltL.nil | (refine congrArg (VObj.grow _) ?_; simp [*]; done) | (refine congrArg VObj.map ?_; simp [*]; done) | refine AltL.cons ?_ ?_ | (refine Alt.same _ ?_; first | rfl | (simp [*]; done)) | exact Alt.mapv _ _ (Nat.le_of_ble_eq_true rfl) rfl | exact Alt.grow _ _ _ _ (Nat.le_of_ble_eq_true rfl) rfl | (refine Alt.growE _ _ _ _ _ ?_ (Nat.le_of_ble_eq_true rfl) rfl; simp [*]; done) | exact Alt.ptr _ _ _ (Nat.le_of_ble_eq_true rfl) rfl | exact Alt.own _ _ _ _ _ (Nat.le_of_ble_eq_true rfl) rfl | exact Alt.sl0 _ _ | exact Alt.e0 _ | exact Alt.own0 _ _ _)) rfl rfl rfl) ?_
    rintro i ⟨hi, hr⟩
    simp only at hi hr ⊢
    refine .seq ?_
    refine .seq ?_
    refine .run (by decide +kernel) (by simp [*] <;> first | exact ⟨rfl, rfl⟩ | exact rfl) ?_   -- region 4
    refine .condS rfl (fun c22 => ?_) (fun c22 => ?_)
    · try simp at c22
      have hw2 : IntKind.i64.wrap ((i : Int) + 1) = (i : Int) + 1 := wrap64 (by omega) (by omega)
      have hia : i < a.length := by omega
      have hib : i < b.length := by omega
      obtain ⟨hwa1, hwa2, hwa3⟩ := hwa a[i] (List.getElem_mem hia)
      obtain ⟨hwb1, hwb2, hwb3⟩ := hwb b[i] (List.getElem_mem hib)
      have heq := eq60 a[i].lo a[i].hi b[i].lo b[i].hi
      refine .skip ?_
      refine .seq ?_
      refine .block ?_
      refine .seq ?_
      refine .run (by decide +kernel) (by simp [*] <;> first | exact ⟨rfl, rfl⟩ | exact rfl) ?_   -- region 6
      refine .seq ?_
      refine .run (by decide +kernel) (by simp [*] <;> first | exact ⟨rfl, rfl⟩ | exact rfl) ?_   -- region 7
      refine .seq ?_
      refine .regionL [0, 1, 2, 3, 4, 5] rfl (by decide +kernel) ?_   -- region 8
      refine .run (l := [0, 1, 2, 3]) (r := [4, 5]) (by decide +kernel) (by simp [*] <;> first | exact ⟨rfl, rfl⟩ | exact rfl) ?_
      refine .step rfl rfl (.pure rfl rfl rfl Tryz.call34 (by decide) (p34 a[i].slips b[i].slips hwa1 hwb1) (by first | rfl | simp [*]) ?_)
      rintro _ rfl
      refine .run (l := [5]) (r := []) (by decide +kernel) (by simp [*] <;> first | exact ⟨rfl, rfl⟩ | exact rfl) ?_
      refine .done ?_
      refine .seq ?_
      refine .regionL [0, 1, 2, 3, 4, 5] rfl (by decide +kernel) ?_   -- region 9
      refine .run (l := [0, 1, 2, 3]) (r := [4, 5]) (by decide +kernel) (by simp [*] <;> first | exact ⟨rfl, rfl⟩ | exact rfl) ?_
      refine .step rfl rfl (.pure rfl rfl rfl Tryz.call34 (by decide) (p34 a[i].mended b[i].mended hwa2 hwb2) (by first | rfl | simp [*]) ?_)
      rintro _ rfl
      refine .run (l := [5]) (r := []) (by decide +kernel) (by simp [*] <;> first | exact ⟨rfl, rfl⟩ | exact rfl) ?_
      refine .done ?_
      refine .seq ?_
      refine .regionL [0, 1, 2, 3, 4, 5] rfl (by decide +kernel) ?_   -- region 10
      refine .run (l := [0, 1, 2, 3]) (r := [4, 5]) (by decide +kernel) (by simp [*] <;> first | exact ⟨rfl, rfl⟩ | exact rfl) ?_
      refine .step rfl rfl (.pure rfl rfl rfl Tryz.call34 (by decide) (p34 a[i].models b[i].models hwa3 hwb3) (by first | rfl | simp [*]) ?_)
      rintro _ rfl
      refine .run (l := [5]) (r := []) (by decide +kernel) (by simp [*] <;> first | exact ⟨rfl, rfl⟩ | exact rfl) ?_
      refine .done ?_
      refine .seq ?_
      refine .regionL [0, 1, 2, 3, 4, 5, 6, 7, 8, 9, 10, 11, 12, 13, 14, 15, 16, 17, 18, 19, 20, 21, 22, 23, 24, 25, 26, 27, 28, 29, 30] rfl (by decide +kernel) ?_   -- region 11
      refine .run (l := [0, 1, 2, 3, 4, 5]) (r := [6, 7, 8, 9, 10, 11, 12, 13, 14, 15, 16, 17, 18, 19, 20, 21, 22, 23, 24, 25, 26, 27, 28, 29, 30]) (by decide +kernel) (by simp [*] <;> first | exact ⟨rfl, rfl⟩ | exact rfl) ?_
      refine .split (t := 55) rfl (fun c55 => ?_) (fun c55 => ?_)
      · rw [c55]
        try simp at c55
        refine .run (l := [6, 7, 8, 9, 10, 11, 12, 13, 14, 15, 16, 17, 18, 19, 20, 21, 22, 23, 24, 25, 26, 27, 28, 29, 30]) (r := []) (by decide +kernel) (by simp [*] <;> first | exact ⟨rfl, rfl⟩ | exact rfl) ?_
        refine .done ?_
        refine .condT rfl ?_
        refine .seq ?_
        refine .run (by decide +kernel) (by simp [*] <;> first | exact ⟨rfl, rfl⟩ | exact rfl) ?_   -- region 12
        refine .ret ?_
        refine ⟨_, _, (by simp <;> rfl), (by simp <;> rfl), ?_⟩
        have h : ¬ a = b := by intro h; subst h; simp_all
        simp [h]
      · rw [c55]
        try simp at c55
        refine .run (l := [6, 7, 8, 9, 10, 11, 12]) (r := [13, 14, 15, 16, 17, 18, 19, 20, 21, 22, 23, 24, 25, 26, 27, 28, 29, 30]) (by decide +kernel) (by simp [*] <;> first | exact ⟨rfl, rfl⟩ | exact rfl) ?_
        refine .split (t := 62) rfl (fun c62 => ?_) (fun c62 => ?_)
        · rw [c62]
          try simp at c62
          refine .run (l := [13, 14, 15, 16, 17, 18, 19, 20, 21, 22, 23, 24, 25, 26, 27, 28, 29, 30]) (r := []) (by decide +kernel) (by simp [*] <;> first | exact ⟨rfl, rfl⟩ | exact rfl) ?_
          refine .done ?_
          refine .condT rfl ?_
          refine .seq ?_
          refine .run (by decide +kernel) (by simp [*] <;> first | exact ⟨rfl, rfl⟩ | exact rfl) ?_   -- region 12
          refine .ret ?_
          refine ⟨_, _, (by simp <;> rfl), (by simp <;> rfl), ?_⟩
          have h : ¬ a = b := by intro h; subst h; simp_all
          simp [h]
        · rw [c62]
          try simp at c62
          refine .run (l := [13, 14, 15, 16, 17, 18, 19]) (r := [20, 21, 22, 23, 24, 25, 26, 27, 28, 29, 30]) (by decide +kernel) (by simp [*] <;> first | exact ⟨rfl, rfl⟩ | exact rfl) ?_
          refine .split (t := 69) rfl (fun c69 => ?_) (fun c69 => ?_)
          · rw [c69]
            try simp at c69
            refine .run (l := [20, 21, 22, 23, 24, 25, 26, 27, 28, 29, 30]) (r := []) (by decide +kernel) (by simp [*] <;> first | exact ⟨rfl, rfl⟩ | exact rfl) ?_
            refine .done ?_
            refine .condT rfl ?_
            refine .seq ?_
            refine .run (by decide +kernel) (by simp [*] <;> first | exact ⟨rfl, rfl⟩ | exact rfl) ?_   -- region 12
            refine .ret ?_
            refine ⟨_, _, (by simp <;> rfl), (by simp <;> rfl), ?_⟩
            have h : ¬ a = b := by intro h; subst h; simp_all
            simp [h]
          · rw [c69]
            try simp at c69
            refine .run (l := [20, 21, 22, 23]) (r := [24, 25, 26, 27, 28, 29, 30]) (by decide +kernel) (by simp [*] <;> first | exact ⟨rfl, rfl⟩ | exact rfl) ?_
            refine .split (t := 73) rfl (fun c73 => ?_) (fun c73 => ?_)
            · rw [c73]
              try simp at c73
              refine .run (l := [24, 25, 26, 27, 28, 29, 30]) (r := []) (by decide +kernel) (by simp [*] <;> first | exact ⟨rfl, rfl⟩ | exact rfl) ?_
              refine .done ?_
              refine .condT rfl ?_
              refine .seq ?_
              refine .run (by decide +kernel) (by simp [*] <;> first | exact ⟨rfl, rfl⟩ | exact rfl) ?_   -- region 12
              refine .ret ?_
              refine ⟨_, _, (by simp <;> rfl), (by simp <;> rfl), ?_⟩
              have h : ¬ a = b := by intro h; subst h; simp_all
              simp [h]
            · rw [c73]
              try simp at c73
              refine .run (l := [24, 25, 26, 27]) (r := [28, 29, 30]) (by decide +kernel) (by simp [*] <;> first | exact ⟨rfl, rfl⟩ | exact rfl) ?_
              refine .split (t := 77) rfl (fun c77 => ?_) (fun c77 => ?_)
              · rw [c77]
                try simp at c77
                refine .run (l := [28, 29, 30]) (r := []) (by decide +kernel) (by simp [*] <;> first | exact ⟨rfl, rfl⟩ | exact rfl) ?_
                refine .done ?_
                refine .condT rfl ?_
                refine .seq ?_
                refine .run (by decide +kernel) (by simp [*] <;> first | exact ⟨rfl, rfl⟩ | exact rfl) ?_   -- region 12
                refine .ret ?_
                refine ⟨_, _, (by simp <;> rfl), (by simp <;> rfl), ?_⟩
                have h : ¬ a = b := by intro h; subst h; simp_all
                simp [h]
              · rw [c77]
                try simp at c77
                refine .run (l := [28, 29, 30]) (r := []) (by decide +kernel) (by simp [*] <;> first | exact ⟨rfl, rfl⟩ | exact rfl) ?_
                refine .done ?_
                refine .condS rfl (fun c80 => ?_) (fun c80 => ?_)
                · try simp at c80
                  refine .seq ?_
                  refine .run (by decide +kernel) (by simp [*] <;> first | exact ⟨rfl, rfl⟩ | exact rfl) ?_   -- region 12
                  refine .ret ?_
                  refine ⟨_, _, (by simp <;> rfl), (by simp <;> rfl), ?_⟩
                  have h : ¬ a = b := by intro h; subst h; simp_all
                  simp [h]
                · try simp at c80
                  refine .skip ?_
                  refine .run (by decide +kernel) (by simp [*] <;> first | exact ⟨rfl, rfl⟩ | exact rfl) ?_   -- region 5
                  refine ⟨i + 1, ⟨(by first | omega | (simp; omega)), ?_⟩, (by first | omega | (simp; omega)), (.mk [] [] (by repeat' (first | exact trivial | refine And.intro (Exists.intro _ (And.intro rfl ?_)) ?_ | (refine Alt.same _ ?_; first | rfl | (simp [*]; done)) | exact Alt.mapv _ _ (Nat.le_of_ble_eq_true rfl) rfl | exact Alt.grow _ _ _ _ (Nat.le_of_ble_eq_true rfl) rfl | (refine Alt.growE _ _ _ _ _ ?_ (Nat.le_of_ble_eq_true rfl) rfl; simp [*]; done) | exact Alt.ptr _ _ _ (Nat.le_of_ble_eq_true rfl) rfl | exact Alt.own _ _ _ _ _ (Nat.le_of_ble_eq_true rfl) rfl | exact Alt.sl0 _ _ | exact Alt.e0 _ | exact Alt.own0 _ _ _)) (by repeat' (first | exact trivial | refine And.intro (And.intro (Nat.le_of_ble_eq_true rfl) (Or.inr (And.intro rfl (Exists.intro _ (And.intro rfl ?_))))) ?_ | refine And.intro (And.intro (Nat.le_of_ble_eq_true rfl) (Or.inl (Exists.intro _ (And.intro rfl (Nat.le_of_ble_eq_true rfl))))) ?_ | rfl | exact AltL.nil | (refine congrArg (VObj.grow _) ?_; simp [*]; done) | (refine congrArg VObj.map ?_; simp [*]; done) | refine AltL.cons ?_ ?_ | (refine Alt.same _ ?_; first | rfl | (simp [*]; done)) | exact Alt.mapv _ _ (Nat.le_of_ble_eq_true rfl) rfl | exact Alt.grow _ _ _ _ (Nat.le_of_ble_eq_true rfl) rfl | (refine Alt.growE _ _ _ _ _ ?_ (Nat.le_of_ble_eq_true rfl) rfl; simp [*]; done) | exact Alt.ptr _ _ _ (Nat.le_of_ble_eq_true rfl) rfl | exact Alt.own _ _ _ _ _ (Nat.le_of_ble_eq_true rfl) rfl | exact Alt.sl0 _ _ | exact Alt.e0 _ | exact Alt.own0 _ _ _)) rfl rfl rfl)⟩
                  rw [List.take_succ_eq_append_getElem hia, List.take_succ_eq_append_getElem hib, hr]
                  congr 2
                  exact wit_ext (by simp_all) (by simp_all) (by simp_all) (by simp_all) (by simp_all) (by simp_all) (by simp_all)
    · try simp at c22
      have : i = a.length := by omega
      have hab : a = b := by
        rw [this, List.take_length] at hr
        rw [hr]; exact List.take_of_length_le (by omega)
      refine .exit ?_   -- to 0
      refine .seq ?_
      refine .run (by decide +kernel) (by simp [*] <;> first | exact ⟨rfl, rfl⟩ | exact rfl) ?_   -- region 13
      refine .ret ?_
      refine ⟨_, _, (by simp <;> rfl), (by simp <;> rfl), ?_⟩
      simp [hab]
theorem p38 (l : List Int) : VPure Tryz.prog 38 [ints l] fun r => r = .bool (decide (l.length ≤ 60)) := by
  refine .of_body Tryz.func38 rfl rfl ?_
  refine .seq ?_
  refine .run (by decide +kernel) (by simp [*] <;> first | exact ⟨rfl, rfl⟩ | exact rfl) ?_   -- region 0
  refine .seq ?_
  refine .run (by decide +kernel) (by simp [*] <;> first | exact ⟨rfl, rfl⟩ | exact rfl) ?_   -- region 1
  refine .ret ?_
  refine ⟨_, _, (by simp <;> rfl), (by simp <;> rfl), ?_⟩
  simp; omega
def longW (w : Wit) : Bool := decide (40 < w.slips.length) || decide (40 < w.mended.length) || decide (30 < w.models.length)
def fewS (s : List Wit) : Bool := !(s.any longW) && ((decide (s.length ≤ 8) && s.all fun w => decide (w.slips.length ≤ 6)) || (decide (s.length ≤ 40) && decide (checkS s ≠ 0)))
theorem take_succ_all {α : Type} (p : α → Bool) (l : List α) (i : Nat) (h : i < l.length) : (l.take (i + 1)).all p = ((l.take i).all p && p l[i]) := by
  rw [List.take_succ_eq_append_getElem h, List.all_append]; simp
theorem take_succ_any {α : Type} (p : α → Bool) (l : List α) (i : Nat) (h : i < l.length) : (l.take (i + 1)).any p = ((l.take i).any p || p l[i]) := by
  rw [List.take_succ_eq_append_getElem h, List.any_append]; simp
theorem any_get {α : Type} (p : α → Bool) (l : List α) (i : Nat) (h : i < l.length) (hp : p l[i] = true) : l.any p = true := List.any_eq_true.2 ⟨l[i], List.getElem_mem h, hp⟩
theorem p26 (s : List Wit) (hl : s.length < 4611686018427387904) : VPure Tryz.prog 26 [encS s] fun r => r = .bool (fewS s) := by
  refine .of_body Tryz.func26 rfl rfl ?_
  refine .seq ?_
  refine .run (by decide +kernel) (by simp [*] <;> first | exact ⟨rfl, rfl⟩ | exact rfl) ?_   -- region 0
  refine .seq ?_
  refine .run (by decide +kernel) (by simp [*] <;> first | exact ⟨rfl, rfl⟩ | exact rfl) ?_   -- region 1
  refine .seq ?_
  refine .seq ?_
  refine .run (by decide +kernel) (by simp [*] <;> first | exact ⟨rfl, rfl⟩ | exact rfl) ?_   -- region 2
  refine .block ?_
  refine .loopS (fun st : Nat × Bool => ([(1, .ptr 0 0), (3, .bool st.2), (4, .int .i64 st.1)], ⟨1, [(0, .box [.vec (s.map encW)])]⟩)) (fun st => st.1 ≤ s.length ∧ (s.take st.1).any longW = false ∧ ((s.take st.1).all fun w => decide (w.slips.length ≤ 6)) = st.2) (fun st => s.length - st.1) (0, true) (by simp) (.mk [] [] (by repeat' (first | exact trivial | refine And.intro (Exists.intro _ (And.intro rfl ?_)) ?_ | (refine Alt.same _ ?_; first | rfl | (simp [*]; done)) | exact Alt.mapv _ _ (Nat.le_of_ble_eq_true rfl) rfl | exact Alt.grow _ _ _ _ (Nat.le_of_ble_eq_true rfl) rfl | (refine Alt.growE _ _ _ _ _ ?_ (Nat.le_of_ble_eq_true rfl) rfl; simp [*]; done) | exact Alt.ptr _ _ _ (Nat.le_of_ble_eq_true rfl) rfl | exact Alt.own _ _ _ _ _ (Nat.le_of_ble_eq_true rfl) rfl | exact Alt.sl0 _ _ | exact Alt.e0 _ | exact Alt.own0 _ _ _)) (by repeat' (first | exact trivial | refine And.intro (And.intro (Nat.le_of_ble_eq_true rfl) (Or.inr (And.intro rfl (Exists.intro _ (And.intro rfl ?_))))) ?_ | refine And.intro (And.intro (Nat.le_of_ble_eq_true rfl) (Or.inl (Exists.intro _ (And.intro rfl (Nat.le_of_ble_eq_true rfl))))) ?_ | rfl | exact AltL.nil | (refine congrArg (VObj.grow _) ?_; simp [*]; done) | (refine congrArg VObj.map ?_; simp [*]; done) | refine AltL.cons ?_ ?_ | (refine Alt.same _ ?_; first | rfl | (simp [*]; done)) | exact Alt.mapv _ _ (Nat.le_of_ble_eq_true rfl) rfl | exact Alt.grow _ _ _ _ (Nat.le_of_ble_eq_true rfl) rfl | (refine Alt.growE _ _ _ _ _ ?_ (Nat.le_of_ble_eq_true rfl) rfl; simp [*]; done) | exact Alt.ptr _ _ _ (Nat.le_of_ble_eq_true rfl) rfl | exact Alt.own _ _ _ _ _ (Nat.le_of_ble_eq_true rfl) rfl | exact Alt.sl0 _ _ | exact Alt.e0 _ | exact Alt.own0 _ _ _)) rfl rfl rfl) ?_
  rintro ⟨i, light⟩ ⟨hi, hr, hr2⟩
  simp only at hi hr hr2 ⊢
  refine .seq ?_
  refine .seq ?_
  refine .run (by decide +kernel) (by simp [*] <;> first | exact ⟨rfl, rfl⟩ | exact rfl) ?_   -- region 3
  refine .condS rfl (fun c10 => ?_) (fun c10 => ?_)
  · try simp at c10
    have hw2 : IntKind.i64.wrap ((i : Int) + 1) = (i : Int) + 1 := wrap64 (by omega) (by omega)
    have hA := take_succ_any longW s i c10
    have hB := take_succ_all (fun w : Wit => decide (w.slips.length ≤ 6)) s i c10
    rw [hr] at hA
    rw [hr2] at hB
    refine .skip ?_
    refine .seq ?_
    refine .block ?_
    refine .seq ?_
    refine .run (by decide +kernel) (by simp [*] <;> first | exact ⟨rfl, rfl⟩ | exact rfl) ?_   -- region 5
    refine .seq ?_
    refine .seq ?_
    refine .regionL [0, 1, 2, 3, 4, 5, 6, 7, 8, 9, 10, 11, 12, 13, 14, 15] rfl (by decide +kernel) ?_   -- region 6
    refine .run (l := [0, 1, 2, 3, 4]) (r := [5, 6, 7, 8, 9, 10, 11, 12, 13, 14, 15]) (by decide +kernel) (by simp [*] <;> first | exact ⟨rfl, rfl⟩ | exact rfl) ?_
    refine .split (t := 22) rfl (fun c22 => ?_) (fun c22 => ?_)
    · rw [c22]
      try simp at c22
      refine .run (l := [5, 6, 7, 8, 9, 10, 11, 12, 13, 14, 15]) (r := []) (by decide +kernel) (by simp [*] <;> first | exact ⟨rfl, rfl⟩ | exact rfl) ?_
      refine .done ?_
      refine .condT rfl ?_
      refine .seq ?_
      refine .run (by decide +kernel) (by simp [*] <;> first | exact ⟨rfl, rfl⟩ | exact rfl) ?_   -- region 7
      refine .ret ?_
      refine ⟨_, _, (by simp <;> rfl), (by simp <;> rfl), ?_⟩
      have h : longW s[i] = true := by unfold longW; simp; omega
      unfold fewS; rw [any_get longW s i c10 h]; rfl
    · rw [c22]
      try simp at c22
      refine .run (l := [5, 6, 7, 8, 9, 10]) (r := [11, 12, 13, 14, 15]) (by decide +kernel) (by simp [*] <;> first | exact ⟨rfl, rfl⟩ | exact rfl) ?_
      refine .split (t := 28) rfl (fun c28 => ?_) (fun c28 => ?_)
      · rw [c28]
        try simp at c28
        refine .run (l := [11, 12, 13, 14, 15]) (r := []) (by decide +kernel) (by simp [*] <;> first | exact ⟨rfl, rfl⟩ | exact rfl) ?_
        refine .done ?_
        refine .condT rfl ?_
        refine .seq ?_
        refine .run (by decide +kernel) (by simp [*] <;> first | exact ⟨rfl, rfl⟩ | exact rfl) ?_   -- region 7
        refine .ret ?_
        refine ⟨_, _, (by simp <;> rfl), (by simp <;> rfl), ?_⟩
        have h : longW s[i] = true := by unfold longW; simp; omega
        unfold fewS; rw [any_get longW s i c10 h]; rfl
      · rw [c28]
        try simp at c28
        refine .run (l := [11, 12, 13, 14, 15]) (r := []) (by decide +kernel) (by simp [*] <;> first | exact ⟨rfl, rfl⟩ | exact rfl) ?_
        refine .done ?_
        refine .condS rfl (fun c33 => ?_) (fun c33 => ?_)
        · try simp at c33
          refine .seq ?_
          refine .run (by decide +kernel) (by simp [*] <;> first | exact ⟨rfl, rfl⟩ | exact rfl) ?_   -- region 7
          refine .ret ?_
          refine ⟨_, _, (by simp <;> rfl), (by simp <;> rfl), ?_⟩
          have h : longW s[i] = true := by unfold longW; simp; omega
          unfold fewS; rw [any_get longW s i c10 h]; rfl
        · try simp at c33
          refine .skip ?_
          refine .regionL [0, 1, 2, 3, 4, 5, 6, 7] rfl (by decide +kernel) ?_   -- region 8
          refine .run (l := [0, 1]) (r := [2, 3, 4, 5, 6, 7]) (by decide +kernel) (by simp [*] <;> first | exact ⟨rfl, rfl⟩ | exact rfl) ?_
          refine .split (t := 35) rfl (fun c35 => ?_) (fun c35 => ?_)
          · rw [c35]
            try simp at c35
            refine .run (l := [2, 3, 4, 5, 6, 7]) (r := []) (by decide +kernel) (by simp [*] <;> first | exact ⟨rfl, rfl⟩ | exact rfl) ?_
            refine .done ?_
            refine .run (by decide +kernel) (by simp [*] <;> first | exact ⟨rfl, rfl⟩ | exact rfl) ?_   -- region 4
            have h : longW s[i] = false := by unfold longW; simp; omega
            rw [h] at hA
            rw [c35] at hB
            refine ⟨(i + 1, decide ((s[i].slips.length : Int) ≤ 6)), ⟨(by first | omega | (simp; omega)), by simpa using hA, by rw [hB]; simp; omega⟩, (by first | omega | (simp; omega)), (.mk [] [] (by repeat' (first | exact trivial | refine And.intro (Exists.intro _ (And.intro rfl ?_)) ?_ | (refine Alt.same _ ?_; first | rfl | (simp [*]; done)) | exact Alt.mapv _ _ (Nat.le_of_ble_eq_true rfl) rfl | exact Alt.grow _ _ _ _ (Nat.le_of_ble_eq_true rfl) rfl | (refine Alt.growE _ _ _ _ _ ?_ (Nat.le_of_ble_eq_true rfl) rfl; simp [*]; done) | exact Alt.ptr _ _ _ (Nat.le_of_ble_eq_true rfl) rfl | exact Alt.own _ _ _ _ _ (Nat.le_of_ble_eq_true rfl) rfl | exact Alt.sl0 _ _ | exact Alt.e0 _ | exact Alt.own0 _ _ _)) (by repeat' (first | exact trivial | refine And.intro (And.intro (Nat.le_of_ble_eq_true rfl) (Or.inr (And.intro rfl (Exists.intro _ (And.intro rfl ?_))))) ?_ | refine And.intro (And.intro (Nat.le_of_ble_eq_true rfl) (Or.inl (Exists.intro _ (And.intro rfl (Nat.le_of_ble_eq_true rfl))))) ?_ | rfl | exact AltL.nil | (refine congrArg (VObj.grow _) ?_; simp [*]; done) | (refine congrArg VObj.map ?_; simp [*]; done) | refine AltL.cons ?_ ?_ | (refine Alt.same _ ?_; first | rfl | (simp [*]; done)) | exact Alt.mapv _ _ (Nat.le_of_ble_eq_true rfl) rfl | exact Alt.grow _ _ _ _ (Nat.le_of_ble_eq_true rfl) rfl | (refine Alt.growE _ _ _ _ _ ?_ (Nat.le_of_ble_eq_true rfl) rfl; simp [*]; done) | exact Alt.ptr _ _ _ (Nat.le_of_ble_eq_true rfl) rfl | exact Alt.own _ _ _ _ _ (Nat.le_of_ble_eq_true rfl) rfl | exact Alt.sl0 _ _ | exact Alt.e0 _ | exact Alt.own0 _ _ _)) rfl rfl rfl)⟩
          · rw [c35]
            try simp at c35
            refine .run (l := [2, 3, 4, 5, 6, 7]) (r := []) (by decide +kernel) (by simp [*] <;> first | exact ⟨rfl, rfl⟩ | exact rfl) ?_
            refine .done ?_
            refine .run (by decide +kernel) (by simp [*] <;> first | exact ⟨rfl, rfl⟩ | exact rfl) ?_   -- region 4
            have h : longW s[i] = false := by unfold longW; simp; omega
            rw [h] at hA
            rw [c35] at hB
            refine ⟨(i + 1, false), ⟨(by first | omega | (simp; omega)), by simpa using hA, by simpa using hB⟩, (by first | omega | (simp; omega)), (.mk [] [] (by repeat' (first | exact trivial | refine And.intro (Exists.intro _ (And.intro rfl ?_)) ?_ | (refine Alt.same _ ?_; first | rfl | (simp [*]; done)) | exact Alt.mapv _ _ (Nat.le_of_ble_eq_true rfl) rfl | exact Alt.grow _ _ _ _ (Nat.le_of_ble_eq_true rfl) rfl | (refine Alt.growE _ _ _ _ _ ?_ (Nat.le_of_ble_eq_true rfl) rfl; simp [*]; done) | exact Alt.ptr _ _ _ (Nat.le_of_ble_eq_true rfl) rfl | exact Alt.own _ _ _ _ _ (Nat.le_of_ble_eq_true rfl) rfl | exact Alt.sl0 _ _ | exact Alt.e0 _ | exact Alt.own0 _ _ _)) (by repeat' (first | exact trivial | refine And.intro (And.intro (Nat.le_of_ble_eq_true rfl) (Or.inr (And.intro rfl (Exists.intro _ (And.intro rfl ?_))))) ?_ | refine And.intro (And.intro (Nat.le_of_ble_eq_true rfl) (Or.inl (Exists.intro _ (And.intro rfl (Nat.le_of_ble_eq_true rfl))))) ?_ | rfl | exact AltL.nil | (refine congrArg (VObj.grow _) ?_; simp [*]; done) | (refine congrArg VObj.map ?_; simp [*]; done) | refine AltL.cons ?_ ?_ | (refine Alt.same _ ?_; first | rfl | (simp [*]; done)) | exact Alt.mapv _ _ (Nat.le_of_ble_eq_true rfl) rfl | exact Alt.grow _ _ _ _ (Nat.le_of_ble_eq_true rfl) rfl | (refine Alt.growE _ _ _ _ _ ?_ (Nat.le_of_ble_eq_true rfl) rfl; simp [*]; done) | exact Alt.ptr _ _ _ (Nat.le_of_ble_eq_true rfl) rfl | exact Alt.own _ _ _ _ _ (Nat.le_of_ble_eq_true rfl) rfl | exact Alt.sl0 _ _ | exact Alt.e0 _ | exact Alt.own0 _ _ _)) rfl rfl rfl)⟩
  · try simp at c10
    have hi2 : i = s.length := by omega
    subst hi2
    rw [List.take_length] at hr hr2
    have hlen : ∀ w ∈ s, w.slips.length < 4294967296 ∧ w.mended.length < 4294967296 ∧ w.models.length < 4294967296 := fun w hw => by
      rw [List.any_eq_false] at hr
      have := hr w hw
      unfold longW at this
      simp at this
      omega
    refine .exit ?_   -- to 0
    refine .seq ?_
    refine .regionL [0, 1, 2, 3, 4, 5, 6, 7, 8, 9, 10, 11, 12, 13, 14, 15, 16, 17, 18] rfl (by decide +kernel) ?_   -- region 9
    refine .run (l := [0, 1, 2, 3, 4]) (r := [5, 6, 7, 8, 9, 10, 11, 12, 13, 14, 15, 16, 17, 18]) (by decide +kernel) (by simp [*] <;> first | exact ⟨rfl, rfl⟩ | exact rfl) ?_
    refine .split (t := 45) rfl (fun c45 => ?_) (fun c45 => ?_)
    · rw [c45]
      try simp at c45
      refine .run (l := [5, 6, 7]) (r := [8, 9, 10, 11, 12, 13, 14, 15, 16, 17, 18]) (by decide +kernel) (by simp [*] <;> first | exact ⟨rfl, rfl⟩ | exact rfl) ?_
      refine .split (t := 48) rfl (fun c48 => ?_) (fun c48 => ?_)
      · rw [c48]
        try simp at c48
        refine .run (l := [8, 9, 10, 11, 12, 13, 14, 15, 16, 17, 18]) (r := []) (by decide +kernel) (by simp [*] <;> first | exact ⟨rfl, rfl⟩ | exact rfl) ?_
        refine .done ?_
        refine .ret ?_
        refine ⟨_, _, (by simp <;> rfl), (by simp <;> rfl), ?_⟩
        have k : s.length ≤ 8 := by omega
        unfold fewS; rw [hr, hr2, c48]; simp [k]
      · rw [c48]
        try simp at c48
        refine .run (l := [8, 9, 10, 11, 12]) (r := [13, 14, 15, 16, 17, 18]) (by decide +kernel) (by simp [*] <;> first | exact ⟨rfl, rfl⟩ | exact rfl) ?_
        refine .split (t := 53) rfl (fun c53 => ?_) (fun c53 => ?_)
        · rw [c53]
          try simp at c53
          refine .run (l := [13]) (r := [14, 15, 16, 17, 18]) (by decide +kernel) (by simp [*] <;> first | exact ⟨rfl, rfl⟩ | exact rfl) ?_
          refine .step rfl rfl (.pure rfl rfl rfl Tryz.call52 (by decide) (p52 s (by omega) hlen) (by first | rfl | simp [*]) ?_)
          rintro _ rfl
          refine .run (l := [15, 16, 17, 18]) (r := []) (by decide +kernel) (by simp [*] <;> first | exact ⟨rfl, rfl⟩ | exact rfl) ?_
          refine .done ?_
          refine .ret ?_
          refine ⟨_, _, (by simp <;> rfl), (by simp <;> rfl), ?_⟩
          have k : s.length ≤ 8 := by omega
          have k2 : s.length ≤ 40 := by omega
          unfold fewS; rw [hr, hr2, c48]; by_cases h : checkS s = 0 <;> simp [k, k2, h]
        · rw [c53]
          try simp at c53
          refine .run (l := [13, 14, 15, 16, 17, 18]) (r := []) (by decide +kernel) (by simp [*] <;> first | exact ⟨rfl, rfl⟩ | exact rfl) ?_
          refine .done ?_
          refine .ret ?_
          refine ⟨_, _, (by simp <;> rfl), (by simp <;> rfl), ?_⟩
          exfalso; omega
    · rw [c45]
      try simp at c45
      refine .run (l := [5, 6, 7, 8, 9, 10, 11, 12]) (r := [13, 14, 15, 16, 17, 18]) (by decide +kernel) (by simp [*] <;> first | exact ⟨rfl, rfl⟩ | exact rfl) ?_
      refine .split (t := 53) rfl (fun c53 => ?_) (fun c53 => ?_)
      · rw [c53]
        try simp at c53
        refine .run (l := [13]) (r := [14, 15, 16, 17, 18]) (by decide +kernel) (by simp [*] <;> first | exact ⟨rfl, rfl⟩ | exact rfl) ?_
        refine .step rfl rfl (.pure rfl rfl rfl Tryz.call52 (by decide) (p52 s (by omega) hlen) (by first | rfl | simp [*]) ?_)
        rintro _ rfl
        refine .run (l := [15, 16, 17, 18]) (r := []) (by decide +kernel) (by simp [*] <;> first | exact ⟨rfl, rfl⟩ | exact rfl) ?_
        refine .done ?_
        refine .ret ?_
        refine ⟨_, _, (by simp <;> rfl), (by simp <;> rfl), ?_⟩
        have k : ¬ s.length ≤ 8 := by omega
        have k2 : s.length ≤ 40 := by omega
        unfold fewS; rw [hr]; by_cases h : checkS s = 0 <;> simp [k, k2, h]
      · rw [c53]
        try simp at c53
        refine .run (l := [13, 14, 15, 16, 17, 18]) (r := []) (by decide +kernel) (by simp [*] <;> first | exact ⟨rfl, rfl⟩ | exact rfl) ?_
        refine .done ?_
        refine .ret ?_
        refine ⟨_, _, (by simp <;> rfl), (by simp <;> rfl), ?_⟩
        have k : ¬ s.length ≤ 8 := by omega
        have k2 : ¬ s.length ≤ 40 := by omega
        unfold fewS; rw [hr]; simp [k, k2]
end Go.Am.Ds
end

section
namespace Go.Am.Ds
open Go Go.Am Go.Proofs
set_option maxRecDepth 100000
set_option maxHeartbeats 4000000
set_option linter.unusedSimpArgs false
set_option linter.unusedVariables false
attribute [local simp] vrun vwanted vyielded vop veval vevals vparts vO vbuiltin vlen vappend velems vcopy vmakeSlice vbuildSlice valloc vbox vmakeMap vload vpartT vpart vstore vfieldAddr vfield vindexAddr vindex vextract vslice vsliceZ vbounds vbnd zeroO vidx vlookup vmget vmapUpdate vdelete vnilq vnilp vnils vbin vsc vsc1 vscs vscl abinOp aint ashift aunOp aconvert amaxs amax2 pvcV pvc pvcs tput tget vargs VHeap.get VHeap.alloc VHeap.put VHeap.drop VHeap.empty vlook vput vdrop psplice pfill preps chunk List.range List.range.loop vresults vresult vresultV frz frzL PV.isF PV.allF PV.scal PV.allS retP subT allFT PV.one PV.ids PV.idsL dropL beq_eq ble_dec blt_dec
theorem p39 (s : List Wit) (day : Int) (hl : s.length < 4294967296) (hw : ∀ w ∈ s, w.slips.length < 4294967296 ∧ w.mended.length < 4294967296 ∧ w.models.length < 4294967296) : VPure Tryz.prog 39 [encS s, .int .i64 day] fun r => r = .agg [.vec ((if checkS s = 0 ∧ 0 ≤ day ∧ day ≤ 730 then s.filter fun w => decide (w.known ≤ day) else []).map encW), .int .i64 (if checkS s = 0 then (if 0 ≤ day ∧ day ≤ 730 then 0 else 1) else checkS s)] := by
  refine (p39a s day hl hw).alt ?_
  rintro _ rfl
  refine ⟨_, ?_, ?_, rfl⟩
  · refine .agg' (.cons ?_ (.cons (.same _ rfl) .nil))
    split
    · exact .same _ (by simp)
    · exact .sl0v
  · simp
theorem p40 (s : List Wit) (ids : List Int) (hl : s.length < 4294967296) (hi0 : ids.length < 4294967296) (hw : ∀ w ∈ s, w.slips.length < 4294967296 ∧ w.mended.length < 4294967296 ∧ w.models.length < 4294967296) : VPure Tryz.prog 40 [encS s, ints ids] fun r => r = .agg [.vec ((if checkS s = 0 then s.filter fun w => !decide (w.id ∈ ids) else []).map encW), .int .i64 (checkS s)] := by
  refine (p40a s ids hl hi0 hw).alt ?_
  rintro _ rfl
  refine ⟨_, ?_, ?_, rfl⟩
  · refine .agg' (.cons ?_ (.cons (.same _ rfl) .nil))
    split
    · exact .same _ (by simp)
    · exact .sl0v
  · simp
theorem fewS_len {s : List Wit} (h : fewS s = true) : s.length < 4294967296 ∧ ∀ w ∈ s, w.slips.length < 4294967296 ∧ w.mended.length < 4294967296 ∧ w.models.length < 4294967296 := by
  unfold fewS at h
  simp only [Bool.and_eq_true, Bool.not_eq_true', Bool.or_eq_true, decide_eq_true_eq] at h
  refine ⟨by omega, fun w hw => ?_⟩
  have h1 := h.1
  rw [List.any_eq_false] at h1
  have := h1 w hw
  unfold longW at this
  simp at this
  omega
theorem mem_of_if {c : Prop} [Decidable c] {l : List Wit} {p : Wit → Bool} {w : Wit} (h : w ∈ (if c then l.filter p else [])) : w ∈ l := by
  split at h
  · exact (List.mem_filter.1 h).1
  · cases h
theorem len_of_if {c : Prop} [Decidable c] (l : List Wit) (p : Wit → Bool) : (if c then l.filter p else []).length ≤ l.length := by
  split
  · exact List.length_filter_le _ _
  · exact Nat.zero_le _
theorem p6 (s : List Wit) (day : Int) (ids : List Int) (hl : s.length < 4611686018427387904) (sanB : Bool) (hsan : VPure Tryz.prog 22 [] fun r => r = .bool sanB) (hsb : sanB = true) : VPure Tryz.prog 6 [encS s, .int .i64 day, ints ids] fun r => r = .bool true := by
  have hset : (fun w : Wit => !decide (w.id ∈ setK [ids])) = (fun w : Wit => !decide (w.id ∈ ids)) := by
    funext w; congr 1; rw [decide_eq_decide]; exact mem_setK1 _ _
  refine .of_body Tryz.func6 rfl rfl ?_
  refine .seq ?_
  refine .run (by decide +kernel) (by simp [*] <;> first | exact ⟨rfl, rfl⟩ | exact rfl) ?_   -- region 0
  refine .seq ?_
  refine .seq ?_
  refine .regionL [0, 1, 2, 3, 4, 5, 6, 7] rfl (by decide +kernel) ?_   -- region 1
  refine .run (l := [0]) (r := [1, 2, 3, 4, 5, 6, 7]) (by decide +kernel) (by simp [*] <;> first | exact ⟨rfl, rfl⟩ | exact rfl) ?_
  refine .step rfl rfl (.pure rfl rfl rfl Tryz.call26 (by decide) (p26 s hl) (by first | rfl | simp [*]) ?_)
  rintro _ rfl
  refine .run (l := [2, 3]) (r := [4, 5, 6, 7]) (by decide +kernel) (by simp [*] <;> first | exact ⟨rfl, rfl⟩ | exact rfl) ?_
  refine .split (t := 16) rfl (fun c16 => ?_) (fun c16 => ?_)
  · rw [c16]
    try simp at c16
    refine .run (l := [4, 5, 6, 7]) (r := []) (by decide +kernel) (by simp [*] <;> first | exact ⟨rfl, rfl⟩ | exact rfl) ?_
    refine .done ?_
    refine .condT rfl ?_
    refine .seq ?_
    refine .regionL [0, 1] rfl (by decide +kernel) ?_   -- region 2
    refine .step rfl rfl (.pure rfl rfl rfl Tryz.call22 (by decide) (hsan) (by first | rfl | simp [*]) ?_)
    rintro _ rfl
    refine .run (l := [1]) (r := []) (by decide +kernel) (by simp [*] <;> first | exact ⟨rfl, rfl⟩ | exact rfl) ?_
    refine .done ?_
    refine .ret ?_
    refine ⟨_, _, (by simp <;> rfl), (by simp <;> rfl), ?_⟩
    simp_all
  · rw [c16]
    try simp at c16
    refine .run (l := [4]) (r := [5, 6, 7]) (by decide +kernel) (by simp [*] <;> first | exact ⟨rfl, rfl⟩ | exact rfl) ?_
    refine .step rfl rfl (.pure rfl rfl rfl Tryz.call38 (by decide) (p38 ids) (by first | rfl | simp [*]) ?_)
    rintro _ rfl
    refine .run (l := [6, 7]) (r := []) (by decide +kernel) (by simp [*] <;> first | exact ⟨rfl, rfl⟩ | exact rfl) ?_
    refine .done ?_
    refine .condS rfl (fun c20 => ?_) (fun c20 => ?_)
    · try simp at c20
      refine .seq ?_
      refine .regionL [0, 1] rfl (by decide +kernel) ?_   -- region 2
      refine .step rfl rfl (.pure rfl rfl rfl Tryz.call22 (by decide) (hsan) (by first | rfl | simp [*]) ?_)
      rintro _ rfl
      refine .run (l := [1]) (r := []) (by decide +kernel) (by simp [*] <;> first | exact ⟨rfl, rfl⟩ | exact rfl) ?_
      refine .done ?_
      refine .ret ?_
      refine ⟨_, _, (by simp <;> rfl), (by simp <;> rfl), ?_⟩
      simp_all
    · try simp at c20
      obtain ⟨hl2, hw⟩ := fewS_len c16
      have hi : ids.length < 4294967296 := by omega
      refine .skip ?_
      refine .seq ?_
      refine .regionL [0, 1, 2, 3, 4, 5, 6, 7, 8] rfl (by decide +kernel) ?_   -- region 3
      refine .run (l := [0, 1]) (r := [2, 3, 4, 5, 6, 7, 8]) (by decide +kernel) (by simp [*] <;> first | exact ⟨rfl, rfl⟩ | exact rfl) ?_
      refine .step rfl rfl (.pure rfl rfl rfl Tryz.call37 (by decide) (p37 s day hl2) (by first | rfl | simp [*]) ?_)
      rintro _ rfl
      refine .run (l := [3, 4, 5, 6, 7, 8]) (r := []) (by decide +kernel) (by simp [*] <;> first | exact ⟨rfl, rfl⟩ | exact rfl) ?_
      refine .done ?_
      refine .seq ?_
      refine .regionL [0, 1, 2, 3, 4] rfl (by decide +kernel) ?_   -- region 4
      refine .run (l := [0, 1]) (r := [2, 3, 4]) (by decide +kernel) (by simp [*] <;> first | exact ⟨rfl, rfl⟩ | exact rfl) ?_
      refine .step rfl rfl (.pure rfl rfl rfl Tryz.call39 (by decide) (p39 s day hl2 hw) (by first | rfl | simp [*]) ?_)
      rintro _ rfl
      refine .run (l := [3, 4]) (r := []) (by decide +kernel) (by simp [*] <;> first | exact ⟨rfl, rfl⟩ | exact rfl) ?_
      refine .done ?_
      refine .seq ?_
      refine .regionL [0, 1, 2, 3, 4, 5, 6, 7, 8] rfl (by decide +kernel) ?_   -- region 5
      refine .run (l := [0, 1]) (r := [2, 3, 4, 5, 6, 7, 8]) (by decide +kernel) (by simp [*] <;> first | exact ⟨rfl, rfl⟩ | exact rfl) ?_
      refine .step rfl rfl (.pure rfl rfl rfl Tryz.call36 (by decide) (p36 s ids hl2 hi) (by first | rfl | simp [*]) ?_)
      rintro _ rfl
      refine .run (l := [3, 4, 5, 6, 7, 8]) (r := []) (by decide +kernel) (by simp [*] <;> first | exact ⟨rfl, rfl⟩ | exact rfl) ?_
      refine .done ?_
      refine .seq ?_
      refine .regionL [0, 1, 2, 3, 4] rfl (by decide +kernel) ?_   -- region 6
      refine .run (l := [0, 1]) (r := [2, 3, 4]) (by decide +kernel) (by simp [*] <;> first | exact ⟨rfl, rfl⟩ | exact rfl) ?_
      refine .step rfl rfl (.pure rfl rfl rfl Tryz.call40 (by decide) (p40 s ids hl2 hi hw) (by first | rfl | simp [*]) ?_)
      rintro _ rfl
      refine .run (l := [3, 4]) (r := []) (by decide +kernel) (by simp [*] <;> first | exact ⟨rfl, rfl⟩ | exact rfl) ?_
      refine .done ?_
      refine .seq ?_
      refine .regionL [0, 1, 2, 3, 4, 5, 6, 7, 8, 9, 10, 11, 12, 13, 14, 15, 16, 17, 18, 19, 20, 21, 22, 23, 24, 25] rfl (by decide +kernel) ?_   -- region 7
      refine .step rfl rfl (.pure rfl rfl rfl Tryz.call22 (by decide) (hsan) (by first | rfl | simp [*]) ?_)
      rintro _ rfl
      refine .run (l := [1]) (r := [2, 3, 4, 5, 6, 7, 8, 9, 10, 11, 12, 13, 14, 15, 16, 17, 18, 19, 20, 21, 22, 23, 24, 25]) (by decide +kernel) (by simp [*] <;> first | exact ⟨rfl, rfl⟩ | exact rfl) ?_
      refine .split (t := 41) rfl (fun c41 => ?_) (fun c41 => ?_)
      · rw [c41]
        try simp at c41
        refine .run (l := [2, 3, 4]) (r := [5, 6, 7, 8, 9, 10, 11, 12, 13, 14, 15, 16, 17, 18, 19, 20, 21, 22, 23, 24, 25]) (by decide +kernel) (by simp [*] <;> first | exact ⟨rfl, rfl⟩ | exact rfl) ?_
        refine .step rfl rfl (.pure rfl rfl rfl Tryz.call41 (by decide) (p41 _ _ (Nat.lt_of_le_of_lt (len_of_if _ _) hl2) (Nat.lt_of_le_of_lt (len_of_if _ _) hl2) (fun w h => hw w (mem_of_if h)) (fun w h => hw w (mem_of_if h))) (by first | rfl | simp [*]) ?_)
        rintro _ rfl
        refine .run (l := [6, 7]) (r := [8, 9, 10, 11, 12, 13, 14, 15, 16, 17, 18, 19, 20, 21, 22, 23, 24, 25]) (by decide +kernel) (by simp [*] <;> first | exact ⟨rfl, rfl⟩ | exact rfl) ?_
        refine .split (t := 47) rfl (fun c47 => ?_) (fun c47 => ?_)
        · rw [c47]
          try simp at c47
          refine .run (l := [8, 9, 10, 11, 12, 13]) (r := [14, 15, 16, 17, 18, 19, 20, 21, 22, 23, 24, 25]) (by decide +kernel) (by simp [*] <;> first | exact ⟨rfl, rfl⟩ | exact rfl) ?_
          refine .split (t := 53) rfl (fun c53 => ?_) (fun c53 => ?_)
          · rw [c53]
            try simp at c53
            refine .run (l := [14, 15, 16]) (r := [17, 18, 19, 20, 21, 22, 23, 24, 25]) (by decide +kernel) (by simp [*] <;> first | exact ⟨rfl, rfl⟩ | exact rfl) ?_
            refine .step rfl rfl (.pure rfl rfl rfl Tryz.call41 (by decide) (p41 _ _ (Nat.lt_of_le_of_lt (len_of_if _ _) hl2) (Nat.lt_of_le_of_lt (len_of_if _ _) hl2) (fun w h => hw w (mem_of_if h)) (fun w h => hw w (mem_of_if h))) (by first | rfl | simp [*]) ?_)
            rintro _ rfl
            refine .run (l := [18, 19]) (r := [20, 21, 22, 23, 24, 25]) (by decide +kernel) (by simp [*] <;> first | exact ⟨rfl, rfl⟩ | exact rfl) ?_
            refine .split (t := 59) rfl (fun c59 => ?_) (fun c59 => ?_)
            · rw [c59]
              try simp at c59
              refine .run (l := [20, 21, 22, 23, 24, 25]) (r := []) (by decide +kernel) (by simp [*] <;> first | exact ⟨rfl, rfl⟩ | exact rfl) ?_
              refine .done ?_
              refine .ret ?_
              refine ⟨_, _, (by simp <;> rfl), (by simp <;> rfl), ?_⟩
              simp_all
            · rw [c59]
              try simp at c59
          · rw [c53]
            try simp at c53
        · rw [c47]
          try simp at c47
      · rw [c41]
        try simp at c41
end Go.Am.Ds
end
