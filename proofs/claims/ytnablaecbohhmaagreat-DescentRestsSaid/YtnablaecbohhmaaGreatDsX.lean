/-
  What is used in the proof of a statement (part DsX); no condition.
-/
import Derived.Test.YtnablaecbohhmaaGreatDsT
import Derived.Test.YtnablaecbohhmaaGreatVm2
import Derived.Test.YtnablaecbohhmaaGreatDsC
import Derived.Test.YtnablaecbohhmaaGreatDsG
import Derived.Test.YtnablaecbohhmaaGreatDsF
set_option linter.all false
section
namespace Go.Am.Ds
open Go Go.Am Go.Proofs
set_option maxHeartbeats 4000000
set_option linter.unusedSimpArgs false
set_option linter.unusedVariables false
attribute [local simp] vrun vwanted vyielded vop veval vevals vparts vO vbuiltin vlen vappend velems vcopy vmakeSlice vbuildSlice valloc vbox vmakeMap vload vpartT vpart vstore vfieldAddr vfield vindexAddr vindex vextract vslice vsliceZ vbounds vbnd zeroO vidx vlookup vmget vmapUpdate vdelete vnilq vnilp vnils vbin vsc vsc1 vscs vscl abinOp aint ashift aunOp aconvert amaxs amax2 pvcV pvc pvcs tput tget vargs VHeap.get VHeap.alloc VHeap.put VHeap.drop VHeap.empty vlook vput vdrop psplice pfill preps chunk List.range List.range.loop vresults vresult vresultV frz frzL PV.isF PV.allF PV.scal PV.allS retP subT allFT PV.one PV.ids PV.idsL dropL beq_eq ble_dec blt_dec
theorem preps1 (z : PV) (n : Nat) : preps [z] n = List.replicate n z := by
  unfold preps
  induction n with
  | zero => rfl
  | succ n ih => simp only [List.replicate_succ, List.flatten_cons, ih]; rfl
theorem flat_int (k : IntKind) : ∀ l : List Int, (l.map (PV.int k)).flatMap PV.cells = l.map (PV.int k)
  | [] => rfl
  | a :: r => by simp only [List.map_cons, List.flatMap_cons, flat_int k r]; rfl
theorem frz_own_int (vh : VHeap) (i k : Nat) (l : List Int) (hg : vh.get i = some (.arr false 1 (l.map (PV.int .i64)))) : frz vh (.own i 0 l.length k) = some (ints l) := by
  by_cases h : l.length = 0
  · have := List.eq_nil_of_length_eq_zero h
    subst this; rfl
  · have h1 : Nat.beq l.length 0 = false := by rw [beq_eq]; simpa using h
    have h2 : (l.map (PV.int .i64)).take l.length = l.map (PV.int .i64) := by
      have := List.take_length (l := l.map (PV.int .i64)); simpa using this
    simp only [frz, h1, cond_false, hg, velems]
    simp only [all_one_int, beq_eq, ble_dec, List.drop_zero, chunk, cond_false, h2, List.length_map]
    simp
theorem vcopy_ints (P : Program) (t e : TypeId) (vh : VHeap) (i : Nat) (l : List Int) (ht : telem P t = some (e, 1)) (hg : vh.get i = some (.arr false 1 (preps [.int .i64 0] l.length))) :
    vcopy P vh t (.own i 0 l.length l.length) (ints l) = some (.int .i64 l.length, vh.put i (.arr false 1 (l.map (PV.int .i64)))) := by
  have h1 : velems vh 1 (ints l) = some (l.map (PV.int .i64)) := by simp [velems]
  simp only [vcopy, ht, h1, hg, preps1]
  have h2 : (l.map (PV.int .i64)).take l.length = l.map (PV.int .i64) := by
    have := List.take_length (l := l.map (PV.int .i64)); simpa using this
  rw [h2, flat_int]
  have h3 : psplice (List.replicate l.length (PV.int .i64 0)) 0 (l.map (PV.int .i64)) = l.map (PV.int .i64) := by simp [psplice]
  rw [h3]
  simp [blt_dec, ble_dec]
theorem p170 (l : List Int) (hl : l.length < 4294967296) : VPure Tryz.prog 170 [ints l] fun r => r = ints l := by
  have hl2 : ((l.length : Nat) : Int) ≤ 4294967296 := by omega
  refine .of_body Tryz.func170 rfl rfl ?_
  refine .seq ?_
  refine .run zz0 (by simp [*, -vcopy, -preps, vcopy_ints] <;> first | exact ⟨rfl, rfl⟩ | exact rfl) ?_
  refine .seq ?_
  refine .run zz0 (by simp [*, -vcopy, -preps, vcopy_ints] <;> first | exact ⟨rfl, rfl⟩ | exact rfl) ?_
  refine .seq ?_
  refine .run zz0 (by simp [*, -vcopy, -preps, vcopy_ints] <;> first | exact ⟨rfl, rfl⟩ | exact rfl) ?_
  refine .seq ?_
  refine .run zz0 (by simp [*, -vcopy, -preps, vcopy_ints] <;> first | exact ⟨rfl, rfl⟩ | exact rfl) ?_
  refine .ret ?_
  refine ⟨_, _, zz4,(by exact frz_own_int _ _ _ _ rfl), ?_⟩
  first | rfl | (simp [*]; done) | (simp_all; done)
end Go.Am.Ds
end
section
namespace Go.Am.Ds
open Go Go.Am Go.Proofs
set_option maxHeartbeats 4000000
set_option linter.unusedSimpArgs false
set_option linter.unusedVariables false
attribute [local simp] vrun vwanted vyielded vop veval vevals vparts vO vbuiltin vlen vappend velems vcopy vmakeSlice vbuildSlice valloc vbox vmakeMap vload vpartT vpart vstore vfieldAddr vfield vindexAddr vindex vextract vslice vsliceZ vbounds vbnd zeroO vidx vlookup vmget vmapUpdate vdelete vnilq vnilp vnils vbin vsc vsc1 vscs vscl abinOp aint ashift aunOp aconvert amaxs amax2 pvcV pvc pvcs tput tget vargs VHeap.get VHeap.alloc VHeap.put VHeap.drop VHeap.empty vlook vput vdrop psplice pfill preps chunk List.range List.range.loop vresults vresult vresultV frz frzL PV.isF PV.allF PV.scal PV.allS retP subT allFT PV.one PV.ids PV.idsL dropL beq_eq ble_dec blt_dec
theorem p117 (s : List Wit) (p : Wit → Bool) (f : FuncId) (xs ys : List PV) (hl : s.length < 4294967296) (hw : ∀ w ∈ s, w.slips.length < 4294967296 ∧ w.mended.length < 4294967296 ∧ w.models.length < 4294967296) (hx : PV.allF xs = true) (hy : PV.allF ys = true) (hcf : ∀ cs w, (callFunc f cs).run Tryz.prog w = .ok (.enter f cs) w) (hp : ∀ a ∈ s, VPure Tryz.prog f (xs ++ [encW a] ++ ys) fun r => r = .bool (p a)) : VPure Tryz.prog 117 [encS s, .func f xs ys] fun r => r = encS (s.filter p) := by
  refine .of_body Tryz.func117 rfl rfl ?_
  refine .seq ?_
  refine .rn ?_
  refine .seq ?_
  refine .rn ?_
  refine .seq ?_
  refine .seq ?_
  refine .rn ?_
  refine .block ?_
  refine .loopS (fun i : Nat => ([(1, .func f xs ys),(4, .ptr 1 0),(5, .ptr 2 0),(9, .vec (s.map encW)),(10, .int .i64 s.length),(11, .int .i64 i)], ⟨4,[(3, .grow 7 (((s.take i).filter p).map encW)),(2, .box [.grow 3 ((s.take i).filter p).length true]),(1, .box [.sl0])]⟩)) (fun i => i ≤ s.length) (fun i => s.length - i) 0 (by simp) (.mk [] [] zz2 zz3 rfl rfl rfl) ?_
  rintro i hi
  simp only at hi ⊢
  have hlen : ((s.take i).filter p).length ≤ i := Nat.le_trans (List.length_filter_le _ _) (by simp; omega)
  refine .seq ?_
  refine .rn ?_
  refine .seq ?_
  refine .condS rfl (fun c12 => ?_) (fun c12 => ?_)
  · try simp at c12
    have hw2 : IntKind.i64.wrap ((i : Int) + 1) = (i : Int) + 1 := wrap64 (by omega) (by omega)
    have hp := hp s[i] (List.getElem_mem c12)
    obtain ⟨hw3, hw4, hw5⟩ := hw s[i] (List.getElem_mem c12)
    have hT := take_succ_filter p s i c12
    have hb : ((s.take i).filter p).length + 1 ≤ 4294967296 := by omega
    have hE : encW s[i] = .agg [.int .i64 s[i].id, .int .i64 s[i].known, ints s[i].slips, ints s[i].mended, ints s[i].models, .int .i64 s[i].lo, .int .i64 s[i].hi] := rfl
    refine .skip ?_
    refine .seq ?_
    refine .block ?_
    refine .seq ?_
    refine .rn ?_
    refine .seq ?_
    refine .regionL [0,1,2] rfl zz0 ?_
    refine .rn [0,1] [2] ?_
    refine .step rfl rfl (.pure rfl rfl rfl hcf (by decide) (hp) (by first | rfl | simp [*]) ?_)
    rintro _ rfl
    refine .done ?_
    refine .condS rfl (fun c17 => ?_) (fun c17 => ?_)
    · try simp at c17
      rw [if_pos c17] at hT
      refine .seq ?_
      refine .drawn (ms := [0,1,3,0,8,31,0,64,255,223,1023,2047,4095,8191,16383]) (W := [2,5,8,10,12,14]) (items := [.op 0, .op 1, .op 3, .op 4, .op 6, .op 7, .op 2, .ck 7, .ck 4, .op 9, .op 5, .ck 7, .op 8, .op 10, .op 11, .op 12, .op 13, .op 14]) rfl zz0 zz0 zz0 ?_
      refine .rd rfl rfl (by decide) rfl (by decide) zz1 ?_   -- 0
      refine .rd rfl rfl (by decide) rfl (by decide) zz1 ?_   -- 1
      refine .rd rfl rfl (by decide) rfl (by decide) zz1 ?_   -- 3
      refine .rd rfl rfl (by decide) rfl (by decide) zz1 ?_   -- 4
      refine .rd rfl rfl (by decide) rfl (by decide) zz1 ?_   -- 6
      refine .rd rfl rfl (by decide) rfl (by decide) zz1 ?_   -- 7
      refine .wr rfl rfl (by decide) (.pure rfl rfl rfl Tryz.call170 (by decide) (p170 s[i].slips hw3) (by first | rfl | simp [*]) ?_)
      rintro _ rfl
      refine .ck rfl zz0 ?_   -- 7
      refine .ck rfl zz0 ?_   -- 4
      refine .rd rfl rfl (by decide) rfl (by decide) zz1 ?_   -- 9
      refine .wr rfl rfl (by decide) (.pure rfl rfl rfl Tryz.call170 (by decide) (p170 s[i].mended hw4) (by first | rfl | simp [*]) ?_)
      rintro _ rfl
      refine .ck rfl zz0 ?_   -- 7
      refine .wr rfl rfl (by decide) (.pure rfl rfl rfl Tryz.call170 (by decide) (p170 s[i].models hw5) (by first | rfl | simp [*]) ?_)
      rintro _ rfl
      refine .wr rfl rfl (by decide) (.vop zz1 (by decide) ?_)   -- 10
      refine .rd rfl rfl (by decide) rfl (by decide) zz1 ?_   -- 11
      refine .wr rfl rfl (by decide) (.vop zz1 (by decide) ?_)   -- 12
      refine .rd rfl rfl (by decide) rfl (by decide) zz1 ?_   -- 13
      refine .wr rfl rfl (by decide) (.vop zz1 (by decide) ?_)   -- 14
      refine .done ?_
      refine .rn ?_
      refine .rn ?_
      refine ⟨i + 1,zz5,zz5,(.mk [] [(3,6)] zz2 zz3 rfl rfl rfl)⟩
    · try simp at c17
      rw [if_neg (by simp [c17])] at hT
      refine .skip ?_
      refine .rn ?_
      refine ⟨i + 1,zz5,zz5,(.mk [] [] zz2 zz3 rfl rfl rfl)⟩
  · try simp at c12
    have : i = s.length := by omega
    subst this
    refine .exit ?_
    refine .seq ?_
    refine .rn ?_
    refine .ret ?_
    refine ⟨_, _, zz4,zz4, ?_⟩
    simp [encS]
theorem p118 (w : Wit) (ks : List Int) : VPure Tryz.prog 118 [encW w, .vp [.vmap (mp ks)]] fun r => r = .bool (!decide (w.id ∈ ks)) := by
  refine .of_body Tryz.func118 rfl rfl ?_
  refine .seq ?_
  refine .rn ?_
  refine .seq ?_
  refine .regionL [0,1,2,3,4,5] rfl zz0 ?_
  refine .rn [0,1,2] [3,4,5] ?_
  refine .step rfl rfl (.pure rfl rfl rfl Tryz.call115 (by decide) (p115 ks w.id) (by first | rfl | simp [*]) ?_)
  rintro _ rfl
  refine .rn [4,5] [] ?_
  refine .done ?_
  refine .ret ?_
  refine ⟨_, _, zz4,zz4, ?_⟩
  first | rfl | (simp [*]; done) | (simp_all; done)
end Go.Am.Ds
end
section
namespace Go.Am.Ds
open Go Go.Am Go.Proofs
set_option maxHeartbeats 4000000
set_option linter.unusedSimpArgs false
set_option linter.unusedVariables false
attribute [local simp] vrun vwanted vyielded vop veval vevals vparts vO vbuiltin vlen vappend velems vcopy vmakeSlice vbuildSlice valloc vbox vmakeMap vload vpartT vpart vstore vfieldAddr vfield vindexAddr vindex vextract vslice vsliceZ vbounds vbnd zeroO vidx vlookup vmget vmapUpdate vdelete vnilq vnilp vnils vbin vsc vsc1 vscs vscl abinOp aint ashift aunOp aconvert amaxs amax2 pvcV pvc pvcs tput tget vargs VHeap.get VHeap.alloc VHeap.put VHeap.drop VHeap.empty vlook vput vdrop psplice pfill preps chunk List.range List.range.loop vresults vresult vresultV frz frzL PV.isF PV.allF PV.scal PV.allS retP subT allFT PV.one PV.ids PV.idsL dropL beq_eq ble_dec blt_dec
theorem p36a (s : List Wit) (ids : List Int) (hl : s.length < 4294967296) (hi : ids.length < 4294967296) : VPure Tryz.prog 36 [encS s, ints ids] fun r => r = .tup [if checkS s = 0 then encS (s.filter fun w => !decide (w.id ∈ setK [ids])) else .agg [.sl0], .int .i64 (checkS s)] := by
  refine .of_body Tryz.func36 rfl rfl ?_
  refine .seq ?_
  refine .rn ?_
  refine .seq ?_
  refine .seq ?_
  refine .regionL [0,1,2] rfl zz0 ?_
  refine .rn [0] [1,2] ?_
  refine .step rfl rfl (.pure rfl rfl rfl Tryz.call35 (by decide) (p35 s hl) (by first | rfl | simp [*]) ?_)
  rintro _ rfl
  refine .rn [2] [] ?_
  refine .done ?_
  refine .seq ?_
  refine .rn ?_
  refine .condS rfl (fun c11 => ?_) (fun c11 => ?_)
  · try simp at c11
    refine .seq ?_
    refine .rn ?_
    refine .ret ?_
    refine ⟨_, _, zz4,zz4, ?_⟩
    simp [c11]
  · try simp at c11
    refine .skip ?_
    refine .seq ?_
    refine .regionL [0,1,2,3,4] rfl zz0 ?_
    refine .rn [0,1] [2,3,4] ?_
    refine .step rfl rfl (.take rfl rfl rfl Tryz.call116 (by decide) zz4 (p116 [ids] (by simp) (by simpa using hi)) ?_)
    rintro _ rfl
    refine .rn [3,4] [] ?_
    refine .done ?_
    refine .seq ?_
    refine .regionL [0,1,2,3,4] rfl zz0 ?_
    refine .rn [0,1] [2,3,4] ?_
    refine .step rfl rfl (.take rfl rfl rfl Tryz.call117 (by decide) zz4 (p117 s (fun w => !decide (w.id ∈ setK [ids])) 118 [] [.vp [.vmap (mp (setK [ids]))]] hl (checkS_lens c11) rfl rfl Tryz.call118 (fun w _ => p118 w _)) ?_)
    rintro _ rfl
    refine .rn [3,4] [] ?_
    refine .done ?_
    refine .ret ?_
    refine ⟨_, _, zz4,zz4, ?_⟩
    simp [c11, encS]
theorem p36 (s : List Wit) (ids : List Int) (hl : s.length < 4294967296) (hi : ids.length < 4294967296) : VPure Tryz.prog 36 [encS s, ints ids] fun r => r = .tup [encS (if checkS s = 0 then s.filter fun w => !decide (w.id ∈ setK [ids]) else []), .int .i64 (checkS s)] := by
  refine (p36a s ids hl hi).alt ?_
  rintro _ rfl
  refine ⟨_, ?_, ?_, rfl⟩
  · refine .tup' (.cons ?_ (.cons (.same _ rfl) .nil))
    split
    · exact .same _ (by simp)
    · exact .agg' (.cons .sl0v .nil)
  · simp
end Go.Am.Ds
end
section
namespace Go.Am.Ds
open Go Go.Am Go.Proofs
set_option maxHeartbeats 4000000
set_option linter.unusedSimpArgs false
set_option linter.unusedVariables false
attribute [local simp] vrun vwanted vyielded vop veval vevals vparts vO vbuiltin vlen vappend velems vcopy vmakeSlice vbuildSlice valloc vbox vmakeMap vload vpartT vpart vstore vfieldAddr vfield vindexAddr vindex vextract vslice vsliceZ vbounds vbnd zeroO vidx vlookup vmget vmapUpdate vdelete vnilq vnilp vnils vbin vsc vsc1 vscs vscl abinOp aint ashift aunOp aconvert amaxs amax2 pvcV pvc pvcs tput tget vargs VHeap.get VHeap.alloc VHeap.put VHeap.drop VHeap.empty vlook vput vdrop psplice pfill preps chunk List.range List.range.loop vresults vresult vresultV frz frzL PV.isF PV.allF PV.scal PV.allS retP subT allFT PV.one PV.ids PV.idsL dropL beq_eq ble_dec blt_dec
attribute [local simp] zW tup2
def kinE : KinR → Int
  | .err e => e
  | _ => 0
end Go.Am.Ds
end
section
namespace Go.Am.Ds
open Go Go.Am Go.Proofs
set_option maxHeartbeats 4000000
set_option linter.unusedSimpArgs false
set_option linter.unusedVariables false
attribute [local simp] vrun vwanted vyielded vop veval vevals vparts vO vbuiltin vlen vappend velems vcopy vmakeSlice vbuildSlice valloc vbox vmakeMap vload vpartT vpart vstore vfieldAddr vfield vindexAddr vindex vextract vslice vsliceZ vbounds vbnd zeroO vidx vlookup vmget vmapUpdate vdelete vnilq vnilp vnils vbin vsc vsc1 vscs vscl abinOp aint ashift aunOp aconvert amaxs amax2 pvcV pvc pvcs tput tget vargs VHeap.get VHeap.alloc VHeap.put VHeap.drop VHeap.empty vlook vput vdrop psplice pfill preps chunk List.range List.range.loop vresults vresult vresultV frz frzL PV.isF PV.allF PV.scal PV.allS retP subT allFT PV.one PV.ids PV.idsL dropL beq_eq ble_dec blt_dec
attribute [local simp] zW tup2
theorem p108' (s : List Wit) (hl : s.length < 4294967296) : VPure Tryz.prog 108 [encS s] fun r => r = .tup [.vec ((chL s).map encC), .int .i64 (chE s)] := VPure.soft (p108 s hl) rfl
end Go.Am.Ds
end
section
namespace Go.Am.Ds
open Go Go.Am Go.Proofs

theorem checkL_nodup : ∀ {l : List Wit} {seen : List Int}, checkL l seen = 0 → (l.map Wit.id).Nodup ∧ ∀ w ∈ l, w.id ∉ seen
  | [], _, _ => ⟨.nil, fun w hw => by cases hw⟩
  | a :: r, seen, h => by
    simp only [checkL] at h
    split at h
    · split at h
      · simp at h
      · rename_i hn
        obtain ⟨h1, h2⟩ := checkL_nodup h
        refine ⟨?_, fun w hw => ?_⟩
        · rw [List.map_cons, List.nodup_cons]
          refine ⟨fun hm => ?_, h1⟩
          obtain ⟨w, hw, he⟩ := List.mem_map.1 hm
          exact h2 w hw ((mem_insU _ _ _).2 (.inr he))
        · rcases List.mem_cons.1 hw with rfl | hw
          · exact hn
          · exact fun hs => h2 w hw ((mem_insU _ _ _).2 (.inl hs))
    · rename_i h0; exact absurd h h0
theorem checkS_nodup {s : List Wit} (h : checkS s = 0) : (s.map Wit.id).Nodup := by
  unfold checkS at h
  split at h
  · simp at h
  · exact (checkL_nodup h).1
theorem checkS_pos {s : List Wit} (h : checkS s = 0) : ∀ w ∈ s, 0 < w.id := fun w hw => by
  have := (checkS_ok h).2 w hw
  unfold witE at this
  split at this
  · cases this
  · omega

theorem strict_eq : ∀ {l m : List Int}, l.Pairwise (· < ·) → m.Pairwise (· < ·) → (∀ x, x ∈ l ↔ x ∈ m) → l = m
  | [],[], _, _, _ => rfl
  | [], b :: s, _, _, h => absurd ((h b).2 List.mem_cons_self) (by simp)
  | a :: r, [], _, _, h => absurd ((h a).1 List.mem_cons_self) (by simp)
  | a :: r, b :: s, hl, hm, h => by
    rw [List.pairwise_cons] at hl hm
    have h1 : a = b := by
      rcases List.mem_cons.1 ((h a).1 List.mem_cons_self) with h1 | h1
      · exact h1
      · rcases List.mem_cons.1 ((h b).2 List.mem_cons_self) with h2 | h2
        · exact h2.symm
        · have := hl.1 b h2
          have := hm.1 a h1
          omega
    subst h1
    rw [strict_eq hl.2 hm.2 fun x => ⟨fun hx => ?_, fun hx => ?_⟩]
    · rcases List.mem_cons.1 ((h x).1 (List.mem_cons_of_mem _ hx)) with rfl | h2
      · have := hl.1 x hx; omega
      · exact h2
    · rcases List.mem_cons.1 ((h x).2 (List.mem_cons_of_mem _ hx)) with rfl | h2
      · have := hm.1 x hx; omega
      · exact h2

theorem idsS_sorted {s : List Wit} (h : (s.map Wit.id).Nodup) : (idsS s).Pairwise (· < ·) := by
  unfold idsS
  have h1 := List.pairwise_mergeSort (le := fun x y : Int => decide (x ≤ y)) (fun a b c h1 h2 => by simp only [decide_eq_true_eq] at *; omega) (fun a b => by simp only [Bool.or_eq_true, decide_eq_true_eq]; omega) (s.map Wit.id)
  have h2 : ((s.map Wit.id).mergeSort fun x y => decide (x ≤ y)).Nodup := (List.mergeSort_perm _ _).nodup_iff.2 h
  have h3 := h1.and h2
  exact h3.imp fun ⟨h4, h5⟩ => by
    simp only [decide_eq_true_eq] at h4
    rcases Int.lt_or_eq_of_le h4 with h6 | h6
    · exact h6
    · exact absurd h6 h5
theorem fold_spec : ∀ (l : List (Int × Int)) (d : List (Int × Int)) (x : List Int × Int),(d = [] ∧ x.1 = [] ∨ x.1 ≠ [] ∧ (∀ y ∈ d, x.2 ≤ y.2) ∧ ∃ y ∈ d, y.2 = x.2) →
    (d ++ l = [] ∧ (l.foldl stepC x).1 = [] ∨ (l.foldl stepC x).1 ≠ [] ∧ (∀ y ∈ d ++ l, (l.foldl stepC x).2 ≤ y.2) ∧ ∃ y ∈ d ++ l, y.2 = (l.foldl stepC x).2)
  | [], d, x, h => by simpa using h
  | y :: r, d, x, h => by
    have ih := fold_spec r (d ++ [y]) (stepC x y) (.inr (by
      unfold stepC
      split
      · rename_i h1
        rcases h with ⟨_, h2⟩ | ⟨h2, h3, z, h4, h5⟩
        · exact absurd h2 h1.1
        · refine ⟨h2, fun w hw => ?_, z, List.mem_append_left _ h4, h5⟩
          rcases List.mem_append.1 hw with hw | hw
          · exact h3 w hw
          · rw [List.mem_singleton] at hw; rw [hw]; omega
      · rename_i h1
        split
        · rename_i h2
          refine ⟨by simp, fun w hw => ?_, y, by simp, rfl⟩
          rcases List.mem_append.1 hw with hw | hw
          · rcases h with ⟨h3, _⟩ | ⟨h3, h4, _⟩
            · rw [h3] at hw; cases hw
            · rcases h2 with h2 | h2
              · exact absurd h2 h3
              · have := h4 w hw; simp only; omega
          · rw [List.mem_singleton] at hw; rw [hw]; exact Int.le_refl _
        · rename_i h2
          have h3 : x.1 ≠ [] := fun h4 => h2 (.inl h4)
          have h4 : ¬ y.2 < x.2 := fun h4 => h2 (.inr h4)
          have h5 : ¬ x.2 < y.2 := fun h5 => h1 ⟨h3, h5⟩
          rcases h with ⟨_, h6⟩ | ⟨_, h7, z, h8, h9⟩
          · exact absurd h6 h3
          · refine ⟨by simp, fun w hw => ?_, z, List.mem_append_left _ h8, h9⟩
            rcases List.mem_append.1 hw with hw | hw
            · exact h7 w hw
            · rw [List.mem_singleton] at hw; rw [hw]; simp only; omega))
    rw [List.append_assoc, List.singleton_append] at ih
    rw [List.foldl_cons]
    exact ih
theorem choF_spec (s : List Wit) (c : Wit) : (parS s c = [] ∧ (choF s c).1 = []) ∨ ((choF s c).1 ≠ [] ∧ (∀ y ∈ parS s c, (choF s c).2 ≤ y.2) ∧ ∃ y ∈ parS s c, y.2 = (choF s c).2) := by
  have := fold_spec (parS s c) [] ([],0) (.inl ⟨rfl, rfl⟩)
  simpa [choF] using this
end Go.Am.Ds
end
section
namespace Go.Am.Ds
open Go Go.Am Go.Proofs
set_option maxRecDepth 100000
set_option maxHeartbeats 4000000
set_option linter.unusedSimpArgs false
set_option linter.unusedVariables false
attribute [local simp] vrun vwanted vyielded vop vopA vputAll VHeap.back hidI hidF backL bm Nat.testBit_eq_decide_div_mod_eq veval vevals vparts vO vbuiltin vlen vappend velems vcopy vmakeSlice vbuildSlice valloc vbox vmakeMap vload vpartT vpart vstore vfieldAddr vfield vindexAddr vindex vextract vslice vsliceZ vbounds vbnd zeroO vidx vlookup vmget vmapUpdate vdelete vclear vnilq vnilp vnils vbin vsc vsc1 vscs vscl abinOp aint ashift aunOp aconvert amaxs amax2 pvcV pvc pvcs tput tget vargs VHeap.get VHeap.alloc VHeap.put VHeap.drop VHeap.empty vlook vput vdrop psplice pfill preps chunk List.range List.range.loop vresults vresult vresultV frz frzL PV.isF PV.allF PV.scal PV.allS retP subT allFT PV.one PV.ids PV.idsL dropL beq_eq ble_dec blt_dec
def longT (w : Wit) : Bool := decide (8 < w.slips.length) || decide (30 < w.mended.length) || decide (24 < w.models.length)
def smallS (s : List Wit) : Bool := !(s.any longT) && decide (s.length ≤ 12)
theorem p21 (s : List Wit) (hl : s.length < 4611686018427387904) : VPure Tryz.prog 21 [encS s] fun r => r = .bool (smallS s) := by
  refine .of_body Tryz.func21 rfl rfl ?_
  refine .seq ?_
  refine .rn ?_
  refine .seq ?_
  refine .seq ?_
  refine .rn ?_
  refine .block ?_
  refine .loopS (fun i : Nat => ([(1, .ptr 0 0),(3, .int .i64 i)], ⟨1,[(0, .box [.vec (s.map encW)])]⟩)) (fun i => i ≤ s.length ∧ (s.take i).any longT = false) (fun i => s.length - i) 0 (by simp) (.mk [] [] zz14 zz15 rfl rfl rfl) ?_
  rintro i ⟨hi, hr⟩
  simp only at hi hr ⊢
  refine .seq ?_
  refine .seq ?_
  refine .rn ?_
  refine .condS rfl (fun c8 => ?_) (fun c8 => ?_)
  · try simp at c8
    have hw2 : IntKind.i64.wrap ((i : Int) + 1) = (i : Int) + 1 := wrap64 (by omega) (by omega)
    have hA := take_succ_any longT s i c8
    rw [hr] at hA
    refine .skip ?_
    refine .seq ?_
    refine .block ?_
    refine .seq ?_
    refine .regionL [0,1,2,3,4,5,6,7,8,9,10,11,12,13,14,15,16,17,18,19,20,21,22,23,24,25,26,27] rfl zz0 ?_
    refine .rn [0,1,2,3,4,5,6,7,8] [9,10,11,12,13,14,15,16,17,18,19,20,21,22,23,24,25,26,27] ?_
    refine .split (t := 19) rfl (fun c19 => ?_) (fun c19 => ?_)
    · try rw [c19]
      try simp at c19
      refine .rn [9,10,11,12,13,14,15,16,17,18,19,20,21,22,23,24,25,26,27] [] ?_
      refine .done ?_
      refine .condT rfl ?_
      refine .seq ?_
      refine .rn ?_
      refine .ret ?_
      refine ⟨_, _, zz4,zz4, ?_⟩
      have h : longT s[i] = true := by unfold longT; simp; omega
      unfold smallS; rw [any_get longT s i c8 h]; rfl
    · try rw [c19]
      try simp at c19
      refine .rn [9,10,11,12,13,14,15,16,17,18] [19,20,21,22,23,24,25,26,27] ?_
      refine .split (t := 29) rfl (fun c29 => ?_) (fun c29 => ?_)
      · try rw [c29]
        try simp at c29
        refine .rn [19,20,21,22,23,24,25,26,27] [] ?_
        refine .done ?_
        refine .condT rfl ?_
        refine .seq ?_
        refine .rn ?_
        refine .ret ?_
        refine ⟨_, _, zz4,zz4, ?_⟩
        have h : longT s[i] = true := by unfold longT; simp; omega
        unfold smallS; rw [any_get longT s i c8 h]; rfl
      · try rw [c29]
        try simp at c29
        refine .rn [19,20,21,22,23,24,25,26,27] [] ?_
        refine .done ?_
        refine .condS rfl (fun c38 => ?_) (fun c38 => ?_)
        · try simp at c38
          refine .seq ?_
          refine .rn ?_
          refine .ret ?_
          refine ⟨_, _, zz4,zz4, ?_⟩
          have h : longT s[i] = true := by unfold longT; simp; omega
          unfold smallS; rw [any_get longT s i c8 h]; rfl
        · try simp at c38
          refine .skip ?_
          refine .rn ?_
          have h : longT s[i] = false := by unfold longT; simp; omega
          rw [h] at hA
          refine ⟨i + 1, ⟨zz5, by simpa using hA⟩, zz5,(.mk [] [] zz14 zz15 rfl rfl rfl)⟩
  · try simp at c8
    have hi2 : i = s.length := by omega
    subst hi2
    rw [List.take_length] at hr
    refine .exit ?_
    refine .seq ?_
    refine .rn ?_
    refine .ret ?_
    refine ⟨_, _, zz4,zz4, ?_⟩
    unfold smallS; rw [hr]; simp; omega
end Go.Am.Ds
end
section
namespace Go.Am.Ds
open Go Go.Am Go.Proofs
set_option maxRecDepth 100000
set_option maxHeartbeats 4000000
set_option linter.unusedSimpArgs false
set_option linter.unusedVariables false
attribute [local simp] vrun vwanted vyielded vop vopA vputAll VHeap.back hidI hidF backL bm Nat.testBit_eq_decide_div_mod_eq veval vevals vparts vO vbuiltin vlen vappend velems vcopy vmakeSlice vbuildSlice valloc vbox vmakeMap vload vpartT vpart vstore vfieldAddr vfield vindexAddr vindex vextract vslice vsliceZ vbounds vbnd zeroO vidx vlookup vmget vmapUpdate vdelete vclear vnilq vnilp vnils vbin vsc vsc1 vscs vscl abinOp aint ashift aunOp aconvert amaxs amax2 pvcV pvc pvcs tput tget vargs VHeap.get VHeap.alloc VHeap.put VHeap.drop VHeap.empty vlook vput vdrop psplice pfill preps chunk List.range List.range.loop vresults vresult vresultV frz frzL PV.isF PV.allF PV.scal PV.allS retP subT allFT PV.one PV.ids PV.idsL dropL beq_eq ble_dec blt_dec
theorem chL_ok {s : List Wit} (h : chE s = 0) : chL s = s.map (choF s) := by unfold chL; rw [if_pos h]
theorem chE_ok {s : List Wit} (h : chE s = 0) : checkS s = 0 ∧ ∀ c ∈ s, (choF s c).1 ≠ [] := by
  unfold chE at h
  split at h
  · split at h
    · cases h
    · rename_i h1 h2; exact ⟨h1, fun c hc h3 => h2 ⟨c, hc, h3⟩⟩
  · contradiction
theorem chL_len {s : List Wit} (h : chE s = 0) : (chL s).length = s.length := by rw [chL_ok h]; simp
end Go.Am.Ds
end
section
namespace Go.Am.Ds
open Go Go.Am Go.Proofs
set_option maxRecDepth 100000
set_option maxHeartbeats 4000000
set_option linter.unusedSimpArgs false
set_option linter.unusedVariables false
attribute [local simp] vrun vwanted vyielded vop vopA vputAll VHeap.back hidI hidF backL bm Nat.testBit_eq_decide_div_mod_eq veval vevals vparts vO vbuiltin vlen vappend velems vcopy vmakeSlice vbuildSlice valloc vbox vmakeMap vload vpartT vpart vstore vfieldAddr vfield vindexAddr vindex vextract vslice vsliceZ vbounds vbnd zeroO vidx vlookup vmget vmapUpdate vdelete vclear vnilq vnilp vnils vbin vsc vsc1 vscs vscl abinOp aint ashift aunOp aconvert amaxs amax2 pvcV pvc pvcs tput tget vargs VHeap.get VHeap.alloc VHeap.put VHeap.drop VHeap.empty vlook vput vdrop psplice pfill preps chunk List.range List.range.loop vresults vresult vresultV frz frzL PV.isF PV.allF PV.scal PV.allS retP subT allFT PV.one PV.ids PV.idsL dropL beq_eq ble_dec blt_dec
theorem p99g (s : List Wit) (hl : s.length < 4294967296) (hne : 0 < s.length) : VCall Tryz.prog 99 [encS s] VHeap.empty fun v vh' => ∃ i nl, v = .grow i (idsS s).length nl ∧ vh'.get i = some (.grow 1 ((idsS s).map (.int .i64))) := by
  refine .of_body Tryz.func99 rfl rfl ?_
  refine .seq ?_
  refine .rn ?_
  refine .seq ?_
  refine .rn ?_
  refine .seq ?_
  refine .seq ?_
  refine .rn ?_
  refine .block ?_
  refine .loopS (fun i : Nat => ([(3, .grow 1 i true),(7, .vec (s.map encW)),(8, .int .i64 s.length),(9, .int .i64 i)], ⟨2,[(1, .grow 1 (((s.take i).map Wit.id).map (.int .i64)))]⟩)) (fun i => i ≤ s.length) (fun i => s.length - i) 0 (by simp) (.mk [] [] zz14 zz15 rfl rfl rfl) ?_
  rintro i hi
  simp only at hi ⊢
  refine .seq ?_
  refine .rn ?_
  refine .seq ?_
  refine .condS rfl (fun c10 => ?_) (fun c10 => ?_)
  · try simp at c10
    have hw2 : IntKind.i64.wrap ((i : Int) + 1) = (i : Int) + 1 := wrap64 (by omega) (by omega)
    have hT := take_succ_map Wit.id s i c10
    have hb : i + 1 ≤ 4294967296 := by omega
    have hE : encW s[i] = .agg [.int .i64 s[i].id, .int .i64 s[i].known, ints s[i].slips, ints s[i].mended, ints s[i].models, .int .i64 s[i].lo, .int .i64 s[i].hi] := rfl
    refine .skip ?_
    refine .seq ?_
    refine .block ?_
    refine .seq ?_
    refine .rn ?_
    refine .rn ?_
    refine .rn ?_
    refine ⟨i + 1,zz5,zz5,(.mk [] [(1,4)] zz14 zz15 rfl rfl rfl)⟩
  · try simp at c10
    have : i = s.length := by omega
    subst this
    have hil := idsS_len s
    refine .exit ?_
    refine .seq ?_
    refine .regionL [0,1] rfl zz0 ?_
    refine .rn [0] [1] ?_
    refine .step rfl rfl (.call rfl rfl rfl Tryz.call159 (by decide) (((VCall.sortGrow (zs := s.map Wit.id) lsort (by simp [List.take_of_length_le]) (by simp))).mono ?_))
    rintro _ _ ⟨rfl, rfl⟩
    refine .done ?_
    refine .seq ?_
    refine .rn ?_
    refine .ret ?_
    exact ⟨_, zz4,1, true, (by rw [hil]; rfl), by simp [idsS]⟩
end Go.Am.Ds
end
section
namespace Go.Am.Ds
open Go Go.Am Go.Proofs
theorem checkL_sub : ∀ {l' l : List Wit}, l'.Sublist l → ∀ {seen seen' : List Int},(∀ x ∈ seen', x ∈ seen) → checkL l seen = 0 → checkL l' seen' = 0
  | _, _, .slnil, _, _, _, _ => rfl
  | _, _, .cons (l₂ := r) w hs, seen, seen', hm, h => by
    simp only [checkL] at h
    split at h
    · split at h
      · cases h
      · exact checkL_sub hs (fun x hx => (mem_insU _ _ _).2 (.inl (hm x hx))) h
    · rename_i h0; exact absurd h h0
  | _, _, .cons_cons (l₁ := r') (l₂ := r) w hs, seen, seen', hm, h => by
    simp only [checkL] at h ⊢
    split at h
    · rename_i h0
      rw [if_pos h0]
      split at h
      · cases h
      · rename_i hn
        rw [if_neg (fun h1 => hn (hm _ h1))]
        refine checkL_sub hs (fun x hx => ?_) h
        rcases (mem_insU _ _ _).1 hx with h1 | h1
        · exact (mem_insU _ _ _).2 (.inl (hm x h1))
        · exact (mem_insU _ _ _).2 (.inr h1)
    · rename_i h0; exact absurd h h0
theorem checkS_filter {s : List Wit} (h : checkS s = 0) (p : Wit → Bool) : checkS (s.filter p) = 0 := by
  unfold checkS at h ⊢
  split at h
  · cases h
  · have := List.length_filter_le p s
    rw [if_neg (by omega)]
    exact checkL_sub List.filter_sublist (fun x hx => hx) h
theorem getW_own : ∀ {s : List Wit},(s.map Wit.id).Nodup → ∀ {w : Wit}, w ∈ s → getW s w.id = some w
  | a :: r, hn, w, hw => by
    rw [List.map_cons, List.nodup_cons] at hn
    unfold getW
    rw [List.find?_cons]
    rcases List.mem_cons.1 hw with rfl | hw
    · simp
    · have : a.id ≠ w.id := fun h => hn.1 (h ▸ List.mem_map_of_mem hw)
      rw [show decide (a.id = w.id) = false from decide_eq_false this]
      exact getW_own hn.2 hw
end Go.Am.Ds
end
section
namespace Go.Am.Ds
open Go Go.Am Go.Proofs
set_option maxRecDepth 100000
set_option maxHeartbeats 4000000
set_option linter.unusedSimpArgs false
set_option linter.unusedVariables false
attribute [local simp] vrun vwanted vyielded vop vopA vputAll VHeap.back hidI hidF backL bm Nat.testBit_eq_decide_div_mod_eq veval vevals vparts vO vbuiltin vlen vappend velems vcopy vmakeSlice vbuildSlice valloc vbox vmakeMap vload vpartT vpart vstore vfieldAddr vfield vindexAddr vindex vextract vslice vsliceZ vbounds vbnd zeroO vidx vlookup vmget vmapUpdate vdelete vclear vnilq vnilp vnils vbin vsc vsc1 vscs vscl abinOp aint ashift aunOp aconvert amaxs amax2 pvcV pvc pvcs tput tget vargs VHeap.get VHeap.alloc VHeap.put VHeap.drop VHeap.empty vlook vput vdrop psplice pfill preps chunk List.range List.range.loop vresults vresult vresultV frz frzL PV.isF PV.allF PV.scal PV.allS retP subT allFT PV.one PV.ids PV.idsL dropL beq_eq ble_dec blt_dec
theorem smallS_len {s : List Wit} (h : smallS s = true) : s.length ≤ 12 := by
  unfold smallS at h
  simp only [Bool.and_eq_true, decide_eq_true_eq] at h
  exact h.2
end Go.Am.Ds
end
section
namespace Go.Am.Ds
open Go Go.Am Go.Proofs
set_option maxRecDepth 100000
set_option maxHeartbeats 4000000
set_option linter.unusedSimpArgs false
set_option linter.unusedVariables false
attribute [local simp] vrun vwanted vyielded vop vopA vputAll VHeap.back hidI hidF backL bm Nat.testBit_eq_decide_div_mod_eq veval vevals vparts vO vbuiltin vlen vappend velems vcopy vmakeSlice vbuildSlice valloc vbox vmakeMap vload vpartT vpart vstore vfieldAddr vfield vindexAddr vindex vextract vslice vsliceZ vbounds vbnd zeroO vidx vlookup vmget vmapUpdate vdelete vclear vnilq vnilp vnils vbin vsc vsc1 vscs vscl abinOp aint ashift aunOp aconvert amaxs amax2 pvcV pvc pvcs tput tget vargs VHeap.get VHeap.alloc VHeap.put VHeap.drop VHeap.empty vlook vput vdrop psplice pfill preps chunk List.range List.range.loop vresults vresult vresultV frz frzL PV.isF PV.allF PV.scal PV.allS retP subT allFT PV.one PV.ids PV.idsL dropL beq_eq ble_dec blt_dec
def encK (x : Int × Int) : PV := .agg [.int .i64 x.1, .int .i64 x.2]
@[simp] theorem allSz_encK (l : List (Int × Int)) : allSz 2 (l.map encK) = true := allSz_map (f := encK) (n := 2) (fun _ => rfl) l
@[simp] theorem allOne_encK (l : List (Int × Int)) : allOne (l.map encK) = true := allOne_map (f := encK) (fun _ => rfl) l
theorem take_succ_mem {l : List Int} {n : Int} {i : Nat} (h : i < l.length) (h1 : n ∉ l.take i) (h2 : l[i] ≠ n) : n ∉ l.take (i + 1) := by
  rw [List.take_succ_eq_append_getElem h]
  intro h3
  rcases List.mem_append.1 h3 with h3 | h3
  · exact h1 h3
  · rw [List.mem_singleton] at h3; exact h2 h3.symm
theorem p46 (l : List Int) (n : Int) (hl : l.length < 4611686018427387904) : VPure Tryz.prog 46 [ints l, .int .i64 n] fun r => r = .bool (decide (n ∈ l)) := by
  refine .of_body Tryz.func46 rfl rfl ?_
  refine .seq ?_
  refine .rn ?_
  refine .seq ?_
  refine .seq ?_
  refine .rn ?_
  refine .block ?_
  refine .loopS (fun i : Nat => ([(0, ints l),(1, .int .i64 n),(5, .int .i64 i)], ⟨0,[]⟩)) (fun i => i ≤ l.length ∧ n ∉ l.take i) (fun i => l.length - i) 0 (by simp) (.mk [] [] zz14 zz15 rfl rfl rfl) ?_
  rintro i ⟨hi, hn⟩
  simp only at hi hn ⊢
  refine .seq ?_
  refine .seq ?_
  refine .rn ?_
  refine .condS rfl (fun c9 => ?_) (fun c9 => ?_)
  · try simp at c9
    have hw2 : IntKind.i64.wrap ((i : Int) + 1) = (i : Int) + 1 := wrap64 (by omega) (by omega)
    refine .skip ?_
    refine .seq ?_
    refine .block ?_
    refine .seq ?_
    refine .rn ?_
    refine .condS rfl (fun c17 => ?_) (fun c17 => ?_)
    · try simp at c17
      refine .seq ?_
      refine .rn ?_
      refine .ret ?_
      refine ⟨_, _, zz4,zz4, ?_⟩
      have : n ∈ l := c17 ▸ List.getElem_mem c9
      simp [this]
    · try simp at c17
      refine .skip ?_
      refine .rn ?_
      refine ⟨i + 1, ⟨c9, take_succ_mem c9 hn c17⟩, zz5,(.mk [] [] zz14 zz15 rfl rfl rfl)⟩
  · try simp at c9
    have : i = l.length := by omega
    subst this
    rw [List.take_length] at hn
    refine .exit ?_
    refine .seq ?_
    refine .rn ?_
    refine .ret ?_
    refine ⟨_, _, zz4,zz4, ?_⟩
    simp [hn]
end Go.Am.Ds
end
section
namespace Go.Am.Ds
open Go Go.Am Go.Proofs
set_option maxRecDepth 100000
set_option maxHeartbeats 4000000
set_option linter.unusedSimpArgs false
set_option linter.unusedVariables false
attribute [local simp] vrun vwanted vyielded vop vopA vputAll VHeap.back hidI hidF backL bm Nat.testBit_eq_decide_div_mod_eq veval vevals vparts vO vbuiltin vlen vappend velems vcopy vmakeSlice vbuildSlice valloc vbox vmakeMap vload vpartT vpart vstore vfieldAddr vfield vindexAddr vindex vextract vslice vsliceZ vbounds vbnd zeroO vidx vlookup vmget vmapUpdate vdelete vclear vnilq vnilp vnils vbin vsc vsc1 vscs vscl abinOp aint ashift aunOp aconvert amaxs amax2 pvcV pvc pvcs tput tget vargs VHeap.get VHeap.alloc VHeap.put VHeap.drop VHeap.empty vlook vput vdrop psplice pfill preps chunk List.range List.range.loop vresults vresult vresultV frz frzL PV.isF PV.allF PV.scal PV.allS retP subT allFT PV.one PV.ids PV.idsL dropL beq_eq ble_dec blt_dec
def cI (s : List Wit) (id : Int) : List Int := match getW s id with
  | some c => (choF s c).1
  | none => []
def kinI (may : Nat → Bool) (s : List Wit) (id : Int) : List (Int × Int) := if may (cI s id).length = true then (cI s id).map fun b => (id, b) else []
def kinP (may : Nat → Bool) (s : List Wit) (k : Nat) : List (Int × Int) := ((idsS s).take k).flatMap (kinI may s)
def kinQ (may : Nat → Bool) (s : List Wit) (id : Int) (j : Nat) : List (Int × Int) := if may (cI s id).length = true then ((cI s id).take j).map fun b => (id, b) else []
def kinT (may : Nat → Bool) (s : List Wit) : List (Int × Int) := if chE s = 0 then (idsS s).flatMap (kinI may s) else []
theorem kinP_succ (may : Nat → Bool) (s : List Wit) (k : Nat) (h : k < (idsS s).length) : kinP may s (k + 1) = kinP may s k ++ kinI may s (idsS s)[k] := by
  unfold kinP; rw [List.take_succ_eq_append_getElem h, List.flatMap_append]; simp
theorem kinQ_all (may : Nat → Bool) (s : List Wit) (id : Int) : kinQ may s id (cI s id).length = kinI may s id := by unfold kinQ kinI; rw [List.take_length]
theorem kinQ_zero (may : Nat → Bool) (s : List Wit) (id : Int) : kinQ may s id 0 = [] := by unfold kinQ; split <;> rfl
theorem kinQ_len (may : Nat → Bool) (s : List Wit) (id : Int) (j : Nat) : (kinQ may s id j).length ≤ j := by
  unfold kinQ; split
  · rw [List.length_map, List.length_take]; omega
  · simp
theorem cI_len (s : List Wit) (id : Int) : (cI s id).length ≤ s.length + 1 := by
  unfold cI
  cases getW s id with
  | none => simp
  | some c =>
    simp only
    rw [← chP_all]
    have := chP_len s c (idsS s).length
    have := idsS_len s
    omega
theorem kinI_len (may : Nat → Bool) (s : List Wit) (id : Int) : (kinI may s id).length ≤ s.length + 1 := by
  have := cI_len s id
  unfold kinI; split
  · rw [List.length_map]; exact this
  · simp
theorem kinP_len (may : Nat → Bool) (s : List Wit) : ∀ k, k ≤ (idsS s).length → (kinP may s k).length ≤ k * (s.length + 1)
  | 0, _ => by simp [kinP]
  | k + 1, h => by
    have h1 := kinP_len may s k (by omega)
    have h2 := kinI_len may s (idsS s)[k]
    rw [kinP_succ may s k (by omega), List.length_append, Nat.succ_mul]
    omega
theorem chL_at {s : List Wit} (h : chE s = 0) {id : Int} {j : Nat} (hj : j < s.length) (hg : getW s id = some s[j]) : ∃ h2 : j < (chL s).length, (chL s)[j] = (cI s id, (choF s s[j]).2) := by
  refine ⟨by rw [chL_len h]; exact hj, ?_⟩
  have aux : ∀ (l : List (List Int × Int)) (e : l = s.map (choF s)) (hl : j < l.length), l[j] = choF s s[j] := by rintro _ rfl _; simp
  rw [aux _ (chL_ok h)]
  unfold cI; rw [hg]
theorem p122 (s : List Wit) (may : Nat → Bool) (f : FuncId) (hl : s.length < 65536) (hcf : ∀ cs w, (callFunc f cs).run Tryz.prog w = .ok (.enter f cs) w) (hp : ∀ n : Nat, n < 65538 → VPure Tryz.prog f ([] ++ [.int .i64 n] ++ []) fun r => r = .bool (may n)) : VPure Tryz.prog 122 [encS s, .func f [] []] fun r => Soft r (.tup [.vec ((kinT may s).map encK), .int .i64 (chE s)]) := by
  refine .of_body Tryz.func122 rfl rfl ?_
  refine .seq ?_
  refine .rn ?_
  refine .seq ?_
  refine .regionL [0,1,2,3,4,5,6] rfl zz0 ?_
  refine .rn [0] [1,2,3,4,5,6] ?_
  refine .step rfl rfl (.pure rfl rfl rfl Tryz.call108 (by decide) (p108' s (by omega)) (by first | rfl | simp [*]) ?_)
  rintro _ rfl
  refine .rn [2,3,4,5,6] [] ?_
  refine .done ?_
  refine .seq ?_
  refine .seq ?_
  refine .rn ?_
  refine .condS rfl (fun c20 => ?_) (fun c20 => ?_)
  · try simp at c20
    refine .seq ?_
    refine .rn ?_
    refine .ret ?_
    refine ⟨_, _, zz4,zz4, ?_⟩
    have e1 : kinT may s = [] := by unfold kinT; rw [if_neg c20]
    rw [e1]
    exact soft_tup (AltL.cons .sl0v (AltL.cons (.same _ rfl) AltL.nil))
  · try simp at c20
    have h24 := (checkS_ok (chE_ok c20).1).1
    refine .skip ?_
    refine .seq ?_
    refine .rn ?_
    refine .seq ?_
    refine .seq ?_
    refine .regionL [0,1,2,3] rfl zz0 ?_
    refine .rn [0] [1,2,3] ?_
    refine .step rfl rfl (.pure rfl rfl rfl Tryz.call99 (by decide) (p99' s (by omega)) (by first | rfl | simp [*]) ?_)
    rintro _ rfl
    refine .rn [2,3] [] ?_
    refine .done ?_
    refine .block ?_
    refine .loopS (fun k : Nat => ([(1, .func f [] []),(2, .ptr 0 0),(6, .vec ((chL s).map encC)),(8, .grow 1 (kinP may s k).length true),(23, ints (idsS s)),(24, .int .i64 (idsS s).length),(25, .int .i64 k)], ⟨2,[(1, .grow 2 ((kinP may s k).map encK)),(0, .box [.vec (s.map encW)])]⟩)) (fun k => k ≤ (idsS s).length) (fun k => (idsS s).length - k) 0 (by simp) (.mk [] [] zz14 zz15 rfl rfl rfl) ?_
    rintro k hk
    simp only at hk ⊢
    refine .seq ?_
    refine .rn ?_
    refine .seq ?_
    refine .condS rfl (fun c26 => ?_) (fun c26 => ?_)
    · try simp at c26
      have hk24 : k < 24 := by have := idsS_len s; omega
      have hw2 : IntKind.i64.wrap ((k : Int) + 1) = (k : Int) + 1 := wrap64 (by omega) (by omega)
      obtain ⟨j, hj, hje, hgb⟩ := getW_some (find_ids (List.getElem_mem c26))
      obtain ⟨hj2, hcj⟩ := chL_at c20 hj hgb
      have hE : encC (cI s (idsS s)[k],(choF s s[j]).2) = .agg [ints (cI s (idsS s)[k]), .int .i64 (choF s s[j]).2] := rfl
      have hpl := kinP_len may s k hk
      have hcl := cI_len s (idsS s)[k]
      have hS := kinP_succ may s k c26
      have hQ0 := kinQ_zero may s (idsS s)[k]
      have hkm : k * (s.length + 1) ≤ 24 * 25 := Nat.mul_le_mul (by omega) (by omega)
      refine .skip ?_
      refine .seq ?_
      refine .block ?_
      refine .seq ?_
      refine .rn ?_
      refine .seq ?_
      refine .regionL [0,1,2,3,4,5,6,7] rfl zz0 ?_
      refine .rn [0,1,2] [3,4,5,6,7] ?_
      refine .step rfl rfl (.pure rfl rfl rfl Tryz.call105 (by decide) (p105' s _ (by omega)) (by first | rfl | simp [*]) ?_)
      rintro _ rfl
      refine .rn [4,5,6,7] [] ?_
      refine .done ?_
      refine .seq ?_
      refine .rn ?_
      refine .block ?_
      refine .loopS (fun q : Nat => ([(1, .func f [] []),(2, .ptr 0 0),(6, .vec ((chL s).map encC)),(8, .grow 1 (kinP may s k ++ kinQ may s (idsS s)[k] q).length true),(10, .int .i64 (idsS s)[k]),(11, .ptr 2 0),(23, ints (idsS s)),(24, .int .i64 (idsS s).length),(25, .int .i64 k),(36, ints (cI s (idsS s)[k])),(37, .int .i64 (cI s (idsS s)[k]).length),(38, .int .i64 q)], ⟨3,[(2, .box [ints (cI s (idsS s)[k]), .int .i64 (choF s s[j]).2]),(1, .grow 2 ((kinP may s k ++ kinQ may s (idsS s)[k] q).map encK)),(0, .box [.vec (s.map encW)])]⟩)) (fun q => q ≤ (cI s (idsS s)[k]).length) (fun q => (cI s (idsS s)[k]).length - q) 0 (by simp) (.mk [] [] zz14 zz15 rfl rfl rfl) ?_
      rintro q hq
      simp only at hq ⊢
      have hql := kinQ_len may s (idsS s)[k] q
      refine .seq ?_
      refine .rn ?_
      refine .seq ?_
      refine .condS rfl (fun c39 => ?_) (fun c39 => ?_)
      · try simp at c39
        have hw3 : IntKind.i64.wrap ((q : Int) + 1) = (q : Int) + 1 := wrap64 (by omega) (by omega)
        have hb : (kinP may s k).length + (kinQ may s (idsS s)[k] q).length ≤ 4294967295 := by omega
        have hone : allOne [PV.agg [PV.int .i64 (idsS s)[k], PV.int .i64 (cI s (idsS s)[k])[q]]] = true := rfl
        have hpp := hp (cI s (idsS s)[k]).length (by omega)
        have hEk : encK ((idsS s)[k],(cI s (idsS s)[k])[q]) = .agg [.int .i64 (idsS s)[k], .int .i64 (cI s (idsS s)[k])[q]] := rfl
        refine .skip ?_
        refine .seq ?_
        refine .block ?_
        refine .seq ?_
        refine .rn ?_
        refine .seq ?_
        refine .regionL [0,1,2,3,4] rfl zz0 ?_
        refine .rn [0,1,2,3] [4] ?_
        refine .step rfl rfl (.pure rfl rfl rfl hcf (by decide) (hpp) (by first | rfl | simp [*]) ?_)
        rintro _ rfl
        refine .done ?_
        refine .condS rfl (fun c46 => ?_) (fun c46 => ?_)
        · try simp at c46
          have hQ : kinQ may s (idsS s)[k] (q + 1) = kinQ may s (idsS s)[k] q ++ [((idsS s)[k],(cI s (idsS s)[k])[q])] := by
            unfold kinQ; rw [if_pos c46, if_pos c46, List.take_succ_eq_append_getElem c39, List.map_append]; rfl
          refine .rn ?_
          refine .rn ?_
          have hL : (kinP may s k).length + ((kinQ may s (idsS s)[k] q).length + 1) = (kinP may s k).length + (kinQ may s (idsS s)[k] q).length + 1 := by omega
          refine ⟨q + 1, c39,zz5,(.mk [] [(1,4)] zz14 zz15 rfl rfl rfl)⟩
        · try simp at c46
          have hQ : kinQ may s (idsS s)[k] (q + 1) = kinQ may s (idsS s)[k] q := by
            unfold kinQ; rw [if_neg (by simp [c46]), if_neg (by simp [c46])]
          refine .skip ?_
          refine .rn ?_
          refine ⟨q + 1, c39,zz5,(.mk [] [] zz14 zz15 rfl rfl rfl)⟩
      · try simp at c39
        have : q = (cI s (idsS s)[k]).length := by omega
        subst this
        have hQ2 := kinQ_all may s (idsS s)[k]
        refine .exit ?_
        refine .rn ?_
        refine ⟨k + 1, c26,zz5,(.mk [] [] zz14 zz15 rfl rfl rfl)⟩
    · try simp at c26
      have : k = (idsS s).length := by omega
      subst this
      refine .exit ?_
      refine .seq ?_
      refine .rn ?_
      refine .ret ?_
      refine ⟨_, _, zz4,zz4, ?_⟩
      have e1 : kinT may s = kinP may s (idsS s).length := by unfold kinT kinP; rw [if_pos c20, List.take_length]
      rw [e1, c20]
      show Soft _ _
      exact soft_rfl rfl
end Go.Am.Ds
end
section
namespace Go.Am.Ds
open Go Go.Am Go.Proofs
set_option maxRecDepth 100000
set_option maxHeartbeats 4000000
set_option linter.unusedSimpArgs false
set_option linter.unusedVariables false
attribute [local simp] vrun vwanted vyielded vop vopA vputAll VHeap.back hidI hidF backL bm Nat.testBit_eq_decide_div_mod_eq veval vevals vparts vO vbuiltin vlen vappend velems vcopy vmakeSlice vbuildSlice valloc vbox vmakeMap vload vpartT vpart vstore vfieldAddr vfield vindexAddr vindex vextract vslice vsliceZ vbounds vbnd zeroO vidx vlookup vmget vmapUpdate vdelete vclear vnilq vnilp vnils vbin vsc vsc1 vscs vscl abinOp aint ashift aunOp aconvert amaxs amax2 pvcV pvc pvcs tput tget vargs VHeap.get VHeap.alloc VHeap.put VHeap.drop VHeap.empty vlook vput vdrop psplice pfill preps chunk List.range List.range.loop vresults vresult vresultV frz frzL PV.isF PV.allF PV.scal PV.allS retP subT allFT PV.one PV.ids PV.idsL dropL beq_eq ble_dec blt_dec
theorem p123 (n : Nat) : VPure Tryz.prog 123 [.int .i64 n] fun r => r = .bool (decide (n = 1)) := by
  refine .of_body Tryz.func123 rfl rfl ?_
  refine .seq ?_
  refine .rn ?_
  refine .seq ?_
  refine .rn ?_
  refine .ret ?_
  refine ⟨_, _, zz4,zz4, ?_⟩
  have h : (((n : Nat) : Int) == 1) = decide (n = 1) := by rw [Bool.eq_iff_iff]; simp <;> omega
  simp [h]
theorem p124 (n : Nat) : VPure Tryz.prog 124 [.int .i64 n] fun r => r = .bool true := by
  refine .of_body Tryz.func124 rfl rfl ?_
  refine .seq ?_
  refine .rn ?_
  refine .seq ?_
  refine .rn ?_
  refine .ret ?_
  refine ⟨_, _, zz4,zz4, ?_⟩
  first | rfl | (simp [*]; done) | (simp_all; done)
theorem p42 (s : List Wit) (hl : s.length < 65536) : VPure Tryz.prog 42 [encS s] fun r => r = .tup [.vec ((kinT (fun n => decide (n = 1)) s).map encK), .int .i64 (chE s)] := by
  refine .of_body Tryz.func42 rfl rfl ?_
  refine .seq ?_
  refine .rn ?_
  refine .seq ?_
  refine .regionL [0,1,2,3,4,5] rfl zz0 ?_
  refine .rn [0] [1,2,3,4,5] ?_
  refine .step rfl rfl (.pure rfl rfl rfl Tryz.call122 (by decide) ((VPure.soft (p122 s (fun n => decide (n = 1)) 123 hl Tryz.call123 (fun n _ => p123 n)) rfl)) (by first | rfl | simp [*]) ?_)
  rintro _ rfl
  refine .rn [2,3,4,5] [] ?_
  refine .done ?_
  refine .ret ?_
  refine ⟨_, _, zz4,zz4, ?_⟩
  first | rfl | (simp [*]; done) | (simp_all; done)
theorem p43 (s : List Wit) (hl : s.length < 65536) : VPure Tryz.prog 43 [encS s] fun r => r = .tup [.vec ((kinT (fun _ => true) s).map encK), .int .i64 (chE s)] := by
  refine .of_body Tryz.func43 rfl rfl ?_
  refine .seq ?_
  refine .rn ?_
  refine .seq ?_
  refine .regionL [0,1,2,3,4,5] rfl zz0 ?_
  refine .rn [0] [1,2,3,4,5] ?_
  refine .step rfl rfl (.pure rfl rfl rfl Tryz.call122 (by decide) ((VPure.soft (p122 s (fun _ => true) 124 hl Tryz.call124 (fun n _ => p124 n)) rfl)) (by first | rfl | simp [*]) ?_)
  rintro _ rfl
  refine .rn [2,3,4,5] [] ?_
  refine .done ?_
  refine .ret ?_
  refine ⟨_, _, zz4,zz4, ?_⟩
  first | rfl | (simp [*]; done) | (simp_all; done)
end Go.Am.Ds
end
section
namespace Go.Am.Ds
open Go Go.Am Go.Proofs
end Go.Am.Ds
end
section
namespace Go.Am.Ds
open Go Go.Am Go.Proofs
set_option maxRecDepth 100000
set_option maxHeartbeats 4000000
set_option linter.unusedSimpArgs false
set_option linter.unusedVariables false
attribute [local simp] vrun vwanted vyielded vop vopA vputAll VHeap.back hidI hidF backL bm Nat.testBit_eq_decide_div_mod_eq veval vevals vparts vO vbuiltin vlen vappend velems vcopy vmakeSlice vbuildSlice valloc vbox vmakeMap vload vpartT vpart vstore vfieldAddr vfield vindexAddr vindex vextract vslice vsliceZ vbounds vbnd zeroO vidx vlookup vmget vmapUpdate vdelete vclear vnilq vnilp vnils vbin vsc vsc1 vscs vscl abinOp aint ashift aunOp aconvert amaxs amax2 pvcV pvc pvcs tput tget vargs VHeap.get VHeap.alloc VHeap.put VHeap.drop VHeap.empty vlook vput vdrop psplice pfill preps chunk List.range List.range.loop vresults vresult vresultV frz frzL PV.isF PV.allF PV.scal PV.allS retP subT allFT PV.one PV.ids PV.idsL dropL beq_eq ble_dec blt_dec
theorem kinT_len (may : Nat → Bool) (s : List Wit) : (kinT may s).length ≤ s.length * (s.length + 1) := by
  unfold kinT
  split
  · have := kinP_len may s (idsS s).length (Nat.le_refl _)
    unfold kinP at this
    rw [List.take_length, idsS_len] at this
    exact this
  · exact Nat.zero_le _
end Go.Am.Ds
end
section
namespace Go.Am.Ds
open Go Go.Am Go.Proofs
set_option maxRecDepth 100000
set_option linter.unusedSimpArgs false
theorem g38 : (Tryz.prog.stoodInHeld 38 || Tryz.prog.eqGuardType Tryz.prog.depth 38) = false := by decide +kernel
theorem n38 : (match Tryz.prog.underlying 38 with | some (.struct fs) => fs.toList.map (fun f => (f.name == "_", tsz Tryz.prog f.type, f.type, f.offset)) | _ => []) = [(false, some 1,3,0),(false, some 1,3,1)] := by decide +kernel
theorem eq38 (a b c d : Int) : aeql Tryz.prog 38 (.agg #[.int .i64 a, .int .i64 b]) (.agg #[.int .i64 c, .int .i64 d]) = some (a == c && b == d) := by
  have hn := n38
  have hg := g38
  unfold aeql
  simp only
  cases hu : Tryz.prog.underlying 38 with
  | none => rw [hu] at hn; simp at hn
  | some td =>
    cases td with
    | struct fs =>
      rw [hu] at hn
      simp only at hn ⊢
      rw [hg]
      simp only [cond_false]
      generalize fs.toList = l at hn
      rcases l with _ | ⟨f1, _ | ⟨f2, _ | ⟨f3, r⟩⟩⟩
      · simp at hn
      · simp at hn
      · simp only [List.map_cons, List.map_nil, List.cons.injEq, Prod.mk.injEq, and_true] at hn
        obtain ⟨⟨k1, k2, k3, k4⟩, ⟨m1, m2, m3, m4⟩⟩ := hn
        simp only [fieldsEq, k1, k2, k3, k4, m1, m2, m3, m4, cond_false]
        have ha : tagg Tryz.prog 3 = some false := by decide +kernel
        have hu3 : Tryz.prog.underlying 3 = some (.int .i64) := by rfl
        simp [apart, ha, simpleEq, hu3]
        cases a == c <;> cases b == d <;> rfl
      · simp at hn
    | _ => rw [hu] at hn; simp at hn
theorem modL_len7 (s : List Wit) (a : Int) (hl : s.length ≤ 40) : (modL s a).length < 4611686018427387904 := by
  unfold modL
  split
  · split
    · rw [List.length_map, parS, List.length_append]
      have h1 : ∀ c : Wit, (headP c).length ≤ 1 := by intro c; unfold headP; split <;> simp
      have h2 := List.length_filterMap_le (stepP s ‹Wit›) (idsS s)
      have h3 : (idsS s).length = s.length := by simp [idsS]
      have := h1 ‹Wit›
      omega
    · decide
  · decide
theorem dec_beq (x y : Int) : decide (x = y) = (x == y) := by rw [Bool.eq_iff_iff]; simp
end Go.Am.Ds
end
section
namespace Go.Am.Ds
open Go Go.Am Go.Proofs
def isK (s : List Wit) (k : Int × Int) : Int := if k ∈ kinT (fun n => decide (n = 1)) s then 2 else if k ∈ kinT (fun _ => true) s then 1 else 0
def lessI (s : List Wit) (id : Int) : List Wit := s.filter fun w => !decide (w.id = id)
def delB (s : List Wit) (k : Int × Int) (now : Int) (id : Int) : Bool := decide (id = k.1) || (decide (id = k.2) || decide (isK (lessI s id) k = now))
def resL (s : List Wit) (k : Int × Int) : List Int := (idsS s).filter fun id => !delB s k (isK s k) id
theorem resL_len (s : List Wit) (k : Int × Int) : (resL s k).length ≤ s.length := by
  unfold resL
  have := List.length_filter_le (fun id => !delB s k (isK s k) id) (idsS s)
  rw [idsS_len] at this; exact this
theorem resL_mem {s : List Wit} {k : Int × Int} {o : Int} : o ∈ resL s k ↔ o ∈ idsS s ∧ o ≠ k.1 ∧ o ≠ k.2 ∧ isK (lessI s o) k ≠ isK s k := by
  unfold resL
  rw [List.mem_filter]
  simp [delB]
theorem getW_less {s : List Wit} {id o : Int} (h : id ≠ o) : getW (lessI s o) id = getW s id := by
  unfold getW lessI
  rw [List.find?_filter]
  congr 1
  funext w
  by_cases h1 : w.id = id
  · have h2 : ¬ w.id = o := fun h2 => h (h1.symm.trans h2)
    simp [h1, h2]; exact fun h3 => h h3
  · simp [h1]
theorem idsS_less {s : List Wit} (h : checkS s = 0) (o : Int) : idsS (lessI s o) = (idsS s).filter fun id => !decide (id = o) := by
  have h1 : checkS (lessI s o) = 0 := checkS_filter h _
  refine strict_eq (idsS_sorted (checkS_nodup h1)) ((idsS_sorted (checkS_nodup h)).sublist List.filter_sublist) fun b => ?_
  rw [idsS_mem, List.mem_filter, idsS_mem]
  unfold lessI
  constructor
  · rintro ⟨w, hw, rfl⟩
    obtain ⟨h2, h3⟩ := List.mem_filter.1 hw
    exact ⟨⟨w, h2, rfl⟩, h3⟩
  · rintro ⟨⟨w, hw, rfl⟩, h3⟩
    exact ⟨w, List.mem_filter.2 ⟨hw, h3⟩, rfl⟩
theorem fm_congr {α β : Type} {f g : α → Option β} : ∀ {l : List α},(∀ x ∈ l, f x = g x) → l.filterMap f = l.filterMap g
  | [], _ => rfl
  | a :: r, h => by
    rw [List.filterMap_cons, List.filterMap_cons, h a List.mem_cons_self, fm_congr (fun x hx => h x (List.mem_cons_of_mem _ hx))]
theorem parS_less {s : List Wit} (h : checkS s = 0) {o : Wit} (ho : o ∈ s) {w : Wit} (hw : (whyP w o).1 ≠ 0) : parS (lessI s o.id) w = parS s w := by
  unfold parS
  congr 1
  rw [idsS_less h, List.filterMap_filter]
  refine fm_congr fun id _ => ?_
  by_cases h1 : id = o.id
  · subst h1
    simp only [decide_true, Bool.not_true]
    unfold stepP
    rw [getW_own (checkS_nodup h) ho]
    simp [hw]
  · rw [if_pos (by simp [h1])]
    unfold stepP
    rw [getW_less h1]
theorem mem_kinT {s : List Wit} (h : chE s = 0) (may : Nat → Bool) (k : Int × Int) : k ∈ kinT may s ↔ ∃ w ∈ s, w.id = k.1 ∧ may (choF s w).1.length = true ∧ k.2 ∈ (choF s w).1 := by
  obtain ⟨h0, _⟩ := chE_ok h
  unfold kinT
  rw [if_pos h, List.mem_flatMap]
  constructor
  · rintro ⟨id, h1, h2⟩
    obtain ⟨w, hw, rfl⟩ := idsS_mem.1 h1
    have hc : cI s w.id = (choF s w).1 := by unfold cI; rw [getW_own (checkS_nodup h0) hw]
    unfold kinI at h2
    rw [hc] at h2
    split at h2
    · rename_i h3
      obtain ⟨b, h4, rfl⟩ := List.mem_map.1 h2
      exact ⟨w, hw, rfl, h3, h4⟩
    · cases h2
  · rintro ⟨w, hw, h1, h2, h3⟩
    refine ⟨w.id, idsS_mem.2 ⟨w, hw, rfl⟩, ?_⟩
    have hc : cI s w.id = (choF s w).1 := by unfold cI; rw [getW_own (checkS_nodup h0) hw]
    unfold kinI
    rw [hc, if_pos h2]
    exact List.mem_map.2 ⟨k.2, h3, by rw [h1]⟩
theorem isK_less {s : List Wit} (h : checkS s = 0) {o : Wit} (ho : o ∈ s) (hm : modL s o.id ≠ []) (hc : ∀ w ∈ s, canR (kinR s w.id o.id) = false) {k : Int × Int} (hk : k.1 ≠ o.id) : isK (lessI s o.id) k = isK s k := by
  have h1 : checkS (lessI s o.id) = 0 := checkS_filter h _
  have hgo := getW_own (checkS_nodup h) ho
  have ho0 : o.id ≠ 0 := by have := checkS_pos h o ho; omega
  have hwhy : ∀ w ∈ s, (whyP w o).1 ≠ 0 := by
    intro w hw h2
    have h3 := hc w hw
    have hkr : kinR s w.id o.id = .of w o := by
      unfold kinR; rw [if_pos h, getW_own (checkS_nodup h) hw]; simp only; rw [if_neg ho0, hgo]
    rw [hkr] at h3
    simp [canR, whyR, h2] at h3
  have hcho : ∀ w ∈ s, choF (lessI s o.id) w = choF s w := fun w hw => by unfold choF; rw [parS_less h ho (hwhy w hw)]
  have hmem : ∀ w, w ∈ lessI s o.id ↔ w ∈ s ∧ w.id ≠ o.id := fun w => by unfold lessI; rw [List.mem_filter]; simp
  have hpo : parS s o ≠ [] := by
    intro h2
    apply hm
    unfold modL
    rw [if_pos h, hgo]; simp only; rw [h2]; rfl
  have hco : (choF s o).1 ≠ [] := by
    rcases choF_spec s o with ⟨h2, _⟩ | ⟨h2, _⟩
    · exact absurd h2 hpo
    · exact h2
  have heq : chE (lessI s o.id) = chE s := by
    unfold chE
    rw [if_pos h, if_pos h1]
    have : (∃ c ∈ lessI s o.id, (choF (lessI s o.id) c).1 = []) ↔ ∃ c ∈ s, (choF s c).1 = [] := by
      constructor
      · rintro ⟨c, h2, h3⟩
        have h4 := ((hmem c).1 h2).1
        rw [hcho c h4] at h3
        exact ⟨c, h4, h3⟩
      · rintro ⟨c, h2, h3⟩
        have h4 : c.id ≠ o.id := by
          intro h5
          have e1 := getW_own (checkS_nodup h) h2
          rw [h5, hgo] at e1; injection e1 with e1; subst e1; exact hco h3
        exact ⟨c, (hmem c).2 ⟨h2, h4⟩, by rw [hcho c h2]; exact h3⟩
    by_cases h2 : ∃ c ∈ s, (choF s c).1 = []
    · rw [if_pos h2, if_pos (this.2 h2)]
    · rw [if_neg h2, if_neg (fun h3 => h2 (this.1 h3))]
  have hT : ∀ may, k ∈ kinT may (lessI s o.id) ↔ k ∈ kinT may s := by
    intro may
    by_cases h2 : chE s = 0
    · rw [mem_kinT h2, mem_kinT (heq.trans h2)]
      constructor
      · rintro ⟨w, h3, h4, h5, h6⟩
        have h7 := ((hmem w).1 h3).1
        rw [hcho w h7] at h5 h6
        exact ⟨w, h7, h4, h5, h6⟩
      · rintro ⟨w, h3, h4, h5, h6⟩
        refine ⟨w, (hmem w).2 ⟨h3, fun h7 => hk (h4.symm.trans h7)⟩, h4, ?_, ?_⟩
        · rw [hcho w h3]; exact h5
        · rw [hcho w h3]; exact h6
    · unfold kinT
      rw [if_neg h2, if_neg (fun h3 => h2 (heq.symm.trans h3))]
  unfold isK
  simp only [hT]
theorem kinR_ok {s : List Wit} (h : checkS s = 0) {x : Wit} (hx : x ∈ s) {b : Int} (hb : b = 0 ∨ ∃ p ∈ s, p.id = b) : kinE (kinR s x.id b) = 0 ∧ (whyR (kinR s x.id b)).2.2 = 0 := by
  unfold kinR
  rw [if_pos h, getW_own (checkS_nodup h) hx]
  simp only
  by_cases hb0 : b = 0
  · rw [if_pos hb0]; exact ⟨rfl, rfl⟩
  · obtain ⟨p, hp, rfl⟩ := hb.resolve_left hb0
    rw [if_neg hb0, getW_own (checkS_nodup h) hp]; exact ⟨rfl, rfl⟩
theorem rests_end {s : List Wit} (h : checkS s = 0) {x o : Wit} (hx : x ∈ s) (ho : o ∈ s) (b : Int) (hb : b = 0 ∨ ∃ p ∈ s, p.id = b) :
    kinE (kinR s x.id b) = 0 ∧ x.id ∉ resL s (x.id, b) ∧ b ∉ resL s (x.id, b) ∧ (o.id ≠ x.id → o.id ≠ b → decide (o.id ∈ resL s (x.id, b)) = !(isK s (x.id, b) == isK (lessI s o.id) (x.id, b))) ∧ modE s o.id = 0 ∧ (∀ w ∈ s, (whyR (kinR s w.id o.id)).2.2 = 0) := by
  refine ⟨(kinR_ok h hx hb).1, fun h1 => (resL_mem.1 h1).2.1 rfl, fun h1 => (resL_mem.1 h1).2.2.1 rfl, fun h1 h2 => ?_, ?_, fun w hw => (kinR_ok h hw (.inr ⟨o, ho, rfl⟩)).2⟩
  · rw [Bool.eq_iff_iff, decide_eq_true_eq, resL_mem]
    simp only [Bool.not_eq_true', beq_eq_false_iff_ne]
    exact ⟨fun h3 h4 => h3.2.2.2 h4.symm, fun h3 => ⟨idsS_mem.2 ⟨o, ho, rfl⟩, h1, h2, fun h4 => h3 h4.symm⟩⟩
  · unfold modE; rw [if_pos h, getW_own (checkS_nodup h) ho]
end Go.Am.Ds
end
section
namespace Go.Am.Ds
open Go Go.Am Go.Proofs
set_option maxRecDepth 100000
set_option maxHeartbeats 4000000
set_option linter.unusedSimpArgs false
set_option linter.unusedVariables false
attribute [local simp] vrun vwanted vyielded vop vopA vputAll VHeap.back hidI hidF backL bm Nat.testBit_eq_decide_div_mod_eq veval vevals vparts vO vbuiltin vlen vappend velems vcopy vmakeSlice vbuildSlice valloc vbox vmakeMap vload vpartT vpart vstore vfieldAddr vfield vindexAddr vindex vextract vslice vsliceZ vbounds vbnd zeroO vidx vlookup vmget vmapUpdate vdelete vclear vnilq vnilp vnils vbin vsc vsc1 vscs vscl abinOp aint ashift aunOp aconvert amaxs amax2 pvcV pvc pvcs tput tget vargs VHeap.get VHeap.alloc VHeap.put VHeap.drop VHeap.empty vlook vput vdrop psplice pfill preps chunk List.range List.range.loop vresults vresult vresultV frz frzL PV.isF PV.allF PV.scal PV.allS retP subT allFT PV.one PV.ids PV.idsL dropL beq_eq ble_dec blt_dec
attribute [local simp] zW tup2
theorem any_memK (l : List (Int × Int)) (v : Int × Int) : (l.any fun a => decide (v = a)) = decide (v ∈ l) := by rw [Bool.eq_iff_iff]; simp
theorem pair_beq (a b : Int × Int) : (a.1 == b.1 && a.2 == b.2) = decide (a = b) := by
  rw [Bool.eq_iff_iff]
  simp only [Bool.and_eq_true, beq_iff_eq, decide_eq_true_eq]
  exact ⟨fun h => Prod.ext h.1 h.2, fun h => by rw [h]; exact ⟨rfl, rfl⟩⟩
theorem eq38d (a b : Int × Int) : aeql Tryz.prog 38 (.agg #[.int .i64 a.1, .int .i64 a.2]) (.agg #[.int .i64 b.1, .int .i64 b.2]) = some (decide (a = b)) := by rw [eq38, pair_beq]
theorem p200 (l : List (Int × Int)) (v : Int × Int) (hl : l.length < 4294967296) : VPure Tryz.prog 200 [.vec (l.map encK), .agg [.int .i64 v.1, .int .i64 v.2]] fun r => r = .int .i64 (idxF (fun a => decide (v = a)) 0 l) := by
  refine .of_body Tryz.func200 rfl rfl ?_
  refine .seq ?_
  refine .rn ?_
  refine .seq ?_
  refine .seq ?_
  refine .rn ?_
  refine .block ?_
  refine .loopS (fun s : Nat => ([(0, .vec (l.map encK)),(3, .ptr 0 0),(7, .int .i64 l.length),(8, .int .i64 s)], ⟨1,[(0, .box [.int .i64 v.1, .int .i64 v.2])]⟩)) (fun s => s ≤ l.length ∧ idxF (fun a => decide (v = a)) s (l.drop s) = idxF (fun a => decide (v = a)) 0 l) (fun s => l.length - s) 0 ⟨by simp, by simp⟩ (.mk [] [] zz14 zz15 rfl rfl rfl) ?_
  rintro i ⟨hi, hr⟩
  simp only at hi hr ⊢
  refine .seq ?_
  refine .rn ?_
  refine .seq ?_
  refine .condS rfl (fun c9 => ?_) (fun c9 => ?_)
  · try simp at c9
    have hw2 : IntKind.i64.wrap ((i : Int) + 1) = (i : Int) + 1 := wrap64 (by omega) (by omega)
    rw [idxF_drop _ l i c9] at hr
    have hE : encK l[i] = .agg [.int .i64 l[i].1, .int .i64 l[i].2] := rfl
    have hq := eq38d v l[i]
    refine .skip ?_
    refine .seq ?_
    refine .block ?_
    refine .seq ?_
    refine .rn ?_
    refine .seq ?_
    refine .drawn (ms := [0,0,0,6,14,31]) (W := []) (items := [.op 0, .op 1, .op 2, .op 3, .op 4, .op 5]) rfl zz0 zz0 zz0 ?_
    refine .rd rfl rfl (by decide) rfl (by decide) zz1 ?_   -- 0
    refine .rd rfl rfl (by decide) rfl (by decide) zz1 ?_   -- 1
    refine .rd rfl rfl (by decide) rfl (by decide) zz1 ?_   -- 2
    refine .rd rfl rfl (by decide) rfl (by decide) zz1 ?_   -- 3
    refine .rd rfl rfl (by decide) rfl (by decide) zz1 ?_   -- 4
    refine .rd rfl rfl (by decide) rfl (by decide) zz1 ?_   -- 5
    refine .done ?_
    refine .condS rfl (fun c16 => ?_) (fun c16 => ?_)
    · try simp at c16
      refine .seq ?_
      refine .rn ?_
      refine .ret ?_
      refine ⟨_, _, zz4,zz4, ?_⟩
      rw [← hr, if_pos (by simp [c16])]
    · try simp at c16
      refine .skip ?_
      refine .rn ?_
      refine ⟨i + 1, ⟨zz5, ?_⟩, zz5,(.mk [] [] zz14 zz15 rfl rfl rfl)⟩
      rw [← hr, if_neg (by simp [c16])]
  · try simp at c9
    have : i = l.length := by omega
    refine .exit ?_
    refine .seq ?_
    refine .rn ?_
    refine .ret ?_
    refine ⟨_, _, zz4,zz4, ?_⟩
    rw [← hr, this, List.drop_length]; rfl
theorem p174 (l : List (Int × Int)) (v : Int × Int) (hl : l.length < 4294967296) : VPure Tryz.prog 174 [.vec (l.map encK), .agg [.int .i64 v.1, .int .i64 v.2]] fun r => r = .bool (decide (v ∈ l)) := by
  refine .of_body Tryz.func174 rfl rfl ?_
  refine .seq ?_
  refine .rn ?_
  refine .seq ?_
  refine .regionL [0,1,2,3,4] rfl zz0 ?_
  refine .rn [0,1] [2,3,4] ?_
  refine .step rfl rfl (.pure rfl rfl rfl Tryz.call200 (by decide) (p200 l v hl) (by first | rfl | simp [*]) ?_)
  rintro _ rfl
  refine .rn [3,4] [] ?_
  refine .done ?_
  refine .ret ?_
  refine ⟨_, _, zz4,zz4, ?_⟩
  rw [← any_memK, ← idxF_any _ l 0]
theorem p133 (s : List Wit) (k : Int × Int) (hl : s.length ≤ 24) : VPure Tryz.prog 133 [encS s, .agg [.int .i64 k.1, .int .i64 k.2]] fun r => r = .int .i64 (isK s k) := by
  have hkt := kinT_len (fun _ => true) s
  have hks := kinT_len (fun n => decide (n = 1)) s
  have hm : s.length * (s.length + 1) ≤ 24 * 25 := Nat.mul_le_mul (by omega) (by omega)
  refine .of_body Tryz.func133 rfl rfl ?_
  refine .seq ?_
  refine .rn ?_
  refine .seq ?_
  refine .seq ?_
  refine .regionL [0,1,2,3,4,5,6] rfl zz0 ?_
  refine .rn [0] [1,2,3,4,5,6] ?_
  refine .step rfl rfl (.pure rfl rfl rfl Tryz.call42 (by decide) (p42 s (by omega)) (by first | rfl | simp [*]) ?_)
  rintro _ rfl
  refine .rn [2,3,4,5,6] [] ?_
  refine .done ?_
  refine .seq ?_
  refine .regionL [0,1,2] rfl zz0 ?_
  refine .rn [0,1] [2] ?_
  refine .step rfl rfl (.pure rfl rfl rfl Tryz.call174 (by decide) (p174 _ k (by omega)) (by first | rfl | simp [*]) ?_)
  rintro _ rfl
  refine .done ?_
  refine .condS rfl (fun c16 => ?_) (fun c16 => ?_)
  · try simp at c16
    refine .seq ?_
    refine .rn ?_
    refine .ret ?_
    refine ⟨_, _, zz4,zz4, ?_⟩
    rw [isK, if_pos c16]
  · try simp at c16
    refine .skip ?_
    refine .seq ?_
    refine .seq ?_
    refine .regionL [0,1,2,3,4,5,6] rfl zz0 ?_
    refine .rn [0] [1,2,3,4,5,6] ?_
    refine .step rfl rfl (.pure rfl rfl rfl Tryz.call43 (by decide) (p43 s (by omega)) (by first | rfl | simp [*]) ?_)
    rintro _ rfl
    refine .rn [2,3,4,5,6] [] ?_
    refine .done ?_
    refine .seq ?_
    refine .regionL [0,1,2] rfl zz0 ?_
    refine .rn [0,1] [2] ?_
    refine .step rfl rfl (.pure rfl rfl rfl Tryz.call174 (by decide) (p174 _ k (by omega)) (by first | rfl | simp [*]) ?_)
    rintro _ rfl
    refine .done ?_
    refine .condS rfl (fun c24 => ?_) (fun c24 => ?_)
    · try simp at c24
      refine .seq ?_
      refine .rn ?_
      refine .ret ?_
      refine ⟨_, _, zz4,zz4, ?_⟩
      rw [isK, if_neg c16, if_pos c24]
    · try simp at c24
      refine .skip ?_
      refine .seq ?_
      refine .rn ?_
      refine .ret ?_
      refine ⟨_, _, zz4,zz4, ?_⟩
      rw [isK, if_neg c16, if_neg c24]
theorem p58 (s : List Wit) (k : Int × Int) (hl : s.length ≤ 24) : VPure Tryz.prog 58 [encS s, .agg [.int .i64 k.1, .int .i64 k.2]] fun r => r = .int .i64 (isK s k) := by
  have hkt := kinT_len (fun _ => true) s
  have hks := kinT_len (fun n => decide (n = 1)) s
  have hm : s.length * (s.length + 1) ≤ 24 * 25 := Nat.mul_le_mul (by omega) (by omega)
  have hsub : k ∈ kinT (fun n => decide (n = 1)) s → k ∈ kinT (fun _ => true) s := by
    intro h
    unfold kinT at h ⊢
    split at h
    · rename_i h0
      rw [if_pos h0]
      obtain ⟨id, h1, h2⟩ := List.mem_flatMap.1 h
      refine List.mem_flatMap.2 ⟨id, h1, ?_⟩
      unfold kinI at h2 ⊢
      rw [if_pos rfl]
      split at h2
      · exact h2
      · cases h2
    · cases h
  refine .of_body Tryz.func58 rfl rfl ?_
  refine .seq ?_
  refine .rn ?_
  refine .seq ?_
  refine .regionL [0,1,2,3,4,5,6] rfl zz0 ?_
  refine .rn [0] [1,2,3,4,5,6] ?_
  refine .step rfl rfl (.pure rfl rfl rfl Tryz.call42 (by decide) (p42 s (by omega)) (by first | rfl | simp [*]) ?_)
  rintro _ rfl
  refine .rn [2,3,4,5,6] [] ?_
  refine .done ?_
  refine .seq ?_
  refine .regionL [0,1,2,3,4,5,6] rfl zz0 ?_
  refine .rn [0] [1,2,3,4,5,6] ?_
  refine .step rfl rfl (.pure rfl rfl rfl Tryz.call43 (by decide) (p43 s (by omega)) (by first | rfl | simp [*]) ?_)
  rintro _ rfl
  refine .rn [2,3,4,5,6] [] ?_
  refine .done ?_
  refine .seq ?_
  refine .seq ?_
  refine .regionL [0,1,2,3,4,5] rfl zz0 ?_
  refine .rn [0,1,2] [3,4,5] ?_
  refine .split (t := 24) rfl (fun c24 => ?_) (fun c24 => ?_)
  · try rw [c24]
    try simp at c24
    refine .rn [3,4,5] [] ?_
    refine .done ?_
    refine .condT rfl ?_
    refine .seq ?_
    refine .rn ?_
    refine .ret ?_
    refine ⟨_, _, zz4,zz4, ?_⟩
    have e1 : ∀ may, kinT may s = [] := fun may => by unfold kinT; rw [if_neg c24]
    rw [isK, e1, e1]; rfl
  · try rw [c24]
    try simp at c24
    refine .rn [3,4,5] [] ?_
    refine .done ?_
    refine .condS rfl (fun c27 => ?_) (fun c27 => ?_)
    · try simp at c27
    · try simp at c27
      refine .skip ?_
      refine .seq ?_
      refine .rn ?_
      refine .seq ?_
      refine .seq ?_
      refine .rn ?_
      refine .block ?_
      refine .loopS (fun i : Nat => ([(3, .ptr 1 0),(5, .vec ((kinT (fun n => decide (n = 1)) s).map encK)),(7, .vec ((kinT (fun _ => true) s).map encK)),(9, .int .i64 (if k ∈ (kinT (fun _ => true) s).take i then 1 else 0)),(10, .int .i64 i)], ⟨2,[(1, .box [.int .i64 k.1, .int .i64 k.2]),(0, .box [.vec (s.map encW)])]⟩)) (fun i => i ≤ (kinT (fun _ => true) s).length) (fun i => (kinT (fun _ => true) s).length - i) 0 (by simp) (.mk [] [] zz14 zz15 rfl rfl rfl) ?_
      rintro i hi
      simp only at hi ⊢
      refine .seq ?_
      refine .seq ?_
      refine .rn ?_
      refine .condS rfl (fun c31 => ?_) (fun c31 => ?_)
      · try simp at c31
        have hw2 : IntKind.i64.wrap ((i : Int) + 1) = (i : Int) + 1 := wrap64 (by omega) (by omega)
        have hT : ∀ x : Int × Int, (x ∈ (kinT (fun _ => true) s).take (i + 1) ↔ x ∈ (kinT (fun _ => true) s).take i ∨ x = (kinT (fun _ => true) s)[i]) := fun x => by rw [List.take_succ_eq_append_getElem c31, List.mem_append, List.mem_singleton]
        have hE : encK (kinT (fun _ => true) s)[i] = .agg [.int .i64 (kinT (fun _ => true) s)[i].1, .int .i64 (kinT (fun _ => true) s)[i].2] := rfl
        have hq := eq38d (kinT (fun _ => true) s)[i] k
        refine .skip ?_
        refine .seq ?_
        refine .block ?_
        refine .seq ?_
        refine .drawn (ms := [0,0,3,7,0,31]) (W := []) (items := [.op 0, .op 1, .op 2, .op 3, .op 4, .op 5]) rfl zz0 zz0 zz0 ?_
        refine .rd rfl rfl (by decide) rfl (by decide) zz1 ?_   -- 0
        refine .rd rfl rfl (by decide) rfl (by decide) zz1 ?_   -- 1
        refine .rd rfl rfl (by decide) rfl (by decide) zz1 ?_   -- 2
        refine .rd rfl rfl (by decide) rfl (by decide) zz1 ?_   -- 3
        refine .rd rfl rfl (by decide) rfl (by decide) zz1 ?_   -- 4
        refine .rd rfl rfl (by decide) rfl (by decide) zz1 ?_   -- 5
        refine .done ?_
        refine .condS rfl (fun c39 => ?_) (fun c39 => ?_)
        · try simp at c39
          have hD : (if k ∈ (kinT (fun _ => true) s).take (i + 1) then (1 : Int) else 0) = 1 := by rw [if_pos ((hT _).2 (.inr c39.symm))]
          clear hT
          refine .rn ?_
          refine .rn ?_
          refine ⟨i + 1, c31,zz5,(.mk [] [] zz14 zz15 rfl rfl rfl)⟩
        · try simp at c39
          have hD : (if k ∈ (kinT (fun _ => true) s).take (i + 1) then (1 : Int) else 0) = if k ∈ (kinT (fun _ => true) s).take i then 1 else 0 := by
            have e1 : k ∈ (kinT (fun _ => true) s).take (i + 1) ↔ k ∈ (kinT (fun _ => true) s).take i := by rw [hT]; exact ⟨fun h => h.resolve_right (fun h => c39 h.symm), .inl⟩
            simp only [e1]
          clear hT
          refine .skip ?_
          refine .rn ?_
          refine ⟨i + 1, c31,zz5,(.mk [] [] zz14 zz15 rfl rfl rfl)⟩
      · try simp at c31
        have hTk : (kinT (fun _ => true) s).take i = kinT (fun _ => true) s := List.take_of_length_le (by omega)
        refine .exit ?_
        refine .seq ?_
        refine .seq ?_
        refine .rn ?_
        refine .block ?_
        refine .loopS (fun i : Nat => ([(3, .ptr 1 0),(5, .vec ((kinT (fun n => decide (n = 1)) s).map encK)),(9, .int .i64 (if k ∈ (kinT (fun n => decide (n = 1)) s).take i then 2 else if k ∈ kinT (fun _ => true) s then 1 else 0)),(11, .int .i64 i)], ⟨2,[(1, .box [.int .i64 k.1, .int .i64 k.2]),(0, .box [.vec (s.map encW)])]⟩)) (fun i => i ≤ (kinT (fun n => decide (n = 1)) s).length) (fun i => (kinT (fun n => decide (n = 1)) s).length - i) 0 (by simp) (.mk [] [] zz14 zz15 rfl rfl rfl) ?_
        rintro i hi
        simp only at hi ⊢
        refine .seq ?_
        refine .seq ?_
        refine .rn ?_
        refine .condS rfl (fun c43 => ?_) (fun c43 => ?_)
        · try simp at c43
          have hw2 : IntKind.i64.wrap ((i : Int) + 1) = (i : Int) + 1 := wrap64 (by omega) (by omega)
          have hT : ∀ x : Int × Int, (x ∈ (kinT (fun n => decide (n = 1)) s).take (i + 1) ↔ x ∈ (kinT (fun n => decide (n = 1)) s).take i ∨ x = (kinT (fun n => decide (n = 1)) s)[i]) := fun x => by rw [List.take_succ_eq_append_getElem c43, List.mem_append, List.mem_singleton]
          have hE : encK (kinT (fun n => decide (n = 1)) s)[i] = .agg [.int .i64 (kinT (fun n => decide (n = 1)) s)[i].1, .int .i64 (kinT (fun n => decide (n = 1)) s)[i].2] := rfl
          have hq := eq38d (kinT (fun n => decide (n = 1)) s)[i] k
          refine .skip ?_
          refine .seq ?_
          refine .block ?_
          refine .seq ?_
          refine .drawn (ms := [0,0,3,7,0,31]) (W := []) (items := [.op 0, .op 1, .op 2, .op 3, .op 4, .op 5]) rfl zz0 zz0 zz0 ?_
          refine .rd rfl rfl (by decide) rfl (by decide) zz1 ?_   -- 0
          refine .rd rfl rfl (by decide) rfl (by decide) zz1 ?_   -- 1
          refine .rd rfl rfl (by decide) rfl (by decide) zz1 ?_   -- 2
          refine .rd rfl rfl (by decide) rfl (by decide) zz1 ?_   -- 3
          refine .rd rfl rfl (by decide) rfl (by decide) zz1 ?_   -- 4
          refine .rd rfl rfl (by decide) rfl (by decide) zz1 ?_   -- 5
          refine .done ?_
          refine .condS rfl (fun c51 => ?_) (fun c51 => ?_)
          · try simp at c51
            have hD : (if k ∈ (kinT (fun n => decide (n = 1)) s).take (i + 1) then (2 : Int) else if k ∈ kinT (fun _ => true) s then 1 else 0) = 2 := by rw [if_pos ((hT _).2 (.inr c51.symm))]
            clear hT
            refine .rn ?_
            refine .rn ?_
            refine ⟨i + 1, c43,zz5,(.mk [] [] zz14 zz15 rfl rfl rfl)⟩
          · try simp at c51
            have hD : (if k ∈ (kinT (fun n => decide (n = 1)) s).take (i + 1) then (2 : Int) else if k ∈ kinT (fun _ => true) s then 1 else 0) = if k ∈ (kinT (fun n => decide (n = 1)) s).take i then 2 else if k ∈ kinT (fun _ => true) s then 1 else 0 := by
              have e1 : k ∈ (kinT (fun n => decide (n = 1)) s).take (i + 1) ↔ k ∈ (kinT (fun n => decide (n = 1)) s).take i := by rw [hT]; exact ⟨fun h => h.resolve_right (fun h => c51 h.symm), .inl⟩
              simp only [e1]
            clear hT
            refine .skip ?_
            refine .rn ?_
            refine ⟨i + 1, c43,zz5,(.mk [] [] zz14 zz15 rfl rfl rfl)⟩
        · try simp at c43
          have hTk2 : (kinT (fun n => decide (n = 1)) s).take i = kinT (fun n => decide (n = 1)) s := List.take_of_length_le (by omega)
          refine .exit ?_
          refine .seq ?_
          refine .rn ?_
          refine .ret ?_
          refine ⟨_, _, zz4,zz4, ?_⟩
          rfl
theorem p136 (w : Wit) (id : Int) : VPure Tryz.prog 136 [encW w, .vp [.int .i64 id]] fun r => r = .bool (!decide (w.id = id)) := by
  refine .of_body Tryz.func136 rfl rfl ?_
  refine .seq ?_
  refine .rn ?_
  refine .seq ?_
  refine .rn ?_
  refine .ret ?_
  refine ⟨_, _, zz4,zz4, ?_⟩
  first | rfl | (simp [*]; done) | (simp_all; done)
theorem p135 (s : List Wit) (k : Int × Int) (now id : Int) (h : checkS s = 0) : VPure Tryz.prog 135 [.int .i64 id, .vp (encS s).cells, .vp [.int .i64 k.1, .int .i64 k.2], .vp [.int .i64 now]] fun r => r = .bool (delB s k now id) := by
  have hl24 := (checkS_ok h).1
  have hll : (lessI s id).length ≤ 24 := Nat.le_trans (List.length_filter_le _ _) hl24
  refine .of_body Tryz.func135 rfl rfl ?_
  refine .seq ?_
  refine .rn ?_
  refine .seq ?_
  refine .rec (vts2 := [(1, .vp (encS s).cells),(2, .vp [.int .i64 k.1, .int .i64 k.2]),(3, .vp [.int .i64 now]),(4, .vp [.int .i64 id])]) (vh2 := ⟨1,[]⟩) (.mk [0] [] (by repeat' (first | exact trivial | refine And.intro (Exists.intro _ (And.intro rfl ?_)) ?_ | exact Alt.fptr 0 0 _ rfl rfl rfl (Nat.zero_le _) | (refine Alt.same _ ?_; first | rfl | (simp [*]; done)))) zz15 rfl rfl rfl) ?_
  refine .regionL [0,1,2,3,4] rfl zz0 ?_
  refine .rn [0,1] [2,3,4] ?_
  refine .step rfl rfl (.pure rfl rfl rfl Tryz.call117 (by decide) (p117 s (fun w => !decide (w.id = id)) 136 [] [.vp [.int .i64 id]] (by omega) (checkS_lens h) rfl rfl Tryz.call136 (fun w _ => p136 w id)) (by first | rfl | simp [*]) ?_)
  rintro _ rfl
  refine .rn [3,4] [] ?_
  refine .done ?_
  refine .seq ?_
  refine .drawn (ms := [0,0,2,7,15,31,31,95,255,511,1023,2047,2047,8191,2047,32767,65535,131071]) (W := [13]) (items := [.op 0, .op 1, .op 2, .op 3, .op 4, .op 5, .op 6, .op 7, .op 8, .op 9, .op 10, .op 11, .op 12, .op 14, .op 13, .ck 14, .op 15, .op 16, .op 17]) rfl zz0 zz0 zz0 ?_
  refine .rd rfl rfl (by decide) rfl (by decide) zz1 ?_   -- 0
  refine .rd rfl rfl (by decide) rfl (by decide) zz1 ?_   -- 1
  refine .rd rfl rfl (by decide) rfl (by decide) zz1 ?_   -- 2
  refine .rd rfl rfl (by decide) rfl (by decide) zz1 ?_   -- 3
  refine .rd rfl rfl (by decide) rfl (by decide) zz1 ?_   -- 4
  refine .split (t := 14) rfl (fun c14 => ?_) (fun c14 => ?_)
  · try rw [c14]
    try simp at c14
    refine .un rfl rfl (by decide) ?_   -- 5
    refine .un rfl rfl (by decide) ?_   -- 6
    refine .un rfl rfl (by decide) ?_   -- 7
    refine .un rfl rfl (by decide) ?_   -- 8
    refine .rd rfl rfl (by decide) rfl (by decide) zz1 ?_   -- 9
    refine .rd rfl rfl (by decide) rfl (by decide) zz1 ?_   -- 10
    refine .un rfl rfl (by decide) ?_   -- 11
    refine .un rfl rfl (by decide) ?_   -- 12
    refine .un rfl rfl (by decide) ?_   -- 14
    refine .un rfl rfl (by decide) ?_   -- 13
    refine .ckU rfl rfl rfl ?_   -- 14
    refine .un rfl rfl (by decide) ?_   -- 15
    refine .rd rfl rfl (by decide) rfl (by decide) zz1 ?_   -- 16
    refine .rd rfl rfl (by decide) rfl (by decide) zz1 ?_   -- 17
    refine .done ?_
    refine .ret ?_
    refine ⟨_, _, zz4,zz4, ?_⟩
    simp [delB, c14]
  · try rw [c14]
    try simp at c14
    refine .rd rfl rfl (by decide) rfl (by decide) zz1 ?_   -- 5
    refine .rd rfl rfl (by decide) rfl (by decide) zz1 ?_   -- 6
    refine .rd rfl rfl (by decide) rfl (by decide) zz1 ?_   -- 7
    refine .rd rfl rfl (by decide) rfl (by decide) zz1 ?_   -- 8
    refine .rd rfl rfl (by decide) rfl (by decide) zz1 ?_   -- 9
    refine .rd rfl rfl (by decide) rfl (by decide) zz1 ?_   -- 10
    refine .split (t := 20) rfl (fun c20 => ?_) (fun c20 => ?_)
    · try rw [c20]
      try simp at c20
      refine .un rfl rfl (by decide) ?_   -- 11
      refine .un rfl rfl (by decide) ?_   -- 12
      refine .un rfl rfl (by decide) ?_   -- 14
      refine .un rfl rfl (by decide) ?_   -- 13
      refine .ckU rfl rfl rfl ?_   -- 14
      refine .un rfl rfl (by decide) ?_   -- 15
      refine .rd rfl rfl (by decide) rfl (by decide) zz1 ?_   -- 16
      refine .rd rfl rfl (by decide) rfl (by decide) zz1 ?_   -- 17
      refine .done ?_
      refine .ret ?_
      refine ⟨_, _, zz4,zz4, ?_⟩
      simp [delB, c14, c20]
    · try rw [c20]
      try simp at c20
      refine .rd rfl rfl (by decide) rfl (by decide) zz1 ?_   -- 11
      refine .rd rfl rfl (by decide) rfl (by decide) zz1 ?_   -- 12
      refine .rd rfl rfl (by decide) rfl (by decide) zz1 ?_   -- 14
      refine .wr rfl rfl (by decide) (.pure rfl rfl rfl Tryz.call133 (by decide) (p133 (lessI s id) k hll) (by first | rfl | simp [*]) ?_)
      rintro _ rfl
      refine .ck rfl zz0 ?_   -- 14
      refine .rd rfl rfl (by decide) rfl (by decide) zz1 ?_   -- 15
      refine .rd rfl rfl (by decide) rfl (by decide) zz1 ?_   -- 16
      refine .rd rfl rfl (by decide) rfl (by decide) zz1 ?_   -- 17
      refine .done ?_
      refine .ret ?_
      refine ⟨_, _, zz4,zz4, ?_⟩
      simp [delB, c14, c20, dec_beq]
theorem p57a (s : List Wit) (k : Int × Int) (hl : s.length < 4294967296) : VPure Tryz.prog 57 [encS s, .agg [.int .i64 k.1, .int .i64 k.2]] fun r => Soft r (.tup [ints (if kinE (kinR s k.1 k.2) = 0 then resL s k else []), .int .i64 (kinE (kinR s k.1 k.2))]) := by
  refine .of_body Tryz.func57 rfl rfl ?_
  rcases hk : kinR s k.1 k.2 with e | c | ⟨c, p⟩
  ·
    have he := kinR_err hk
    have hp100 := p100 s k.1 k.2 hl
    rw [hk] at hp100
    simp only [KinR.enc] at hp100
    refine .seq ?_
    refine .rn ?_
    refine .seq ?_
    refine .seq ?_
    refine .regionL [0,1,2,3,4,5,6,7,8,9,10] rfl zz0 ?_
    refine .rn [0,1] [2,3,4,5,6,7,8,9,10] ?_
    refine .step rfl rfl (.pure rfl rfl rfl Tryz.call100 (by decide) (hp100) (by first | rfl | simp [*]) ?_)
    rintro _ rfl
    refine .rn [3,4,5,6,7,8,9,10] [] ?_
    refine .done ?_
    refine .seq ?_
    refine .rn ?_
    refine .condS rfl (fun c18 => ?_) (fun c18 => ?_)
    · try simp at c18
      refine .seq ?_
      refine .rn ?_
      refine .ret ?_
      refine ⟨_, _, zz4,zz4, ?_⟩
      rw [show kinE (.err e) = e from rfl, if_neg he]
      exact soft_tup (AltL.cons .sl0v (AltL.cons (.same _ rfl) AltL.nil))
    · try simp at c18
      exact absurd c18 he
  ·
    obtain ⟨hc0, hg, -⟩ := kinR_text hk
    have hl24 := (checkS_ok hc0).1
    have hne : 0 < s.length := List.length_pos_iff.2 (List.ne_nil_of_mem (getW_mem hg).1)
    have hl2 : (idsS s).length < 4294967296 := by have := idsS_len s; omega
    have hne2 : 0 < (idsS s).length := by have := idsS_len s; omega
    have hp100 := p100 s k.1 k.2 hl
    rw [hk] at hp100
    simp only [KinR.enc] at hp100
    have hE : encW c = .agg [.int .i64 c.id, .int .i64 c.known, ints c.slips, ints c.mended, ints c.models, .int .i64 c.lo, .int .i64 c.hi] := rfl
    refine .seq ?_
    refine .rn ?_
    refine .seq ?_
    refine .seq ?_
    refine .regionL [0,1,2,3,4,5,6,7,8,9,10] rfl zz0 ?_
    refine .rn [0,1] [2,3,4,5,6,7,8,9,10] ?_
    refine .step rfl rfl (.pure rfl rfl rfl Tryz.call100 (by decide) (hp100) (by first | rfl | simp [*]) ?_)
    rintro _ rfl
    refine .rn [3,4,5,6,7,8,9,10] [] ?_
    refine .done ?_
    refine .seq ?_
    refine .rn ?_
    refine .condS rfl (fun c18 => ?_) (fun c18 => ?_)
    · try simp at c18
    · try simp at c18
      refine .skip ?_
      refine .seq ?_
      refine .regionL [0,1,2,3,4] rfl zz0 ?_
      refine .rn [0,1] [2,3,4] ?_
      refine .step rfl rfl (.pure rfl rfl rfl Tryz.call133 (by decide) (p133 s k hl24) (by first | rfl | simp [*]) ?_)
      rintro _ rfl
      refine .rn [3,4] [] ?_
      refine .done ?_
      refine .seq ?_
      refine .rec (vts2 := [(2, .vp (encS s).cells),(3, .vp [.int .i64 k.1, .int .i64 k.2]),(9, .vp [.int .i64 (isK s k)])]) (vh2 := ⟨4,[]⟩) (.mk [0,1,2,3] [] (by repeat' (first | exact trivial | refine And.intro (Exists.intro _ (And.intro rfl ?_)) ?_ | exact Alt.fptr 0 0 _ rfl rfl rfl (Nat.zero_le _) | exact Alt.fptr 1 0 _ rfl rfl rfl (Nat.zero_le _) | exact Alt.fptr 3 0 _ rfl rfl rfl (Nat.zero_le _))) zz15 rfl rfl rfl) ?_
      refine .regionL [0,1,2,3,4,5] rfl zz0 ?_
      refine .rn [0] [1,2,3,4,5] ?_
      refine .step rfl rfl (.call rfl rfl rfl Tryz.call99 (by decide) (((VCall.fresh' (by simp) (p99g s hl hne) rfl hne2)).mono ?_))
      rintro _ _ ⟨rfl, rfl⟩
      refine .rn [2] [3,4,5] ?_
      refine .step rfl rfl (.call rfl rfl rfl Tryz.call134 (by decide) (((give134 (idsS s) (fun a => delB s k (isK s k) a) 135 [] [.vp (encS s).cells, .vp [.int .i64 k.1, .int .i64 k.2], .vp [.int .i64 (isK s k)]] hl2 hne2 rfl rfl Tryz.call135 (fun a _ => p135 s k (isK s k) a hc0) 4 false rfl)).mono ?_))
      rintro _ _ ⟨rfl, rfl⟩
      refine .rn [4,5] [] ?_
      refine .done ?_
      refine .ret ?_
      refine ⟨_, _, zz4,zz4, ?_⟩
      rw [show kinE (.text c) = 0 from rfl, if_pos rfl]
      show Soft _ _
      exact soft_rfl rfl
  ·
    obtain ⟨hc0, hg, -, hg2⟩ := kinR_of hk
    have hl24 := (checkS_ok hc0).1
    have hne : 0 < s.length := List.length_pos_iff.2 (List.ne_nil_of_mem (getW_mem hg).1)
    have hl2 : (idsS s).length < 4294967296 := by have := idsS_len s; omega
    have hne2 : 0 < (idsS s).length := by have := idsS_len s; omega
    have hp100 := p100 s k.1 k.2 hl
    rw [hk] at hp100
    simp only [KinR.enc] at hp100
    have hE : encW c = .agg [.int .i64 c.id, .int .i64 c.known, ints c.slips, ints c.mended, ints c.models, .int .i64 c.lo, .int .i64 c.hi] := rfl
    refine .seq ?_
    refine .rn ?_
    refine .seq ?_
    refine .seq ?_
    refine .regionL [0,1,2,3,4,5,6,7,8,9,10] rfl zz0 ?_
    refine .rn [0,1] [2,3,4,5,6,7,8,9,10] ?_
    refine .step rfl rfl (.pure rfl rfl rfl Tryz.call100 (by decide) (hp100) (by first | rfl | simp [*]) ?_)
    rintro _ rfl
    refine .rn [3,4,5,6,7,8,9,10] [] ?_
    refine .done ?_
    refine .seq ?_
    refine .rn ?_
    refine .condS rfl (fun c18 => ?_) (fun c18 => ?_)
    · try simp at c18
    · try simp at c18
      refine .skip ?_
      refine .seq ?_
      refine .regionL [0,1,2,3,4] rfl zz0 ?_
      refine .rn [0,1] [2,3,4] ?_
      refine .step rfl rfl (.pure rfl rfl rfl Tryz.call133 (by decide) (p133 s k hl24) (by first | rfl | simp [*]) ?_)
      rintro _ rfl
      refine .rn [3,4] [] ?_
      refine .done ?_
      refine .seq ?_
      refine .rec (vts2 := [(2, .vp (encS s).cells),(3, .vp [.int .i64 k.1, .int .i64 k.2]),(9, .vp [.int .i64 (isK s k)])]) (vh2 := ⟨4,[]⟩) (.mk [0,1,2,3] [] (by repeat' (first | exact trivial | refine And.intro (Exists.intro _ (And.intro rfl ?_)) ?_ | exact Alt.fptr 0 0 _ rfl rfl rfl (Nat.zero_le _) | exact Alt.fptr 1 0 _ rfl rfl rfl (Nat.zero_le _) | exact Alt.fptr 3 0 _ rfl rfl rfl (Nat.zero_le _))) zz15 rfl rfl rfl) ?_
      refine .regionL [0,1,2,3,4,5] rfl zz0 ?_
      refine .rn [0] [1,2,3,4,5] ?_
      refine .step rfl rfl (.call rfl rfl rfl Tryz.call99 (by decide) (((VCall.fresh' (by simp) (p99g s hl hne) rfl hne2)).mono ?_))
      rintro _ _ ⟨rfl, rfl⟩
      refine .rn [2] [3,4,5] ?_
      refine .step rfl rfl (.call rfl rfl rfl Tryz.call134 (by decide) (((give134 (idsS s) (fun a => delB s k (isK s k) a) 135 [] [.vp (encS s).cells, .vp [.int .i64 k.1, .int .i64 k.2], .vp [.int .i64 (isK s k)]] hl2 hne2 rfl rfl Tryz.call135 (fun a _ => p135 s k (isK s k) a hc0) 4 false rfl)).mono ?_))
      rintro _ _ ⟨rfl, rfl⟩
      refine .rn [4,5] [] ?_
      refine .done ?_
      refine .ret ?_
      refine ⟨_, _, zz4,zz4, ?_⟩
      rw [show kinE (.of c p) = 0 from rfl, if_pos rfl]
      show Soft _ _
      exact soft_rfl rfl
theorem p57 (s : List Wit) (x y : Int) (hl : s.length < 4294967296) : VPure Tryz.prog 57 [encS s, .agg [.int .i64 x, .int .i64 y]] fun r => r = .tup [ints (if kinE (kinR s x y) = 0 then resL s (x, y) else []), .int .i64 (kinE (kinR s x y))] := VPure.soft (p57a s (x, y) hl) rfl
theorem p58k (s : List Wit) (x y : Int) (hl : s.length ≤ 24) : VPure Tryz.prog 58 [encS s, .agg [.int .i64 x, .int .i64 y]] fun r => r = .int .i64 (isK s (x, y)) := p58 s (x, y) hl
theorem p36r (s : List Wit) (h : checkS s = 0) (o : Int) : VPure Tryz.prog 36 [encS s, ints [o]] fun r => r = .tup [encS (lessI s o), .int .i64 0] := by
  have := p36 s [o] (by have := (checkS_ok h).1; omega) (by simp)
  rw [if_pos h, h] at this
  rw [show lessI s o = s.filter fun w => !decide (w.id ∈ setK [[o]]) from by unfold lessI; congr 1; funext w; congr 1; rw [decide_eq_decide, mem_setK1]; simp]
  exact this
end Go.Am.Ds
end
section
namespace Go.Am.Ds
open Go Go.Am Go.Proofs
set_option maxRecDepth 100000
set_option maxHeartbeats 4000000
set_option linter.unusedSimpArgs false
set_option linter.unusedVariables false
attribute [local simp] vrun vwanted vyielded vop vopA vputAll VHeap.back hidI hidF backL bm Nat.testBit_eq_decide_div_mod_eq veval vevals vparts vO vbuiltin vlen vappend velems vcopy vmakeSlice vbuildSlice valloc vbox vmakeMap vload vpartT vpart vstore vfieldAddr vfield vindexAddr vindex vextract vslice vsliceZ vbounds vbnd zeroO vidx vlookup vmget vmapUpdate vdelete vclear vnilq vnilp vnils vbin vsc vsc1 vscs vscl abinOp aint ashift aunOp aconvert amaxs amax2 pvcV pvc pvcs tput tget vargs VHeap.get VHeap.alloc VHeap.put VHeap.drop VHeap.empty vlook vput vdrop psplice pfill preps chunk List.range List.range.loop vresults vresult vresultV frz frzL PV.isF PV.allF PV.scal PV.allS retP subT allFT PV.one PV.ids PV.idsL dropL beq_eq ble_dec blt_dec
attribute [local simp] zW tup2
theorem p10 (s : List Wit) (a b c : Int) (ha : 0 ≤ a ∧ a ≤ 255) (hb : 0 ≤ b ∧ b ≤ 255) (hc : 0 ≤ c ∧ c ≤ 255) (hl : s.length < 4611686018427387904) (sanB : Bool) (hsan : VPure Tryz.prog 22 [] fun r => r = .bool sanB) (hsb : sanB = true) : VPure Tryz.prog 10 [encS s, .int .u8 a, .int .u8 b, .int .u8 c] fun r => r = .bool true := by
  refine .of_body Tryz.func10 rfl rfl ?_
  refine .seq ?_
  refine .rn ?_
  refine .seq ?_
  refine .seq ?_
  refine .regionL [0,1,2,3,4,5,6,7,8,9,10,11,12,13] rfl zz0 ?_
  refine .rn [0] [1,2,3,4,5,6,7,8,9,10,11,12,13] ?_
  refine .step rfl rfl (.pure rfl rfl rfl Tryz.call21 (by decide) (p21 s hl) (by first | rfl | simp [*]) ?_)
  rintro _ rfl
  refine .rn [2,3] [4,5,6,7,8,9,10,11,12,13] ?_
  refine .split (t := 25) rfl (fun c25 => ?_) (fun c25 => ?_)
  · try rw [c25]
    try simp at c25
    refine .rn [4,5,6,7,8,9,10,11,12,13] [] ?_
    refine .done ?_
    refine .condT rfl ?_
    refine .seq ?_
    refine .regionL [0,1] rfl zz0 ?_
    refine .step rfl rfl (.pure rfl rfl rfl Tryz.call22 (by decide) (hsan) (by first | rfl | simp [*]) ?_)
    rintro _ rfl
    refine .rn [1] [] ?_
    refine .done ?_
    refine .ret ?_
    refine ⟨_, _, zz4,zz4, ?_⟩
    first | rfl | (simp [*]; done) | (simp_all; done)
  · try rw [c25]
    try simp at c25
    have hl2 := smallS_len c25
    refine .rn [4,5,6,7,8,9] [10,11,12,13] ?_
    refine .split (t := 31) rfl (fun c31 => ?_) (fun c31 => ?_)
    · try rw [c31]
      try simp at c31
      refine .rn [10,11,12,13] [] ?_
      refine .done ?_
      refine .condT rfl ?_
      refine .seq ?_
      refine .regionL [0,1] rfl zz0 ?_
      refine .step rfl rfl (.pure rfl rfl rfl Tryz.call22 (by decide) (hsan) (by first | rfl | simp [*]) ?_)
      rintro _ rfl
      refine .rn [1] [] ?_
      refine .done ?_
      refine .ret ?_
      refine ⟨_, _, zz4,zz4, ?_⟩
      first | rfl | (simp [*]; done) | (simp_all; done)
    · try rw [c31]
      try simp at c31
      refine .rn [10] [11,12,13] ?_
      refine .step rfl rfl (.pure rfl rfl rfl Tryz.call35 (by decide) (p35 s (by omega)) (by first | rfl | simp [*]) ?_)
      rintro _ rfl
      refine .rn [12,13] [] ?_
      refine .done ?_
      refine .condS rfl (fun c35 => ?_) (fun c35 => ?_)
      · try simp at c35
        refine .seq ?_
        refine .regionL [0,1] rfl zz0 ?_
        refine .step rfl rfl (.pure rfl rfl rfl Tryz.call22 (by decide) (hsan) (by first | rfl | simp [*]) ?_)
        rintro _ rfl
        refine .rn [1] [] ?_
        refine .done ?_
        refine .ret ?_
        refine ⟨_, _, zz4,zz4, ?_⟩
        first | rfl | (simp [*]; done) | (simp_all; done)
      · try simp at c35
        have hwa : IntKind.i64.wrap a = a := wrap64 (by omega) (by omega)
        have hwb : IntKind.i64.wrap b = b := wrap64 (by omega) (by omega)
        have hwc : IntKind.i64.wrap c = c := wrap64 (by omega) (by omega)
        have hwl : IntKind.i64.wrap ((s.length : Int) + 1) = (s.length : Int) + 1 := wrap64 (by omega) (by omega)
        have hne : s ≠ [] := by rintro rfl; simp at c31
        obtain ⟨i, hi, hia⟩ : ∃ i : Nat, i < s.length ∧ a.tmod (s.length : Int) = (i : Int) := by
          have h1 := Int.tmod_nonneg (s.length : Int) ha.1
          have h2 := Int.tmod_lt_of_pos a (show (0 : Int) < (s.length : Int) by omega)
          exact ⟨(a.tmod s.length).toNat, by omega, by omega⟩
        obtain ⟨o, ho, hoc⟩ : ∃ i : Nat, i < s.length ∧ c.tmod (s.length : Int) = (i : Int) := by
          have h1 := Int.tmod_nonneg (s.length : Int) hc.1
          have h2 := Int.tmod_lt_of_pos c (show (0 : Int) < (s.length : Int) by omega)
          exact ⟨(c.tmod s.length).toNat, by omega, by omega⟩
        obtain ⟨j, hj, hjb⟩ : ∃ j : Nat, j < s.length + 1 ∧ b.tmod ((s.length : Int) + 1) = (j : Int) := by
          have h1 := Int.tmod_nonneg ((s.length : Int) + 1) hb.1
          have h2 := Int.tmod_lt_of_pos b (show (0 : Int) < (s.length : Int) + 1 by omega)
          exact ⟨(b.tmod ((s.length : Int) + 1)).toNat, by omega, by omega⟩
        have hnz : ¬ ((s.length : Int) + 1 = 0) := by omega
        have hEi : encW s[i] = .agg [.int .i64 s[i].id, .int .i64 s[i].known, ints s[i].slips, ints s[i].mended, ints s[i].models, .int .i64 s[i].lo, .int .i64 s[i].hi] := rfl
        have hEo : encW s[o] = .agg [.int .i64 s[o].id, .int .i64 s[o].known, ints s[o].slips, ints s[o].mended, ints s[o].models, .int .i64 s[o].lo, .int .i64 s[o].hi] := rfl
        refine .skip ?_
        refine .seq ?_
        refine .drawn (ms := [0,1,0,4,0,16,48,124,255,511,1023,2047,0,8191]) (W := [12,13]) (items := [.op 0, .op 1, .op 2, .op 3, .op 4, .op 5, .op 6, .op 7, .op 8, .op 9, .op 10, .op 11, .op 12, .ck 10, .ck 6, .ck 5, .ck 1, .op 13]) rfl zz0 zz0 zz0 ?_
        refine .rd rfl rfl (by decide) rfl (by decide) zz1 ?_   -- 0
        refine .rd rfl rfl (by decide) rfl (by decide) zz1 ?_   -- 1
        refine .rd rfl rfl (by decide) rfl (by decide) zz1 ?_   -- 2
        refine .rd rfl rfl (by decide) rfl (by decide) zz1 ?_   -- 3
        refine .rd rfl rfl (by decide) rfl (by decide) zz1 ?_   -- 4
        refine .rd rfl rfl (by decide) rfl (by decide) zz1 ?_   -- 5
        refine .rd rfl rfl (by decide) rfl (by decide) zz1 ?_   -- 6
        refine .rd rfl rfl (by decide) rfl (by decide) zz1 ?_   -- 7
        refine .rd rfl rfl (by decide) rfl (by decide) zz1 ?_   -- 8
        refine .rd rfl rfl (by decide) rfl (by decide) zz1 ?_   -- 9
        refine .rd rfl rfl (by decide) rfl (by decide) zz1 ?_   -- 10
        refine .rd rfl rfl (by decide) rfl (by decide) zz1 ?_   -- 11
        refine .wr rfl rfl (by decide) (.vop zz1 (by decide) ?_)   -- 12
        refine .ck rfl zz0 ?_   -- 10
        refine .ck rfl zz0 ?_   -- 6
        refine .ck rfl zz0 ?_   -- 5
        refine .ck rfl zz0 ?_   -- 1
        refine .wr rfl rfl (by decide) (.vop zz1 (by decide) ?_)   -- 13
        refine .done ?_
        refine .seq ?_
        refine .seq ?_
        refine .rn ?_
        refine .seq ?_
        refine .rn ?_
        refine .condS rfl (fun c57 => ?_) (fun c57 => ?_)
        · try simp at c57
          have hj2 : j - 1 < s.length := by omega
          have hwj : IntKind.i64.wrap ((j : Int) - 1) = ((j - 1 : Nat) : Int) := by rw [wrap64 (by omega) (by omega)]; omega
          have hEj : encW s[j - 1] = .agg [.int .i64 s[j - 1].id, .int .i64 s[j - 1].known, ints s[j - 1].slips, ints s[j - 1].mended, ints s[j - 1].models, .int .i64 s[j - 1].lo, .int .i64 s[j - 1].hi] := rfl
          obtain ⟨q1, q2, q3, q4, q5, q6⟩ := rests_end c35 (List.getElem_mem hi) (List.getElem_mem ho) s[j - 1].id (.inr ⟨s[j - 1], List.getElem_mem hj2, rfl⟩)
          have hrl := resL_len s (s[i].id, s[j - 1].id)
          have hll : (lessI s s[o].id).length ≤ 24 := Nat.le_trans (List.length_filter_le _ _) (by omega)
          have hml := modL_len7 s s[o].id (by omega)
          have hif : (if kinE (kinR s s[i].id s[j - 1].id) = 0 then resL s (s[i].id, s[j - 1].id) else []) = resL s (s[i].id, s[j - 1].id) := by rw [if_pos q1]
          refine .rn ?_
          refine .seq ?_
          refine .drawn (ms := [0,1,0,4,0,16,48,124,255,511,1023,2047]) (W := []) (items := [.op 0, .op 1, .op 2, .op 3, .op 4, .op 5, .op 6, .op 7, .op 8, .op 9, .op 10, .op 11]) rfl zz0 zz0 zz0 ?_
          refine .rd rfl rfl (by decide) rfl (by decide) zz1 ?_   -- 0
          refine .rd rfl rfl (by decide) rfl (by decide) zz1 ?_   -- 1
          refine .rd rfl rfl (by decide) rfl (by decide) zz1 ?_   -- 2
          refine .rd rfl rfl (by decide) rfl (by decide) zz1 ?_   -- 3
          refine .rd rfl rfl (by decide) rfl (by decide) zz1 ?_   -- 4
          refine .rd rfl rfl (by decide) rfl (by decide) zz1 ?_   -- 5
          refine .rd rfl rfl (by decide) rfl (by decide) zz1 ?_   -- 6
          refine .rd rfl rfl (by decide) rfl (by decide) zz1 ?_   -- 7
          refine .rd rfl rfl (by decide) rfl (by decide) zz1 ?_   -- 8
          refine .rd rfl rfl (by decide) rfl (by decide) zz1 ?_   -- 9
          refine .rd rfl rfl (by decide) rfl (by decide) zz1 ?_   -- 10
          refine .rd rfl rfl (by decide) rfl (by decide) zz1 ?_   -- 11
          refine .done ?_
          refine .seq ?_
          refine .regionL [0,1,2,3,4,5,6,7] rfl zz0 ?_
          refine .rn [0,1] [2,3,4,5,6,7] ?_
          refine .step rfl rfl (.pure rfl rfl rfl Tryz.call57 (by decide) ((by have h := p57 s s[i].id s[j - 1].id (by omega); rw [hif, q1] at h; exact h)) (by first | rfl | simp [*]) ?_)
          rintro _ rfl
          refine .rn [3,4,5,6,7] [] ?_
          refine .done ?_
          refine .seq ?_
          refine .regionL [0,1,2,3,4,5,6,7,8,9] rfl zz0 ?_
          refine .rn [0,1,2] [3,4,5,6,7,8,9] ?_
          refine .step rfl rfl (.take rfl rfl rfl Tryz.call36 (by decide) (by first | (simp <;> rfl) | (simp [*] <;> rfl) | (simp [*]; done)) (p36r s c35 s[o].id) ?_)
          rintro _ rfl
          refine .rn [4,5,6,7,8,9] [] ?_
          refine .done ?_
          refine .seq ?_
          refine .seq ?_
          refine .regionL [0,1,2,3,4,5,6,7,8,9,10,11,12,13,14,15,16,17] rfl zz0 ?_
          refine .rn [0,1,2] [3,4,5,6,7,8,9,10,11,12,13,14,15,16,17] ?_
          refine .split (t := 92) rfl (fun c92 => ?_) (fun c92 => ?_)
          · try rw [c92]
            try simp at c92
          · try rw [c92]
            try simp at c92
            refine .rn [3,4,5,6] [7,8,9,10,11,12,13,14,15,16,17] ?_
            refine .split (t := 96) rfl (fun c96 => ?_) (fun c96 => ?_)
            · try rw [c96]
              try simp at c96
            · try rw [c96]
              try simp at c96
              refine .rn [7,8,9] [10,11,12,13,14,15,16,17] ?_
              refine .step rfl rfl (.pure rfl rfl rfl Tryz.call46 (by decide) (p46 (resL s (s[i].id, s[j - 1].id)) s[i].id (by omega)) (by first | rfl | simp [*]) ?_)
              rintro _ rfl
              refine .rn [11,12] [13,14,15,16,17] ?_
              refine .split (t := 102) rfl (fun c102 => ?_) (fun c102 => ?_)
              · try rw [c102]
                try simp at c102
              · try rw [c102]
                try simp at c102
                refine .rn [13,14,15] [16,17] ?_
                refine .step rfl rfl (.pure rfl rfl rfl Tryz.call46 (by decide) (p46 (resL s (s[i].id, s[j - 1].id)) s[j - 1].id (by omega)) (by first | rfl | simp [*]) ?_)
                rintro _ rfl
                refine .rn [17] [] ?_
                refine .done ?_
                refine .condS rfl (fun c107 => ?_) (fun c107 => ?_)
                · try simp at c107
                · try simp at c107
                  refine .skip ?_
                  refine .seq ?_
                  refine .seq ?_
                  refine .regionL [0,1,2,3,4,5,6,7,8,9] rfl zz0 ?_
                  refine .rn [0,1,2,3,4] [5,6,7,8,9] ?_
                  refine .split (t := 112) rfl (fun c112 => ?_) (fun c112 => ?_)
                  · try rw [c112]
                    try simp at c112
                    refine .rn [5,6,7,8,9] [] ?_
                    refine .done ?_
                    refine .condT rfl ?_
                    refine .seq ?_
                    refine .regionL [0,1] rfl zz0 ?_
                    refine .step rfl rfl (.pure rfl rfl rfl Tryz.call22 (by decide) (hsan) (by first | rfl | simp [*]) ?_)
                    rintro _ rfl
                    refine .rn [1] [] ?_
                    refine .done ?_
                    refine .ret ?_
                    refine ⟨_, _, zz4,zz4, ?_⟩
                    first | rfl | (simp [*]; done) | (simp_all; done)
                  · try rw [c112]
                    try simp at c112
                    refine .rn [5,6,7,8,9] [] ?_
                    refine .done ?_
                    refine .condS rfl (fun c117 => ?_) (fun c117 => ?_)
                    · try simp at c117
                      refine .seq ?_
                      refine .regionL [0,1] rfl zz0 ?_
                      refine .step rfl rfl (.pure rfl rfl rfl Tryz.call22 (by decide) (hsan) (by first | rfl | simp [*]) ?_)
                      rintro _ rfl
                      refine .rn [1] [] ?_
                      refine .done ?_
                      refine .ret ?_
                      refine ⟨_, _, zz4,zz4, ?_⟩
                      first | rfl | (simp [*]; done) | (simp_all; done)
                    · try simp at c117
                      have hr := q4 c112 c117
                      refine .skip ?_
                      refine .seq ?_
                      refine .drawn (ms := [0,0,3,0,0,31,63,127]) (W := [2,5]) (items := [.op 0, .op 1, .op 3, .op 4, .op 2, .ck 4, .ck 3, .op 5, .op 6, .op 7]) rfl zz0 zz0 zz0 ?_
                      refine .rd rfl rfl (by decide) rfl (by decide) zz1 ?_   -- 0
                      refine .rd rfl rfl (by decide) rfl (by decide) zz1 ?_   -- 1
                      refine .rd rfl rfl (by decide) rfl (by decide) zz1 ?_   -- 3
                      refine .rd rfl rfl (by decide) rfl (by decide) zz1 ?_   -- 4
                      refine .wr rfl rfl (by decide) (.pure rfl rfl rfl Tryz.call58 (by decide) (p58k s s[i].id s[j - 1].id (by omega)) (by first | rfl | simp [*]) ?_)
                      rintro _ rfl
                      refine .ck rfl zz0 ?_   -- 4
                      refine .ck rfl zz0 ?_   -- 3
                      refine .wr rfl rfl (by decide) (.pure rfl rfl rfl Tryz.call58 (by decide) (p58k (lessI s s[o].id) s[i].id s[j - 1].id hll) (by first | rfl | simp [*]) ?_)
                      rintro _ rfl
                      refine .rd rfl rfl (by decide) rfl (by decide) zz1 ?_   -- 6
                      refine .rd rfl rfl (by decide) rfl (by decide) zz1 ?_   -- 7
                      refine .done ?_
                      refine .seq ?_
                      refine .seq ?_
                      refine .regionL [0,1,2,3,4] rfl zz0 ?_
                      refine .rn [0,1,2] [3,4] ?_
                      refine .step rfl rfl (.pure rfl rfl rfl Tryz.call46 (by decide) (p46 (resL s (s[i].id, s[j - 1].id)) s[o].id (by omega)) (by first | rfl | simp [*]) ?_)
                      rintro _ rfl
                      refine .rn [4] [] ?_
                      refine .done ?_
                      refine .condS rfl (fun c130 => ?_) (fun c130 => ?_)
                      · try simp at c130
                      · try simp at c130
                        refine .skip ?_
                        refine .seq ?_
                        refine .regionL [0,1,2,3,4,5,6,7] rfl zz0 ?_
                        refine .rn [0,1] [2,3,4,5,6,7] ?_
                        refine .step rfl rfl (.pure rfl rfl rfl Tryz.call30 (by decide) (p30' s s[o].id (by omega)) (by first | rfl | simp [*]) ?_)
                        rintro _ rfl
                        refine .rn [3,4,5,6,7] [] ?_
                        refine .done ?_
                        refine .seq ?_
                        refine .seq ?_
                        refine .regionL [0,1,2,3,4,5,6] rfl zz0 ?_
                        refine .rn [0,1,2] [3,4,5,6] ?_
                        refine .split (t := 139) rfl (fun c139 => ?_) (fun c139 => ?_)
                        · try rw [c139]
                          try simp at c139
                        · try rw [c139]
                          try simp at c139
                          refine .rn [3,4,5,6] [] ?_
                          refine .done ?_
                          refine .condS rfl (fun c143 => ?_) (fun c143 => ?_)
                          · try simp at c143
                            refine .seq ?_
                            refine .regionL [0,1,2,3,4,5] rfl zz0 ?_
                            refine .step rfl rfl (.pure rfl rfl rfl Tryz.call22 (by decide) (hsan) (by first | rfl | simp [*]) ?_)
                            rintro _ rfl
                            refine .rn [1] [2,3,4,5] ?_
                            refine .split (t := 145) rfl (fun c145 => ?_) (fun c145 => ?_)
                            · try rw [c145]
                              try simp at c145
                              refine .rn [2,3,4,5] [] ?_
                              refine .done ?_
                              refine .ret ?_
                              refine ⟨_, _, zz4,zz4, ?_⟩
                              first | rfl | (simp [*]; done) | (simp_all; done)
                            · try rw [c145]
                              try simp at c145
                          · try simp at c143
                            have hmo : modL s s[o].id ≠ [] := c143
                            refine .skip ?_
                            refine .seq ?_
                            refine .seq ?_
                            refine .rn ?_
                            refine .block ?_
                            refine .loopS (fun k : Nat => ([(4, .ptr 0 0),(11, .int .i64 s[o].id),(16, .bool (isK s (s[i].id, s[j - 1].id) == isK (lessI s s[o].id) (s[i].id, s[j - 1].id))),(19, .int .i64 k)], ⟨1,[(0, .box [.vec (s.map encW)])]⟩)) (fun k => k ≤ s.length ∧ ∀ w ∈ s.take k, canR (kinR s w.id s[o].id) = false) (fun k => s.length - k) 0 (by simp) (.mk [1,2,3] [] zz14 zz15 rfl rfl rfl) ?_
                            rintro k ⟨hk, hno⟩
                            simp only at hk hno ⊢
                            refine .seq ?_
                            refine .seq ?_
                            refine .rn ?_
                            refine .condS rfl (fun c153 => ?_) (fun c153 => ?_)
                            · try simp at c153
                              have hw2 : IntKind.i64.wrap ((k : Int) + 1) = (k : Int) + 1 := wrap64 (by omega) (by omega)
                              have hEk : encW s[k] = .agg [.int .i64 s[k].id, .int .i64 s[k].known, ints s[k].slips, ints s[k].mended, ints s[k].models, .int .i64 s[k].lo, .int .i64 s[k].hi] := rfl
                              have hq := q6 s[k] (List.getElem_mem c153)
                              refine .skip ?_
                              refine .seq ?_
                              refine .block ?_
                              refine .seq ?_
                              refine .drawn (ms := [0,0,2,0,14,30,62,0,254,511,1023,2047,2047,4095,16383]) (W := [9]) (items := [.op 0, .op 1, .op 2, .op 3, .op 4, .op 5, .op 6, .op 7, .op 8, .op 9, .op 10, .op 11, .op 12, .op 13, .op 14]) rfl zz0 zz0 zz0 ?_
                              refine .rd rfl rfl (by decide) rfl (by decide) zz1 ?_   -- 0
                              refine .rd rfl rfl (by decide) rfl (by decide) zz1 ?_   -- 1
                              refine .rd rfl rfl (by decide) rfl (by decide) zz1 ?_   -- 2
                              refine .rd rfl rfl (by decide) rfl (by decide) zz1 ?_   -- 3
                              refine .rd rfl rfl (by decide) rfl (by decide) zz1 ?_   -- 4
                              refine .rd rfl rfl (by decide) rfl (by decide) zz1 ?_   -- 5
                              refine .rd rfl rfl (by decide) rfl (by decide) zz1 ?_   -- 6
                              refine .rd rfl rfl (by decide) rfl (by decide) zz1 ?_   -- 7
                              refine .rd rfl rfl (by decide) rfl (by decide) zz1 ?_   -- 8
                              refine .wr rfl rfl (by decide) (.pure rfl rfl rfl Tryz.call27 (by decide) (p27 s s[k].id s[o].id (by omega)) (by first | rfl | simp [*]) ?_)
                              rintro _ rfl
                              refine .rd rfl rfl (by decide) rfl (by decide) zz1 ?_   -- 10
                              refine .rd rfl rfl (by decide) rfl (by decide) zz1 ?_   -- 11
                              refine .rd rfl rfl (by decide) rfl (by decide) zz1 ?_   -- 12
                              refine .rd rfl rfl (by decide) rfl (by decide) zz1 ?_   -- 13
                              refine .rd rfl rfl (by decide) rfl (by decide) zz1 ?_   -- 14
                              refine .done ?_
                              refine .seq ?_
                              refine .seq ?_
                              refine .rn ?_
                              refine .condS rfl (fun c170 => ?_) (fun c170 => ?_)
                              · try simp at c170
                              · try simp at c170
                                refine .skip ?_
                                refine .seq ?_
                                refine .rn ?_
                                refine .condS rfl (fun c171 => ?_) (fun c171 => ?_)
                                · try simp at c171
                                  refine .seq ?_
                                  refine .regionL [0,1] rfl zz0 ?_
                                  refine .step rfl rfl (.pure rfl rfl rfl Tryz.call22 (by decide) (hsan) (by first | rfl | simp [*]) ?_)
                                  rintro _ rfl
                                  refine .rn [1] [] ?_
                                  refine .done ?_
                                  refine .ret ?_
                                  refine ⟨_, _, zz4,zz4, ?_⟩
                                  first | rfl | (simp [*]; done) | (simp_all; done)
                                · try simp at c171
                                  refine .skip ?_
                                  refine .rn ?_
                                  refine ⟨k + 1, ⟨c153, ?_⟩, zz5,(.mk [] [] zz14 zz15 rfl rfl rfl)⟩
                                  intro w hw
                                  rw [List.take_succ_eq_append_getElem c153] at hw
                                  rcases List.mem_append.1 hw with hw | hw
                                  · exact hno w hw
                                  · rw [List.mem_singleton] at hw
                                    rw [hw]; exact c171
                            · try simp at c153
                              have hall : isK (lessI s s[o].id) (s[i].id, s[j - 1].id) = isK s (s[i].id, s[j - 1].id) := isK_less c35 (List.getElem_mem ho) hmo (fun w hw => hno w (by rw [List.take_of_length_le (by omega)]; exact hw)) (fun h => c112 h.symm)
                              refine .exit ?_
                              refine .seq ?_
                              refine .regionL [0,1,2,3,4] rfl zz0 ?_
                              refine .step rfl rfl (.pure rfl rfl rfl Tryz.call22 (by decide) (hsan) (by first | rfl | simp [*]) ?_)
                              rintro _ rfl
                              refine .rn [1] [2,3,4] ?_
                              refine .split (t := 174) rfl (fun c174 => ?_) (fun c174 => ?_)
                              · try rw [c174]
                                try simp at c174
                                refine .rn [2,3,4] [] ?_
                                refine .done ?_
                                refine .ret ?_
                                refine ⟨_, _, zz4,zz4, ?_⟩
                                first | rfl | (simp [*]; done) | (simp_all; done)
                              · try rw [c174]
                                try simp at c174
        · try simp at c57
          obtain ⟨q1, q2, q3, q4, q5, q6⟩ := rests_end c35 (List.getElem_mem hi) (List.getElem_mem ho) 0 (.inl rfl)
          have hrl := resL_len s (s[i].id, 0)
          have hll : (lessI s s[o].id).length ≤ 24 := Nat.le_trans (List.length_filter_le _ _) (by omega)
          have hml := modL_len7 s s[o].id (by omega)
          have hif : (if kinE (kinR s s[i].id 0) = 0 then resL s (s[i].id, 0) else []) = resL s (s[i].id, 0) := by rw [if_pos q1]
          refine .skip ?_
          refine .seq ?_
          refine .drawn (ms := [0,1,0,4,0,16,48,124,255,511,1023,2047]) (W := []) (items := [.op 0, .op 1, .op 2, .op 3, .op 4, .op 5, .op 6, .op 7, .op 8, .op 9, .op 10, .op 11]) rfl zz0 zz0 zz0 ?_
          refine .rd rfl rfl (by decide) rfl (by decide) zz1 ?_   -- 0
          refine .rd rfl rfl (by decide) rfl (by decide) zz1 ?_   -- 1
          refine .rd rfl rfl (by decide) rfl (by decide) zz1 ?_   -- 2
          refine .rd rfl rfl (by decide) rfl (by decide) zz1 ?_   -- 3
          refine .rd rfl rfl (by decide) rfl (by decide) zz1 ?_   -- 4
          refine .rd rfl rfl (by decide) rfl (by decide) zz1 ?_   -- 5
          refine .rd rfl rfl (by decide) rfl (by decide) zz1 ?_   -- 6
          refine .rd rfl rfl (by decide) rfl (by decide) zz1 ?_   -- 7
          refine .rd rfl rfl (by decide) rfl (by decide) zz1 ?_   -- 8
          refine .rd rfl rfl (by decide) rfl (by decide) zz1 ?_   -- 9
          refine .rd rfl rfl (by decide) rfl (by decide) zz1 ?_   -- 10
          refine .rd rfl rfl (by decide) rfl (by decide) zz1 ?_   -- 11
          refine .done ?_
          refine .seq ?_
          refine .regionL [0,1,2,3,4,5,6,7] rfl zz0 ?_
          refine .rn [0,1] [2,3,4,5,6,7] ?_
          refine .step rfl rfl (.pure rfl rfl rfl Tryz.call57 (by decide) ((by have h := p57 s s[i].id 0 (by omega); rw [hif, q1] at h; exact h)) (by first | rfl | simp [*]) ?_)
          rintro _ rfl
          refine .rn [3,4,5,6,7] [] ?_
          refine .done ?_
          refine .seq ?_
          refine .regionL [0,1,2,3,4,5,6,7,8,9] rfl zz0 ?_
          refine .rn [0,1,2] [3,4,5,6,7,8,9] ?_
          refine .step rfl rfl (.take rfl rfl rfl Tryz.call36 (by decide) (by first | (simp <;> rfl) | (simp [*] <;> rfl) | (simp [*]; done)) (p36r s c35 s[o].id) ?_)
          rintro _ rfl
          refine .rn [4,5,6,7,8,9] [] ?_
          refine .done ?_
          refine .seq ?_
          refine .seq ?_
          refine .regionL [0,1,2,3,4,5,6,7,8,9,10,11,12,13,14,15,16,17] rfl zz0 ?_
          refine .rn [0,1,2] [3,4,5,6,7,8,9,10,11,12,13,14,15,16,17] ?_
          refine .split (t := 92) rfl (fun c92 => ?_) (fun c92 => ?_)
          · try rw [c92]
            try simp at c92
          · try rw [c92]
            try simp at c92
            refine .rn [3,4,5,6] [7,8,9,10,11,12,13,14,15,16,17] ?_
            refine .split (t := 96) rfl (fun c96 => ?_) (fun c96 => ?_)
            · try rw [c96]
              try simp at c96
            · try rw [c96]
              try simp at c96
              refine .rn [7,8,9] [10,11,12,13,14,15,16,17] ?_
              refine .step rfl rfl (.pure rfl rfl rfl Tryz.call46 (by decide) (p46 (resL s (s[i].id, 0)) s[i].id (by omega)) (by first | rfl | simp [*]) ?_)
              rintro _ rfl
              refine .rn [11,12] [13,14,15,16,17] ?_
              refine .split (t := 102) rfl (fun c102 => ?_) (fun c102 => ?_)
              · try rw [c102]
                try simp at c102
              · try rw [c102]
                try simp at c102
                refine .rn [13,14,15] [16,17] ?_
                refine .step rfl rfl (.pure rfl rfl rfl Tryz.call46 (by decide) (p46 (resL s (s[i].id, 0)) 0 (by omega)) (by first | rfl | simp [*]) ?_)
                rintro _ rfl
                refine .rn [17] [] ?_
                refine .done ?_
                refine .condS rfl (fun c107 => ?_) (fun c107 => ?_)
                · try simp at c107
                · try simp at c107
                  refine .skip ?_
                  refine .seq ?_
                  refine .seq ?_
                  refine .regionL [0,1,2,3,4,5,6,7,8,9] rfl zz0 ?_
                  refine .rn [0,1,2,3,4] [5,6,7,8,9] ?_
                  refine .split (t := 112) rfl (fun c112 => ?_) (fun c112 => ?_)
                  · try rw [c112]
                    try simp at c112
                    refine .rn [5,6,7,8,9] [] ?_
                    refine .done ?_
                    refine .condT rfl ?_
                    refine .seq ?_
                    refine .regionL [0,1] rfl zz0 ?_
                    refine .step rfl rfl (.pure rfl rfl rfl Tryz.call22 (by decide) (hsan) (by first | rfl | simp [*]) ?_)
                    rintro _ rfl
                    refine .rn [1] [] ?_
                    refine .done ?_
                    refine .ret ?_
                    refine ⟨_, _, zz4,zz4, ?_⟩
                    first | rfl | (simp [*]; done) | (simp_all; done)
                  · try rw [c112]
                    try simp at c112
                    refine .rn [5,6,7,8,9] [] ?_
                    refine .done ?_
                    refine .condS rfl (fun c117 => ?_) (fun c117 => ?_)
                    · try simp at c117
                      refine .seq ?_
                      refine .regionL [0,1] rfl zz0 ?_
                      refine .step rfl rfl (.pure rfl rfl rfl Tryz.call22 (by decide) (hsan) (by first | rfl | simp [*]) ?_)
                      rintro _ rfl
                      refine .rn [1] [] ?_
                      refine .done ?_
                      refine .ret ?_
                      refine ⟨_, _, zz4,zz4, ?_⟩
                      first | rfl | (simp [*]; done) | (simp_all; done)
                    · try simp at c117
                      have hr := q4 c112 c117
                      refine .skip ?_
                      refine .seq ?_
                      refine .drawn (ms := [0,0,3,0,0,31,63,127]) (W := [2,5]) (items := [.op 0, .op 1, .op 3, .op 4, .op 2, .ck 4, .ck 3, .op 5, .op 6, .op 7]) rfl zz0 zz0 zz0 ?_
                      refine .rd rfl rfl (by decide) rfl (by decide) zz1 ?_   -- 0
                      refine .rd rfl rfl (by decide) rfl (by decide) zz1 ?_   -- 1
                      refine .rd rfl rfl (by decide) rfl (by decide) zz1 ?_   -- 3
                      refine .rd rfl rfl (by decide) rfl (by decide) zz1 ?_   -- 4
                      refine .wr rfl rfl (by decide) (.pure rfl rfl rfl Tryz.call58 (by decide) (p58k s s[i].id 0 (by omega)) (by first | rfl | simp [*]) ?_)
                      rintro _ rfl
                      refine .ck rfl zz0 ?_   -- 4
                      refine .ck rfl zz0 ?_   -- 3
                      refine .wr rfl rfl (by decide) (.pure rfl rfl rfl Tryz.call58 (by decide) (p58k (lessI s s[o].id) s[i].id 0 hll) (by first | rfl | simp [*]) ?_)
                      rintro _ rfl
                      refine .rd rfl rfl (by decide) rfl (by decide) zz1 ?_   -- 6
                      refine .rd rfl rfl (by decide) rfl (by decide) zz1 ?_   -- 7
                      refine .done ?_
                      refine .seq ?_
                      refine .seq ?_
                      refine .regionL [0,1,2,3,4] rfl zz0 ?_
                      refine .rn [0,1,2] [3,4] ?_
                      refine .step rfl rfl (.pure rfl rfl rfl Tryz.call46 (by decide) (p46 (resL s (s[i].id, 0)) s[o].id (by omega)) (by first | rfl | simp [*]) ?_)
                      rintro _ rfl
                      refine .rn [4] [] ?_
                      refine .done ?_
                      refine .condS rfl (fun c130 => ?_) (fun c130 => ?_)
                      · try simp at c130
                      · try simp at c130
                        refine .skip ?_
                        refine .seq ?_
                        refine .regionL [0,1,2,3,4,5,6,7] rfl zz0 ?_
                        refine .rn [0,1] [2,3,4,5,6,7] ?_
                        refine .step rfl rfl (.pure rfl rfl rfl Tryz.call30 (by decide) (p30' s s[o].id (by omega)) (by first | rfl | simp [*]) ?_)
                        rintro _ rfl
                        refine .rn [3,4,5,6,7] [] ?_
                        refine .done ?_
                        refine .seq ?_
                        refine .seq ?_
                        refine .regionL [0,1,2,3,4,5,6] rfl zz0 ?_
                        refine .rn [0,1,2] [3,4,5,6] ?_
                        refine .split (t := 139) rfl (fun c139 => ?_) (fun c139 => ?_)
                        · try rw [c139]
                          try simp at c139
                        · try rw [c139]
                          try simp at c139
                          refine .rn [3,4,5,6] [] ?_
                          refine .done ?_
                          refine .condS rfl (fun c143 => ?_) (fun c143 => ?_)
                          · try simp at c143
                            refine .seq ?_
                            refine .regionL [0,1,2,3,4,5] rfl zz0 ?_
                            refine .step rfl rfl (.pure rfl rfl rfl Tryz.call22 (by decide) (hsan) (by first | rfl | simp [*]) ?_)
                            rintro _ rfl
                            refine .rn [1] [2,3,4,5] ?_
                            refine .split (t := 145) rfl (fun c145 => ?_) (fun c145 => ?_)
                            · try rw [c145]
                              try simp at c145
                              refine .rn [2,3,4,5] [] ?_
                              refine .done ?_
                              refine .ret ?_
                              refine ⟨_, _, zz4,zz4, ?_⟩
                              first | rfl | (simp [*]; done) | (simp_all; done)
                            · try rw [c145]
                              try simp at c145
                          · try simp at c143
                            have hmo : modL s s[o].id ≠ [] := c143
                            refine .skip ?_
                            refine .seq ?_
                            refine .seq ?_
                            refine .rn ?_
                            refine .block ?_
                            refine .loopS (fun k : Nat => ([(4, .ptr 0 0),(11, .int .i64 s[o].id),(16, .bool (isK s (s[i].id, 0) == isK (lessI s s[o].id) (s[i].id, 0))),(19, .int .i64 k)], ⟨1,[(0, .box [.vec (s.map encW)])]⟩)) (fun k => k ≤ s.length ∧ ∀ w ∈ s.take k, canR (kinR s w.id s[o].id) = false) (fun k => s.length - k) 0 (by simp) (.mk [1,2,3] [] zz14 zz15 rfl rfl rfl) ?_
                            rintro k ⟨hk, hno⟩
                            simp only at hk hno ⊢
                            refine .seq ?_
                            refine .seq ?_
                            refine .rn ?_
                            refine .condS rfl (fun c153 => ?_) (fun c153 => ?_)
                            · try simp at c153
                              have hw2 : IntKind.i64.wrap ((k : Int) + 1) = (k : Int) + 1 := wrap64 (by omega) (by omega)
                              have hEk : encW s[k] = .agg [.int .i64 s[k].id, .int .i64 s[k].known, ints s[k].slips, ints s[k].mended, ints s[k].models, .int .i64 s[k].lo, .int .i64 s[k].hi] := rfl
                              have hq := q6 s[k] (List.getElem_mem c153)
                              refine .skip ?_
                              refine .seq ?_
                              refine .block ?_
                              refine .seq ?_
                              refine .drawn (ms := [0,0,2,0,14,30,62,0,254,511,1023,2047,2047,4095,16383]) (W := [9]) (items := [.op 0, .op 1, .op 2, .op 3, .op 4, .op 5, .op 6, .op 7, .op 8, .op 9, .op 10, .op 11, .op 12, .op 13, .op 14]) rfl zz0 zz0 zz0 ?_
                              refine .rd rfl rfl (by decide) rfl (by decide) zz1 ?_   -- 0
                              refine .rd rfl rfl (by decide) rfl (by decide) zz1 ?_   -- 1
                              refine .rd rfl rfl (by decide) rfl (by decide) zz1 ?_   -- 2
                              refine .rd rfl rfl (by decide) rfl (by decide) zz1 ?_   -- 3
                              refine .rd rfl rfl (by decide) rfl (by decide) zz1 ?_   -- 4
                              refine .rd rfl rfl (by decide) rfl (by decide) zz1 ?_   -- 5
                              refine .rd rfl rfl (by decide) rfl (by decide) zz1 ?_   -- 6
                              refine .rd rfl rfl (by decide) rfl (by decide) zz1 ?_   -- 7
                              refine .rd rfl rfl (by decide) rfl (by decide) zz1 ?_   -- 8
                              refine .wr rfl rfl (by decide) (.pure rfl rfl rfl Tryz.call27 (by decide) (p27 s s[k].id s[o].id (by omega)) (by first | rfl | simp [*]) ?_)
                              rintro _ rfl
                              refine .rd rfl rfl (by decide) rfl (by decide) zz1 ?_   -- 10
                              refine .rd rfl rfl (by decide) rfl (by decide) zz1 ?_   -- 11
                              refine .rd rfl rfl (by decide) rfl (by decide) zz1 ?_   -- 12
                              refine .rd rfl rfl (by decide) rfl (by decide) zz1 ?_   -- 13
                              refine .rd rfl rfl (by decide) rfl (by decide) zz1 ?_   -- 14
                              refine .done ?_
                              refine .seq ?_
                              refine .seq ?_
                              refine .rn ?_
                              refine .condS rfl (fun c170 => ?_) (fun c170 => ?_)
                              · try simp at c170
                              · try simp at c170
                                refine .skip ?_
                                refine .seq ?_
                                refine .rn ?_
                                refine .condS rfl (fun c171 => ?_) (fun c171 => ?_)
                                · try simp at c171
                                  refine .seq ?_
                                  refine .regionL [0,1] rfl zz0 ?_
                                  refine .step rfl rfl (.pure rfl rfl rfl Tryz.call22 (by decide) (hsan) (by first | rfl | simp [*]) ?_)
                                  rintro _ rfl
                                  refine .rn [1] [] ?_
                                  refine .done ?_
                                  refine .ret ?_
                                  refine ⟨_, _, zz4,zz4, ?_⟩
                                  first | rfl | (simp [*]; done) | (simp_all; done)
                                · try simp at c171
                                  refine .skip ?_
                                  refine .rn ?_
                                  refine ⟨k + 1, ⟨c153, ?_⟩, zz5,(.mk [] [] zz14 zz15 rfl rfl rfl)⟩
                                  intro w hw
                                  rw [List.take_succ_eq_append_getElem c153] at hw
                                  rcases List.mem_append.1 hw with hw | hw
                                  · exact hno w hw
                                  · rw [List.mem_singleton] at hw
                                    rw [hw]; exact c171
                            · try simp at c153
                              have hall : isK (lessI s s[o].id) (s[i].id, 0) = isK s (s[i].id, 0) := isK_less c35 (List.getElem_mem ho) hmo (fun w hw => hno w (by rw [List.take_of_length_le (by omega)]; exact hw)) (fun h => c112 h.symm)
                              refine .exit ?_
                              refine .seq ?_
                              refine .regionL [0,1,2,3,4] rfl zz0 ?_
                              refine .step rfl rfl (.pure rfl rfl rfl Tryz.call22 (by decide) (hsan) (by first | rfl | simp [*]) ?_)
                              rintro _ rfl
                              refine .rn [1] [2,3,4] ?_
                              refine .split (t := 174) rfl (fun c174 => ?_) (fun c174 => ?_)
                              · try rw [c174]
                                try simp at c174
                                refine .rn [2,3,4] [] ?_
                                refine .done ?_
                                refine .ret ?_
                                refine ⟨_, _, zz4,zz4, ?_⟩
                                first | rfl | (simp [*]; done) | (simp_all; done)
                              · try rw [c174]
                                try simp at c174
end Go.Am.Ds
end
