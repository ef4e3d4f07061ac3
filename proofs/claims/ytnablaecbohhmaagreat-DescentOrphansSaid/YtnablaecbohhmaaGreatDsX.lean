/-
  What is used in the proof of a statement (part DsX); no condition.
-/
import Derived.Test.YtnablaecbohhmaaGreatDsT
import Derived.Test.YtnablaecbohhmaaGreatVm2
import Derived.Test.YtnablaecbohhmaaGreatDsC
import Derived.Test.YtnablaecbohhmaaGreatDsG
import Derived.Test.YtnablaecbohhmaaGreatDsF
set_option linter.all false
section
namespace Go.Am
open Go Go.Proofs
theorem rf_ret {i : Nat} {vts vts2 : VTs} {Q : VPost} {vh' : VHeap} {N2 : Nat} {ps2 : Array Tmp} {a2 b2 : Code} (h : vh'.get i = some (.loop N2 ps2 a2 b2 vts2 (some .ret))) (k : Q .ret vts (vh'.drop i)) : rfEnd i vts Q vh' := by
  unfold rfEnd; rw [h]; exact k
end Go.Am
namespace Go.Am.Ds
open Go Go.Am Go.Proofs
set_option maxHeartbeats 4000000
set_option linter.unusedSimpArgs false
set_option linter.unusedVariables false
attribute [local simp] vrun vwanted vyielded vop veval vevals vparts vO vbuiltin vlen vappend velems vcopy vmakeSlice vbuildSlice valloc vbox vmakeMap vload vpartT vpart vstore vfieldAddr vfield vindexAddr vindex vextract vslice vsliceZ vbounds vbnd zeroO vidx vlookup vmget vmapUpdate vdelete vnilq vnilp vnils vbin vsc vsc1 vscs vscl abinOp aint ashift aunOp aconvert amaxs amax2 pvcV pvc pvcs tput tget vargs VHeap.get VHeap.alloc VHeap.put VHeap.drop VHeap.empty vlook vput vdrop psplice pfill preps chunk List.range List.range.loop vresults vresult vresultV frz frzL PV.isF PV.allF PV.scal PV.allS retP subT allFT PV.one PV.ids PV.idsL dropL beq_eq ble_dec blt_dec
theorem preps1 (z : PV) (n : Nat) : preps [z] n = List.replicate n z := by
  unfold preps
  induction n with
  | zero => rfl
  | succ n ih => simp only [List.replicate_succ, List.flatten_cons, ih]; rfl
theorem flat_int (k : IntKind) : ∀ l : List Int, (l.map (PV.int k)).flatMap PV.cells = l.map (PV.int k)
  | [] => rfl
  | a :: r => by simp only [List.map_cons, List.flatMap_cons, flat_int k r]; rfl
theorem frz_own_int (vh : VHeap) (i k : Nat) (l : List Int) (hg : vh.get i = some (.arr false 1 (l.map (PV.int .i64)))) : frz vh (.own i 0 l.length k) = some (ints l) := by
  by_cases h : l.length = 0
  · have := List.eq_nil_of_length_eq_zero h
    subst this; rfl
  · have h1 : Nat.beq l.length 0 = false := by rw [beq_eq]; simpa using h
    have h2 : (l.map (PV.int .i64)).take l.length = l.map (PV.int .i64) := by
      have := List.take_length (l := l.map (PV.int .i64)); simpa using this
    simp only [frz, h1, cond_false, hg, velems]
    simp only [all_one_int, beq_eq, ble_dec, List.drop_zero, chunk, cond_false, h2, List.length_map]
    simp
theorem vcopy_ints (P : Program) (t e : TypeId) (vh : VHeap) (i : Nat) (l : List Int) (ht : telem P t = some (e, 1)) (hg : vh.get i = some (.arr false 1 (preps [.int .i64 0] l.length))) :
    vcopy P vh t (.own i 0 l.length l.length) (ints l) = some (.int .i64 l.length, vh.put i (.arr false 1 (l.map (PV.int .i64)))) := by
  have h1 : velems vh 1 (ints l) = some (l.map (PV.int .i64)) := by simp [velems]
  simp only [vcopy, ht, h1, hg, preps1]
  have h2 : (l.map (PV.int .i64)).take l.length = l.map (PV.int .i64) := by
    have := List.take_length (l := l.map (PV.int .i64)); simpa using this
  rw [h2, flat_int]
  have h3 : psplice (List.replicate l.length (PV.int .i64 0)) 0 (l.map (PV.int .i64)) = l.map (PV.int .i64) := by simp [psplice]
  rw [h3]
  simp [blt_dec, ble_dec]
theorem p170 (l : List Int) (hl : l.length < 4294967296) : VPure Tryz.prog 170 [ints l] fun r => r = ints l := by
  have hl2 : ((l.length : Nat) : Int) ≤ 4294967296 := by omega
  refine .of_body Tryz.func170 rfl rfl ?_
  refine .seq ?_
  refine .run zz0 (by simp [*, -vcopy, -preps, vcopy_ints] <;> first | exact ⟨rfl, rfl⟩ | exact rfl) ?_
  refine .seq ?_
  refine .run zz0 (by simp [*, -vcopy, -preps, vcopy_ints] <;> first | exact ⟨rfl, rfl⟩ | exact rfl) ?_
  refine .seq ?_
  refine .run zz0 (by simp [*, -vcopy, -preps, vcopy_ints] <;> first | exact ⟨rfl, rfl⟩ | exact rfl) ?_
  refine .seq ?_
  refine .run zz0 (by simp [*, -vcopy, -preps, vcopy_ints] <;> first | exact ⟨rfl, rfl⟩ | exact rfl) ?_
  refine .ret ?_
  refine ⟨_, _, zz4,(by exact frz_own_int _ _ _ _ rfl), ?_⟩
  first | rfl | (simp [*]; done) | (simp_all; done)
theorem p117 (s : List Wit) (p : Wit → Bool) (f : FuncId) (xs ys : List PV) (hl : s.length < 4294967296) (hw : ∀ w ∈ s, w.slips.length < 4294967296 ∧ w.mended.length < 4294967296 ∧ w.models.length < 4294967296) (hx : PV.allF xs = true) (hy : PV.allF ys = true) (hcf : ∀ cs w, (callFunc f cs).run Tryz.prog w = .ok (.enter f cs) w) (hp : ∀ a ∈ s, VPure Tryz.prog f (xs ++ [encW a] ++ ys) fun r => r = .bool (p a)) : VPure Tryz.prog 117 [encS s, .func f xs ys] fun r => r = encS (s.filter p) := by
  refine .of_body Tryz.func117 rfl rfl ?_
  refine .seq ?_
  refine .rn ?_
  refine .seq ?_
  refine .rn ?_
  refine .seq ?_
  refine .seq ?_
  refine .rn ?_
  refine .block ?_
  refine .loopS (fun i : Nat => ([(1, .func f xs ys),(4, .ptr 1 0),(5, .ptr 2 0),(9, .vec (s.map encW)),(10, .int .i64 s.length),(11, .int .i64 i)], ⟨4,[(3, .grow 7 (((s.take i).filter p).map encW)),(2, .box [.grow 3 ((s.take i).filter p).length true]),(1, .box [.sl0])]⟩)) (fun i => i ≤ s.length) (fun i => s.length - i) 0 (by simp) (.mk [] [] zz2 zz3 rfl rfl rfl) ?_
  rintro i hi
  simp only at hi ⊢
  have hlen : ((s.take i).filter p).length ≤ i := Nat.le_trans (List.length_filter_le _ _) (by simp; omega)
  refine .seq ?_
  refine .rn ?_
  refine .seq ?_
  refine .condS rfl (fun c12 => ?_) (fun c12 => ?_)
  · try simp at c12
    have hw2 : IntKind.i64.wrap ((i : Int) + 1) = (i : Int) + 1 := wrap64 (by omega) (by omega)
    have hp := hp s[i] (List.getElem_mem c12)
    obtain ⟨hw3, hw4, hw5⟩ := hw s[i] (List.getElem_mem c12)
    have hT := take_succ_filter p s i c12
    have hb : ((s.take i).filter p).length + 1 ≤ 4294967296 := by omega
    have hE : encW s[i] = .agg [.int .i64 s[i].id, .int .i64 s[i].known, ints s[i].slips, ints s[i].mended, ints s[i].models, .int .i64 s[i].lo, .int .i64 s[i].hi] := rfl
    refine .skip ?_
    refine .seq ?_
    refine .block ?_
    refine .seq ?_
    refine .rn ?_
    refine .seq ?_
    refine .regionL [0,1,2] rfl zz0 ?_
    refine .rn [0,1] [2] ?_
    refine .step rfl rfl (.pure rfl rfl rfl hcf (by decide) (hp) (by first | rfl | simp [*]) ?_)
    rintro _ rfl
    refine .done ?_
    refine .condS rfl (fun c17 => ?_) (fun c17 => ?_)
    · try simp at c17
      rw [if_pos c17] at hT
      refine .seq ?_
      refine .drawn (ms := [0,1,3,0,8,31,0,64,255,223,1023,2047,4095,8191,16383]) (W := [2,5,8,10,12,14]) (items := [.op 0, .op 1, .op 3, .op 4, .op 6, .op 7, .op 2, .ck 7, .ck 4, .op 9, .op 5, .ck 7, .op 8, .op 10, .op 11, .op 12, .op 13, .op 14]) rfl zz0 zz0 zz0 ?_
      refine .rd rfl rfl (by decide) rfl (by decide) zz1 ?_   -- 0
      refine .rd rfl rfl (by decide) rfl (by decide) zz1 ?_   -- 1
      refine .rd rfl rfl (by decide) rfl (by decide) zz1 ?_   -- 3
      refine .rd rfl rfl (by decide) rfl (by decide) zz1 ?_   -- 4
      refine .rd rfl rfl (by decide) rfl (by decide) zz1 ?_   -- 6
      refine .rd rfl rfl (by decide) rfl (by decide) zz1 ?_   -- 7
      refine .wr rfl rfl (by decide) (.pure rfl rfl rfl Tryz.call170 (by decide) (p170 s[i].slips hw3) (by first | rfl | simp [*]) ?_)
      rintro _ rfl
      refine .ck rfl zz0 ?_   -- 7
      refine .ck rfl zz0 ?_   -- 4
      refine .rd rfl rfl (by decide) rfl (by decide) zz1 ?_   -- 9
      refine .wr rfl rfl (by decide) (.pure rfl rfl rfl Tryz.call170 (by decide) (p170 s[i].mended hw4) (by first | rfl | simp [*]) ?_)
      rintro _ rfl
      refine .ck rfl zz0 ?_   -- 7
      refine .wr rfl rfl (by decide) (.pure rfl rfl rfl Tryz.call170 (by decide) (p170 s[i].models hw5) (by first | rfl | simp [*]) ?_)
      rintro _ rfl
      refine .wr rfl rfl (by decide) (.vop zz1 (by decide) ?_)   -- 10
      refine .rd rfl rfl (by decide) rfl (by decide) zz1 ?_   -- 11
      refine .wr rfl rfl (by decide) (.vop zz1 (by decide) ?_)   -- 12
      refine .rd rfl rfl (by decide) rfl (by decide) zz1 ?_   -- 13
      refine .wr rfl rfl (by decide) (.vop zz1 (by decide) ?_)   -- 14
      refine .done ?_
      refine .rn ?_
      refine .rn ?_
      refine ⟨i + 1,zz5,zz5,(.mk [] [(3,6)] zz2 zz3 rfl rfl rfl)⟩
    · try simp at c17
      rw [if_neg (by simp [c17])] at hT
      refine .skip ?_
      refine .rn ?_
      refine ⟨i + 1,zz5,zz5,(.mk [] [] zz2 zz3 rfl rfl rfl)⟩
  · try simp at c12
    have : i = s.length := by omega
    subst this
    refine .exit ?_
    refine .seq ?_
    refine .rn ?_
    refine .ret ?_
    refine ⟨_, _, zz4,zz4, ?_⟩
    simp [encS]
theorem p118 (w : Wit) (ks : List Int) : VPure Tryz.prog 118 [encW w, .vp [.vmap (mp ks)]] fun r => r = .bool (!decide (w.id ∈ ks)) := by
  refine .of_body Tryz.func118 rfl rfl ?_
  refine .seq ?_
  refine .rn ?_
  refine .seq ?_
  refine .regionL [0,1,2,3,4,5] rfl zz0 ?_
  refine .rn [0,1,2] [3,4,5] ?_
  refine .step rfl rfl (.pure rfl rfl rfl Tryz.call115 (by decide) (p115 ks w.id) (by first | rfl | simp [*]) ?_)
  rintro _ rfl
  refine .rn [4,5] [] ?_
  refine .done ?_
  refine .ret ?_
  refine ⟨_, _, zz4,zz4, ?_⟩
  first | rfl | (simp [*]; done) | (simp_all; done)
theorem p36a (s : List Wit) (ids : List Int) (hl : s.length < 4294967296) (hi : ids.length < 4294967296) : VPure Tryz.prog 36 [encS s, ints ids] fun r => r = .tup [if checkS s = 0 then encS (s.filter fun w => !decide (w.id ∈ setK [ids])) else .agg [.sl0], .int .i64 (checkS s)] := by
  refine .of_body Tryz.func36 rfl rfl ?_
  refine .seq ?_
  refine .rn ?_
  refine .seq ?_
  refine .seq ?_
  refine .regionL [0,1,2] rfl zz0 ?_
  refine .rn [0] [1,2] ?_
  refine .step rfl rfl (.pure rfl rfl rfl Tryz.call35 (by decide) (p35 s hl) (by first | rfl | simp [*]) ?_)
  rintro _ rfl
  refine .rn [2] [] ?_
  refine .done ?_
  refine .seq ?_
  refine .rn ?_
  refine .condS rfl (fun c11 => ?_) (fun c11 => ?_)
  · try simp at c11
    refine .seq ?_
    refine .rn ?_
    refine .ret ?_
    refine ⟨_, _, zz4,zz4, ?_⟩
    simp [c11]
  · try simp at c11
    refine .skip ?_
    refine .seq ?_
    refine .regionL [0,1,2,3,4] rfl zz0 ?_
    refine .rn [0,1] [2,3,4] ?_
    refine .step rfl rfl (.take rfl rfl rfl Tryz.call116 (by decide) zz4 (p116 [ids] (by simp) (by simpa using hi)) ?_)
    rintro _ rfl
    refine .rn [3,4] [] ?_
    refine .done ?_
    refine .seq ?_
    refine .regionL [0,1,2,3,4] rfl zz0 ?_
    refine .rn [0,1] [2,3,4] ?_
    refine .step rfl rfl (.take rfl rfl rfl Tryz.call117 (by decide) zz4 (p117 s (fun w => !decide (w.id ∈ setK [ids])) 118 [] [.vp [.vmap (mp (setK [ids]))]] hl (checkS_lens c11) rfl rfl Tryz.call118 (fun w _ => p118 w _)) ?_)
    rintro _ rfl
    refine .rn [3,4] [] ?_
    refine .done ?_
    refine .ret ?_
    refine ⟨_, _, zz4,zz4, ?_⟩
    simp [c11, encS]
theorem p36 (s : List Wit) (ids : List Int) (hl : s.length < 4294967296) (hi : ids.length < 4294967296) : VPure Tryz.prog 36 [encS s, ints ids] fun r => r = .tup [encS (if checkS s = 0 then s.filter fun w => !decide (w.id ∈ setK [ids]) else []), .int .i64 (checkS s)] := by
  refine (p36a s ids hl hi).alt ?_
  rintro _ rfl
  refine ⟨_, ?_, ?_, rfl⟩
  · refine .tup' (.cons ?_ (.cons (.same _ rfl) .nil))
    split
    · exact .same _ (by simp)
    · exact .agg' (.cons .sl0v .nil)
  · simp
theorem p108' (s : List Wit) (hl : s.length < 4294967296) : VPure Tryz.prog 108 [encS s] fun r => r = .tup [.vec ((chL s).map encC), .int .i64 (chE s)] := VPure.soft (p108 s hl) rfl
end Go.Am.Ds
end
section
namespace Go.Am.Ds
open Go Go.Am Go.Proofs

theorem checkL_nodup : ∀ {l : List Wit} {seen : List Int}, checkL l seen = 0 → (l.map Wit.id).Nodup ∧ ∀ w ∈ l, w.id ∉ seen
  | [], _, _ => ⟨.nil, fun w hw => by cases hw⟩
  | a :: r, seen, h => by
    simp only [checkL] at h
    split at h
    · split at h
      · simp at h
      · rename_i hn
        obtain ⟨h1, h2⟩ := checkL_nodup h
        refine ⟨?_, fun w hw => ?_⟩
        · rw [List.map_cons, List.nodup_cons]
          refine ⟨fun hm => ?_, h1⟩
          obtain ⟨w, hw, he⟩ := List.mem_map.1 hm
          exact h2 w hw ((mem_insU _ _ _).2 (.inr he))
        · rcases List.mem_cons.1 hw with rfl | hw
          · exact hn
          · exact fun hs => h2 w hw ((mem_insU _ _ _).2 (.inl hs))
    · rename_i h0; exact absurd h h0
theorem checkS_nodup {s : List Wit} (h : checkS s = 0) : (s.map Wit.id).Nodup := by
  unfold checkS at h
  split at h
  · simp at h
  · exact (checkL_nodup h).1
theorem checkS_pos {s : List Wit} (h : checkS s = 0) : ∀ w ∈ s, 0 < w.id := fun w hw => by
  have := (checkS_ok h).2 w hw
  unfold witE at this
  split at this
  · cases this
  · omega

theorem stepP_some {s : List Wit} {c : Wit} {id : Int} {y : Int × Int} : stepP s c id = some y ↔ ∃ p, getW s id = some p ∧ (whyP c p).1 = 0 ∧ y = (id, ((ariS c p).length : Int)) := by
  unfold stepP
  cases hg : getW s id with
  | none => simp
  | some p =>
    simp only
    by_cases h : (whyP c p).1 = 0
    · rw [if_pos h]
      constructor
      · intro h2; injection h2 with h2; exact ⟨p, rfl, h, h2.symm⟩
      · rintro ⟨q, h2, _, h3⟩; injection h2 with h2; subst h2; rw [h3]
    · rw [if_neg h]
      constructor
      · intro h2; cases h2
      · rintro ⟨q, h2, h3, _⟩; injection h2 with h2; subst h2; exact absurd h3 h
theorem parS_mem {s : List Wit} {c : Wit} {y : Int × Int} : y ∈ parS s c ↔ (y = (0,(c.slips.length : Int)) ∧ lastS c 0 = 0) ∨ ∃ p, y.1 ∈ idsS s ∧ getW s y.1 = some p ∧ (whyP c p).1 = 0 ∧ y.2 = ((ariS c p).length : Int) := by
  unfold parS
  rw [List.mem_append, List.mem_filterMap]
  have h0 : y ∈ headP c ↔ y = (0,(c.slips.length : Int)) ∧ lastS c 0 = 0 := by
    unfold headP
    split
    · rename_i h; simp [h]
    · rename_i h; simp [h]
  rw [h0]
  constructor
  · rintro (h | ⟨id, h1, h2⟩)
    · exact .inl h
    · obtain ⟨p, h3, h4, h5⟩ := stepP_some.1 h2
      subst h5
      exact .inr ⟨p, h1, h3, h4, rfl⟩
  · rintro (h | ⟨p, h1, h2, h3, h4⟩)
    · exact .inl h
    · exact .inr ⟨y.1, h1, stepP_some.2 ⟨p, h2, h3, Prod.ext rfl h4⟩⟩
theorem fold_spec : ∀ (l : List (Int × Int)) (d : List (Int × Int)) (x : List Int × Int),(d = [] ∧ x.1 = [] ∨ x.1 ≠ [] ∧ (∀ y ∈ d, x.2 ≤ y.2) ∧ ∃ y ∈ d, y.2 = x.2) →
    (d ++ l = [] ∧ (l.foldl stepC x).1 = [] ∨ (l.foldl stepC x).1 ≠ [] ∧ (∀ y ∈ d ++ l, (l.foldl stepC x).2 ≤ y.2) ∧ ∃ y ∈ d ++ l, y.2 = (l.foldl stepC x).2)
  | [], d, x, h => by simpa using h
  | y :: r, d, x, h => by
    have ih := fold_spec r (d ++ [y]) (stepC x y) (.inr (by
      unfold stepC
      split
      · rename_i h1
        rcases h with ⟨_, h2⟩ | ⟨h2, h3, z, h4, h5⟩
        · exact absurd h2 h1.1
        · refine ⟨h2, fun w hw => ?_, z, List.mem_append_left _ h4, h5⟩
          rcases List.mem_append.1 hw with hw | hw
          · exact h3 w hw
          · rw [List.mem_singleton] at hw; rw [hw]; omega
      · rename_i h1
        split
        · rename_i h2
          refine ⟨by simp, fun w hw => ?_, y, by simp, rfl⟩
          rcases List.mem_append.1 hw with hw | hw
          · rcases h with ⟨h3, _⟩ | ⟨h3, h4, _⟩
            · rw [h3] at hw; cases hw
            · rcases h2 with h2 | h2
              · exact absurd h2 h3
              · have := h4 w hw; simp only; omega
          · rw [List.mem_singleton] at hw; rw [hw]; exact Int.le_refl _
        · rename_i h2
          have h3 : x.1 ≠ [] := fun h4 => h2 (.inl h4)
          have h4 : ¬ y.2 < x.2 := fun h4 => h2 (.inr h4)
          have h5 : ¬ x.2 < y.2 := fun h5 => h1 ⟨h3, h5⟩
          rcases h with ⟨_, h6⟩ | ⟨_, h7, z, h8, h9⟩
          · exact absurd h6 h3
          · refine ⟨by simp, fun w hw => ?_, z, List.mem_append_left _ h8, h9⟩
            rcases List.mem_append.1 hw with hw | hw
            · exact h7 w hw
            · rw [List.mem_singleton] at hw; rw [hw]; simp only; omega))
    rw [List.append_assoc, List.singleton_append] at ih
    rw [List.foldl_cons]
    exact ih
theorem choF_spec (s : List Wit) (c : Wit) : (parS s c = [] ∧ (choF s c).1 = []) ∨ ((choF s c).1 ≠ [] ∧ (∀ y ∈ parS s c, (choF s c).2 ≤ y.2) ∧ ∃ y ∈ parS s c, y.2 = (choF s c).2) := by
  have := fold_spec (parS s c) [] ([],0) (.inl ⟨rfl, rfl⟩)
  simpa [choF] using this
end Go.Am.Ds
end
section
namespace Go.Am.Ds
open Go Go.Am Go.Proofs
set_option maxRecDepth 100000
set_option maxHeartbeats 4000000
set_option linter.unusedSimpArgs false
set_option linter.unusedVariables false
attribute [local simp] vrun vwanted vyielded vop vopA vputAll VHeap.back hidI hidF backL bm Nat.testBit_eq_decide_div_mod_eq veval vevals vparts vO vbuiltin vlen vappend velems vcopy vmakeSlice vbuildSlice valloc vbox vmakeMap vload vpartT vpart vstore vfieldAddr vfield vindexAddr vindex vextract vslice vsliceZ vbounds vbnd zeroO vidx vlookup vmget vmapUpdate vdelete vclear vnilq vnilp vnils vbin vsc vsc1 vscs vscl abinOp aint ashift aunOp aconvert amaxs amax2 pvcV pvc pvcs tput tget vargs VHeap.get VHeap.alloc VHeap.put VHeap.drop VHeap.empty vlook vput vdrop psplice pfill preps chunk List.range List.range.loop vresults vresult vresultV frz frzL PV.isF PV.allF PV.scal PV.allS retP subT allFT PV.one PV.ids PV.idsL dropL beq_eq ble_dec blt_dec
def longT (w : Wit) : Bool := decide (8 < w.slips.length) || decide (30 < w.mended.length) || decide (24 < w.models.length)
def smallS (s : List Wit) : Bool := !(s.any longT) && decide (s.length ≤ 12)
def parR (s : List Wit) (id : Int) : PV := match getW s id with
  | some p => .vp (encW p).cells
  | none => .ptr0
theorem parR_none {s : List Wit} {id : Int} (h : getW s id = none) : parR s id = .ptr0 := by unfold parR; rw [h]
theorem parR_some {s : List Wit} {id : Int} {p : Wit} (h : getW s id = some p) : parR s id = .vp (encW p).cells := by unfold parR; rw [h]
def stepD (s : List Wit) (c : Wit) (id : Int) : Option Int := match getW s id with
  | none => if id = 0 ∧ lastS c 0 = 0 then some (c.slips.length : Int) else none
  | some p => if (whyP c p).1 = 0 then some ((ariS c p).length : Int) else none
def desL (s : List Wit) (l : List Int) : List (Option Int) := (s.zip l).map fun x => stepD s x.1 x.2
def desP (s : List Wit) (l : List Int) (k : Nat) : Int := (((desL s l).take k).map (·.getD 0)).sum
def desR (s : List Wit) (l : List Int) : Int × Bool := if l.length = s.length ∧ (desL s l).all Option.isSome = true then (desP s l s.length, true) else (0, false)
theorem desL_get (s : List Wit) (l : List Int) (k : Nat) (h : k < s.length) (h2 : k < l.length) : ∃ h3 : k < (desL s l).length, (desL s l)[k] = stepD s s[k] l[k] := by
  refine ⟨by simp [desL]; omega, by simp [desL]⟩
theorem desP_succ (s : List Wit) (l : List Int) (k : Nat) (h : k < s.length) (h2 : k < l.length) : desP s l (k + 1) = desP s l k + (stepD s s[k] l[k]).getD 0 := by
  obtain ⟨h3, h4⟩ := desL_get s l k h h2
  unfold desP
  rw [List.take_succ_eq_append_getElem h3, h4]; simp
theorem desA_succ (s : List Wit) (l : List Int) (k : Nat) (h : k < s.length) (h2 : k < l.length) : ((desL s l).take (k + 1)).all Option.isSome = (((desL s l).take k).all Option.isSome && (stepD s s[k] l[k]).isSome) := by
  obtain ⟨h3, h4⟩ := desL_get s l k h h2
  rw [take_succ_all _ _ _ h3, h4]
theorem ariS_len (c p : Wit) : (ariS c p).length ≤ c.slips.length := by unfold ariS; exact List.length_filter_le _ _
theorem stepD_bd (s : List Wit) (c : Wit) (id : Int) : 0 ≤ (stepD s c id).getD 0 ∧ (stepD s c id).getD 0 ≤ (c.slips.length : Int) := by
  unfold stepD
  cases getW s id with
  | none => simp only; split <;> simp
  | some p =>
    simp only; have := ariS_len c p
    split <;> simp <;> omega
theorem desP_bd (s : List Wit) (l : List Int) (hli : ∀ w ∈ s, w.slips.length < 4294967296 ∧ w.mended.length < 4294967296 ∧ w.models.length < 4294967296) (he : l.length = s.length) : ∀ k, k ≤ s.length → 0 ≤ desP s l k ∧ desP s l k ≤ (k : Int) * 4294967296
  | 0, _ => by simp [desP]
  | k + 1, h => by
    have h1 := desP_bd s l hli he k (by omega)
    rw [desP_succ s l k (by omega) (by omega)]
    have h2 := stepD_bd s s[k] l[k]
    have h3 := (hli s[k] (List.getElem_mem (by omega))).1
    constructor
    · omega
    · push_cast; omega
theorem desR_none {s : List Wit} {l : List Int} {k : Nat} (h : k < s.length) (h2 : k < l.length) (hN : stepD s s[k] l[k] = none) : desR s l = (0, false) := by
  obtain ⟨h3, h4⟩ := desL_get s l k h h2
  unfold desR
  rw [if_neg]
  rintro ⟨_, ha⟩
  have := List.all_eq_true.1 ha _ (List.getElem_mem h3)
  rw [h4, hN] at this; cases this
theorem p21 (s : List Wit) (hl : s.length < 4611686018427387904) : VPure Tryz.prog 21 [encS s] fun r => r = .bool (smallS s) := by
  refine .of_body Tryz.func21 rfl rfl ?_
  refine .seq ?_
  refine .rn ?_
  refine .seq ?_
  refine .seq ?_
  refine .rn ?_
  refine .block ?_
  refine .loopS (fun i : Nat => ([(1, .ptr 0 0),(3, .int .i64 i)], ⟨1,[(0, .box [.vec (s.map encW)])]⟩)) (fun i => i ≤ s.length ∧ (s.take i).any longT = false) (fun i => s.length - i) 0 (by simp) (.mk [] [] zz14 zz15 rfl rfl rfl) ?_
  rintro i ⟨hi, hr⟩
  simp only at hi hr ⊢
  refine .seq ?_
  refine .seq ?_
  refine .rn ?_
  refine .condS rfl (fun c8 => ?_) (fun c8 => ?_)
  · try simp at c8
    have hw2 : IntKind.i64.wrap ((i : Int) + 1) = (i : Int) + 1 := wrap64 (by omega) (by omega)
    have hA := take_succ_any longT s i c8
    rw [hr] at hA
    refine .skip ?_
    refine .seq ?_
    refine .block ?_
    refine .seq ?_
    refine .regionL [0,1,2,3,4,5,6,7,8,9,10,11,12,13,14,15,16,17,18,19,20,21,22,23,24,25,26,27] rfl zz0 ?_
    refine .rn [0,1,2,3,4,5,6,7,8] [9,10,11,12,13,14,15,16,17,18,19,20,21,22,23,24,25,26,27] ?_
    refine .split (t := 19) rfl (fun c19 => ?_) (fun c19 => ?_)
    · try rw [c19]
      try simp at c19
      refine .rn [9,10,11,12,13,14,15,16,17,18,19,20,21,22,23,24,25,26,27] [] ?_
      refine .done ?_
      refine .condT rfl ?_
      refine .seq ?_
      refine .rn ?_
      refine .ret ?_
      refine ⟨_, _, zz4,zz4, ?_⟩
      have h : longT s[i] = true := by unfold longT; simp; omega
      unfold smallS; rw [any_get longT s i c8 h]; rfl
    · try rw [c19]
      try simp at c19
      refine .rn [9,10,11,12,13,14,15,16,17,18] [19,20,21,22,23,24,25,26,27] ?_
      refine .split (t := 29) rfl (fun c29 => ?_) (fun c29 => ?_)
      · try rw [c29]
        try simp at c29
        refine .rn [19,20,21,22,23,24,25,26,27] [] ?_
        refine .done ?_
        refine .condT rfl ?_
        refine .seq ?_
        refine .rn ?_
        refine .ret ?_
        refine ⟨_, _, zz4,zz4, ?_⟩
        have h : longT s[i] = true := by unfold longT; simp; omega
        unfold smallS; rw [any_get longT s i c8 h]; rfl
      · try rw [c29]
        try simp at c29
        refine .rn [19,20,21,22,23,24,25,26,27] [] ?_
        refine .done ?_
        refine .condS rfl (fun c38 => ?_) (fun c38 => ?_)
        · try simp at c38
          refine .seq ?_
          refine .rn ?_
          refine .ret ?_
          refine ⟨_, _, zz4,zz4, ?_⟩
          have h : longT s[i] = true := by unfold longT; simp; omega
          unfold smallS; rw [any_get longT s i c8 h]; rfl
        · try simp at c38
          refine .skip ?_
          refine .rn ?_
          have h : longT s[i] = false := by unfold longT; simp; omega
          rw [h] at hA
          refine ⟨i + 1, ⟨zz5, by simpa using hA⟩, zz5,(.mk [] [] zz14 zz15 rfl rfl rfl)⟩
  · try simp at c8
    have hi2 : i = s.length := by omega
    subst hi2
    rw [List.take_length] at hr
    refine .exit ?_
    refine .seq ?_
    refine .rn ?_
    refine .ret ?_
    refine ⟨_, _, zz4,zz4, ?_⟩
    unfold smallS; rw [hr]; simp; omega
theorem p173 (s : List Wit) (id : Int) (hl : s.length < 4294967296) : VPure Tryz.prog 173 [encS s, .int .i64 id] fun r => r = parR s id := by
  refine .of_body Tryz.func173 rfl rfl ?_
  refine .seq ?_
  refine .rn ?_
  refine .seq ?_
  refine .seq ?_
  refine .regionL [0,1,2,3] rfl zz0 ?_
  refine .rn [0,1] [2,3] ?_
  refine .step rfl rfl (.pure rfl rfl rfl Tryz.call105 (by decide) (p105' s id hl) (by first | rfl | simp [*]) ?_)
  rintro _ rfl
  refine .rn [3] [] ?_
  refine .done ?_
  refine .seq ?_
  refine .rn ?_
  refine .condS rfl (fun c10 => ?_) (fun c10 => ?_)
  · try simp at c10
    obtain ⟨i, hi, hie, hga⟩ := getW_some c10
    refine .seq ?_
    refine .rn ?_
    refine .ret ?_
    refine ⟨_, _, zz4,zz4, ?_⟩
    rw [parR_some hga]; rfl
  · try simp at c10
    have hn := getW_none (show findI s id < 0 by omega)
    refine .skip ?_
    refine .seq ?_
    refine .rn ?_
    refine .ret ?_
    refine ⟨_, _, zz4,zz4, ?_⟩
    rw [parR_none hn]
theorem p132 (s : List Wit) (l : List Int) (hl : s.length < 65536) (hlL : l.length < 4611686018427387904) (hli : ∀ w ∈ s, w.slips.length < 4294967296 ∧ w.mended.length < 4294967296 ∧ w.models.length < 4294967296) : VPure Tryz.prog 132 [encS s, ints l] fun r => r = .tup [.int .i64 (desR s l).1, .bool (desR s l).2] := by
  refine .of_body Tryz.func132 rfl rfl ?_
  refine .seq ?_
  refine .rn ?_
  refine .seq ?_
  refine .seq ?_
  refine .rn ?_
  refine .condS rfl (fun c17 => ?_) (fun c17 => ?_)
  · try simp at c17
    refine .seq ?_
    refine .rn ?_
    refine .ret ?_
    refine ⟨_, _, zz4,zz4, ?_⟩
    rw [desR, if_neg (by rintro ⟨h, _⟩; omega)]
  · try simp at c17
    have he : l.length = s.length := by omega
    refine .skip ?_
    refine .seq ?_
    refine .rn ?_
    refine .seq ?_
    refine .seq ?_
    refine .rn ?_
    refine .block ?_
    refine .loopS (fun k : Nat => ([(1, ints l),(2, .ptr 0 0),(6, .int .i64 (desP s l k)),(19, .vec (s.map encW)),(20, .int .i64 s.length),(21, .int .i64 k)], ⟨1,[(0, .box [.vec (s.map encW)])]⟩)) (fun k => k ≤ s.length ∧ ((desL s l).take k).all Option.isSome = true) (fun k => s.length - k) 0 (by simp) (.mk [] [] zz14 zz15 rfl rfl rfl) ?_
    rintro k ⟨hk, hal⟩
    simp only at hk hal ⊢
    refine .seq ?_
    refine .rn ?_
    refine .seq ?_
    refine .condS rfl (fun c22 => ?_) (fun c22 => ?_)
    · try simp at c22
      have hw2 : IntKind.i64.wrap ((k : Int) + 1) = (k : Int) + 1 := wrap64 (by omega) (by omega)
      have hkl : k < l.length := by omega
      obtain ⟨hw1, hw3, hw4⟩ := hli s[k] (List.getElem_mem c22)
      have hbd := desP_bd s l hli he k hk
      have hbd2 := stepD_bd s s[k] l[k]
      have hS := desP_succ s l k c22 hkl
      have hA := desA_succ s l k c22 hkl
      have hW3 : ∀ x : Int, 0 ≤ x → x ≤ 4294967296 → IntKind.i64.wrap (desP s l k + x) = desP s l k + x := fun x h1 h2 => wrap64 (by omega) (by omega)
      have hE : encW s[k] = .agg [.int .i64 s[k].id, .int .i64 s[k].known, ints s[k].slips, ints s[k].mended, ints s[k].models, .int .i64 s[k].lo, .int .i64 s[k].hi] := rfl
      rcases hg : getW s l[k] with _ | p
      · skip
        refine .skip ?_
        refine .seq ?_
        refine .block ?_
        refine .seq ?_
        refine .rn ?_
        refine .seq ?_
        refine .drawn (ms := [0,0,0,6,14,31,63]) (W := [5]) (items := [.op 0, .op 1, .op 2, .op 3, .op 4, .op 5, .op 6]) rfl zz0 zz0 zz0 ?_
        refine .rd rfl rfl (by decide) rfl (by decide) zz1 ?_   -- 0
        refine .rd rfl rfl (by decide) rfl (by decide) zz1 ?_   -- 1
        refine .rd rfl rfl (by decide) rfl (by decide) zz1 ?_   -- 2
        refine .rd rfl rfl (by decide) rfl (by decide) zz1 ?_   -- 3
        refine .rd rfl rfl (by decide) rfl (by decide) zz1 ?_   -- 4
        refine .wr rfl rfl (by decide) (.pure rfl rfl rfl Tryz.call173 (by decide) ((by have h := p173 s l[k] (by omega); rw [parR_none hg] at h; exact h)) (by first | rfl | simp [*]) ?_)
        rintro _ rfl
        refine .rd rfl rfl (by decide) rfl (by decide) zz1 ?_   -- 6
        refine .done ?_
        refine .seq ?_
        refine .seq ?_
        refine .regionL [0,1,2,3,4,5,6,7,8] rfl zz0 ?_
        refine .rn [0,1,2] [3,4,5,6,7,8] ?_
        refine .split (t := 34) rfl (fun c34 => ?_) (fun c34 => ?_)
        · try rw [c34]
          try simp at c34
          refine .rn [3,4,5,6,7,8] [] ?_
          refine .done ?_
          refine .condS rfl (fun c40 => ?_) (fun c40 => ?_)
          · try simp at c40
            have hN : stepD s s[k] l[k] = none := by simp only [stepD, hg]; rw [if_neg (fun h => c40 h.1)]
            refine .seq ?_
            refine .rn ?_
            refine .ret ?_
            refine ⟨_, _, zz4,zz4, ?_⟩
            rw [desR_none c22 hkl hN]
          · try simp at c40
            refine .skip ?_
            refine .seq ?_
            refine .seq ?_
            refine .regionL [0,1,2,3,4,5,6,7] rfl zz0 ?_
            refine .rn [0,1] [2,3,4,5,6,7] ?_
            refine .step rfl rfl (.pure rfl rfl rfl Tryz.call101 (by decide) (p101a s[k] hw4) (by first | rfl | simp [*]) ?_)
            rintro _ rfl
            refine .rn [3,4,5,6,7] [] ?_
            refine .done ?_
            refine .seq ?_
            refine .rn ?_
            refine .condS rfl (fun c48 => ?_) (fun c48 => ?_)
            · try simp at c48
              have hN : stepD s s[k] l[k] = none := by simp only [stepD, hg]; rw [if_neg (fun h => c48 h.2)]
              refine .seq ?_
              refine .rn ?_
              refine .ret ?_
              refine ⟨_, _, zz4,zz4, ?_⟩
              rw [desR_none c22 hkl hN]
            · try simp at c48
              have hN : stepD s s[k] l[k] = some (s[k].slips.length : Int) := by simp only [stepD, hg]; rw [if_pos ⟨c40, c48⟩]
              rw [hN] at hS hA
              simp only [Option.getD_some] at hS
              have hW4 := hW3 (s[k].slips.length : Int) (by omega) (by omega)
              refine .skip ?_
              refine .regionL [0,1,2,3,4,5,6] rfl zz0 ?_
              refine .rn [0,1,2] [3,4,5,6] ?_
              refine .step rfl rfl (.pure rfl rfl rfl Tryz.call109 (by decide) (p109a s[k]) (by first | rfl | simp [*]) ?_)
              rintro _ rfl
              refine .rn [4,5,6] [] ?_
              refine .done ?_
              refine .rn ?_
              refine ⟨k + 1, ⟨zz5, by rw [hA]; simpa using hal⟩, zz5,(.mk [] [] zz14 zz15 rfl rfl rfl)⟩
        · try rw [c34]
          try simp at c34
      · skip
        refine .skip ?_
        refine .seq ?_
        refine .block ?_
        refine .seq ?_
        refine .rn ?_
        refine .seq ?_
        refine .drawn (ms := [0,0,0,6,14,31,63]) (W := [5]) (items := [.op 0, .op 1, .op 2, .op 3, .op 4, .op 5, .op 6]) rfl zz0 zz0 zz0 ?_
        refine .rd rfl rfl (by decide) rfl (by decide) zz1 ?_   -- 0
        refine .rd rfl rfl (by decide) rfl (by decide) zz1 ?_   -- 1
        refine .rd rfl rfl (by decide) rfl (by decide) zz1 ?_   -- 2
        refine .rd rfl rfl (by decide) rfl (by decide) zz1 ?_   -- 3
        refine .rd rfl rfl (by decide) rfl (by decide) zz1 ?_   -- 4
        refine .wr rfl rfl (by decide) (.pure rfl rfl rfl Tryz.call173 (by decide) ((by have h := p173 s l[k] (by omega); rw [parR_some hg] at h; exact h)) (by first | rfl | simp [*]) ?_)
        rintro _ rfl
        refine .rd rfl rfl (by decide) rfl (by decide) zz1 ?_   -- 6
        refine .done ?_
        refine .seq ?_
        refine .seq ?_
        refine .regionL [0,1,2,3,4,5,6,7,8] rfl zz0 ?_
        refine .rn [0,1,2] [3,4,5,6,7,8] ?_
        refine .split (t := 34) rfl (fun c34 => ?_) (fun c34 => ?_)
        · try rw [c34]
          try simp at c34
        · try rw [c34]
          try simp at c34
          have hp := (getW_mem hg).1
          have hp1 := (hli p hp).1
          refine .rn [3,4,5,6,7,8] [] ?_
          refine .done ?_
          refine .condF rfl ?_
          refine .skip ?_
          refine .seq ?_
          refine .seq ?_
          refine .regionL [0,1,2,3,4,5,6,7] rfl zz0 ?_
          refine .rn [0,1] [2,3,4,5,6,7] ?_
          refine .step rfl rfl (.pure rfl rfl rfl Tryz.call101 (by decide) (p101b s[k] p hw1 hw3 hw4 hp1) (by first | rfl | simp [*]) ?_)
          rintro _ rfl
          refine .rn [3,4,5,6,7] [] ?_
          refine .done ?_
          refine .seq ?_
          refine .rn ?_
          refine .condS rfl (fun c48 => ?_) (fun c48 => ?_)
          · try simp at c48
            have hN : stepD s s[k] l[k] = none := by simp only [stepD, hg]; rw [if_neg c48]
            refine .seq ?_
            refine .rn ?_
            refine .ret ?_
            refine ⟨_, _, zz4,zz4, ?_⟩
            rw [desR_none c22 hkl hN]
          · try simp at c48
            have hN : stepD s s[k] l[k] = some ((ariS s[k] p).length : Int) := by simp only [stepD, hg]; rw [if_pos c48]
            rw [hN] at hS hA
            simp only [Option.getD_some] at hS
            have har := ariS_len s[k] p
            have hW4 := hW3 ((ariS s[k] p).length : Int) (by omega) (by omega)
            refine .skip ?_
            refine .regionL [0,1,2,3,4,5,6] rfl zz0 ?_
            refine .rn [0,1,2] [3,4,5,6] ?_
            refine .step rfl rfl (.pure rfl rfl rfl Tryz.call109 (by decide) (p109 s[k] p hw1 hp1) (by first | rfl | simp [*]) ?_)
            rintro _ rfl
            refine .rn [4,5,6] [] ?_
            refine .done ?_
            refine .rn ?_
            refine ⟨k + 1, ⟨zz5, by rw [hA]; simpa using hal⟩, zz5,(.mk [] [] zz14 zz15 rfl rfl rfl)⟩
    · try simp at c22
      have hk2 : k = s.length := by omega
      subst hk2
      refine .exit ?_
      refine .seq ?_
      refine .rn ?_
      refine .ret ?_
      refine ⟨_, _, zz4,zz4, ?_⟩
      have hall : (desL s l).all Option.isSome = true := by
        rw [List.take_of_length_le (by simp [desL]; omega)] at hal
        simpa using hal
      rw [desR, if_pos ⟨he, hall⟩]
end Go.Am.Ds
end
section
namespace Go.Am.Ds
open Go Go.Am Go.Proofs
set_option maxRecDepth 100000
set_option maxHeartbeats 4000000
set_option linter.unusedSimpArgs false
set_option linter.unusedVariables false
attribute [local simp] vrun vwanted vyielded vop vopA vputAll VHeap.back hidI hidF backL bm Nat.testBit_eq_decide_div_mod_eq veval vevals vparts vO vbuiltin vlen vappend velems vcopy vmakeSlice vbuildSlice valloc vbox vmakeMap vload vpartT vpart vstore vfieldAddr vfield vindexAddr vindex vextract vslice vsliceZ vbounds vbnd zeroO vidx vlookup vmget vmapUpdate vdelete vclear vnilq vnilp vnils vbin vsc vsc1 vscs vscl abinOp aint ashift aunOp aconvert amaxs amax2 pvcV pvc pvcs tput tget vargs VHeap.get VHeap.alloc VHeap.put VHeap.drop VHeap.empty vlook vput vdrop psplice pfill preps chunk List.range List.range.loop vresults vresult vresultV frz frzL PV.isF PV.allF PV.scal PV.allS retP subT allFT PV.one PV.ids PV.idsL dropL beq_eq ble_dec blt_dec
def bestP (s : List Wit) : List Int := (chL s).map fun c => c.1.headD 0
def bestS (s : List Wit) (k : Nat) : Int := (((chL s).take k).map (·.2)).sum
theorem chL_ok {s : List Wit} (h : chE s = 0) : chL s = s.map (choF s) := by unfold chL; rw [if_pos h]
theorem chE_ok {s : List Wit} (h : chE s = 0) : checkS s = 0 ∧ ∀ c ∈ s, (choF s c).1 ≠ [] := by
  unfold chE at h
  split at h
  · split at h
    · cases h
    · rename_i h1 h2; exact ⟨h1, fun c hc h3 => h2 ⟨c, hc, h3⟩⟩
  · contradiction
theorem choF_bd {s : List Wit} {c : Wit} (h : (choF s c).1 ≠ []) : 0 ≤ (choF s c).2 ∧ (choF s c).2 ≤ (c.slips.length : Int) := by
  rcases choF_spec s c with ⟨_, h1⟩ | ⟨_, _, y, hy, h2⟩
  · exact absurd h1 h
  · rcases parS_mem.1 hy with ⟨rfl, _⟩ | ⟨p, _, _, _, h4⟩
    · simp only at h2; omega
    · have := ariS_len c p; omega
theorem chL_get {s : List Wit} (h : chE s = 0) {k : Nat} (hk : k < (chL s).length) : ∃ a r d, (chL s)[k] = (a :: r, d) ∧ 0 ≤ d ∧ d < 4294967296 := by
  obtain ⟨h1, h2⟩ := chE_ok h
  have aux : ∀ x ∈ chL s, ∃ c ∈ s, choF s c = x := fun x hx => by rw [chL_ok h] at hx; exact List.mem_map.1 hx
  obtain ⟨c, hc, he⟩ := aux _ (List.getElem_mem hk)
  have h3 := h2 c hc
  have h4 := choF_bd h3
  have h5 := (checkS_lens h1 c hc).1
  cases h6 : (choF s c).1 with
  | nil => exact absurd h6 h3
  | cons a r => exact ⟨a, r, (choF s c).2, by rw [← he, ← h6], h4.1, by omega⟩
theorem chL_len {s : List Wit} (h : chE s = 0) : (chL s).length = s.length := by rw [chL_ok h]; simp
theorem bestS_succ (s : List Wit) (k : Nat) (hk : k < (chL s).length) : bestS s (k + 1) = bestS s k + (chL s)[k].2 := by
  unfold bestS; rw [List.take_succ_eq_append_getElem hk, List.map_append, List.sum_append]; simp only [List.map_cons, List.map_nil, List.sum_cons, List.sum_nil]; omega
theorem bestS_bd {s : List Wit} (h : chE s = 0) : ∀ k, k ≤ (chL s).length → 0 ≤ bestS s k ∧ bestS s k ≤ (k : Int) * 4294967296
  | 0, _ => by simp [bestS]
  | k + 1, hk => by
    have h1 := bestS_bd h k (by omega)
    obtain ⟨a, r, d, he, h2, h3⟩ := chL_get h (show k < (chL s).length by omega)
    rw [bestS_succ s k (by omega), he]
    constructor
    · omega
    · push_cast; omega
theorem p63 (s : List Wit) (hl : s.length < 65536) : VPure Tryz.prog 63 [encS s] fun r => Soft r (.tup [.agg [ints (bestP s), .int .i64 (bestS s (chL s).length)], .int .i64 (chE s)]) := by
  refine .of_body Tryz.func63 rfl rfl ?_
  refine .seq ?_
  refine .rn ?_
  refine .seq ?_
  refine .regionL [0,1,2,3,4,5,6] rfl zz0 ?_
  refine .rn [0] [1,2,3,4,5,6] ?_
  refine .step rfl rfl (.pure rfl rfl rfl Tryz.call108 (by decide) (p108' s (by omega)) (by first | rfl | simp [*]) ?_)
  rintro _ rfl
  refine .rn [2,3,4,5,6] [] ?_
  refine .done ?_
  refine .seq ?_
  refine .seq ?_
  refine .rn ?_
  refine .condS rfl (fun c15 => ?_) (fun c15 => ?_)
  · try simp at c15
    refine .seq ?_
    refine .rn ?_
    refine .ret ?_
    refine ⟨_, _, zz4,zz4, ?_⟩
    have e2 : chL s = [] := by unfold chL; rw [if_neg c15]
    have e3 : bestP s = [] := by unfold bestP; rw [e2]; rfl
    have e4 : bestS s (chL s).length = 0 := by unfold bestS; rw [e2]; rfl
    rw [e3, e4]
    exact soft_tup (AltL.cons (.agg' (.cons .sl0v (.cons (.same _ rfl) .nil))) (AltL.cons (.same _ rfl) AltL.nil))
  · try simp at c15
    refine .skip ?_
    refine .seq ?_
    refine .rn ?_
    refine .seq ?_
    refine .seq ?_
    refine .rn ?_
    refine .block ?_
    refine .loopS (fun k : Nat => ([(2, .ptr 1 0),(6, .ptr 2 0),(18, .vec ((chL s).map encC)),(19, .int .i64 (chL s).length),(20, .int .i64 k)], ⟨4,[(3, .grow 1 (((bestP s).take k).map (.int .i64))),(2, .box [.grow 3 k true, .int .i64 (bestS s k)]),(1, .box [.sl0, .int .i64 0]),(0, .box [.vec (s.map encW)])]⟩)) (fun k => k ≤ (chL s).length) (fun k => (chL s).length - k) 0 (by simp) (.mk [] [] zz14 zz15 rfl rfl rfl) ?_
    rintro k hk
    simp only at hk ⊢
    refine .seq ?_
    refine .rn ?_
    refine .seq ?_
    refine .condS rfl (fun c21 => ?_) (fun c21 => ?_)
    · try simp at c21
      have hcl : (chL s).length < 65536 := by have := chL_len c15; omega
      have hw2 : IntKind.i64.wrap ((k : Int) + 1) = (k : Int) + 1 := wrap64 (by omega) (by omega)
      obtain ⟨a, r, d, hc, hd1, hd2⟩ := chL_get c15 c21
      have hE : encC (a :: r, d) = .agg [ints (a :: r), .int .i64 d] := rfl
      have hS := bestS_succ s k c21
      rw [hc] at hS
      simp only at hS
      have hbd := bestS_bd c15 k hk
      have hW4 : IntKind.i64.wrap (bestS s k + d) = bestS s k + d := wrap64 (by omega) (by omega)
      have hT : (bestP s).take (k + 1) = (bestP s).take k ++ [a] := by
        have h1 : k < (bestP s).length := by simpa [bestP] using c21
        rw [List.take_succ_eq_append_getElem h1]; simp [bestP, hc]
      have hln : min k (bestP s).length = k := by simp [bestP]; omega
      have hT2 : List.take (k + 1) (List.map (PV.int .i64) (bestP s)) = List.take k (List.map (PV.int .i64) (bestP s)) ++ [.int .i64 a] := by rw [← List.map_take, hT]; simp
      have hb : k + 1 ≤ 4294967296 := by omega
      refine .skip ?_
      refine .seq ?_
      refine .block ?_
      refine .seq ?_
      refine .rn ?_
      refine .seq ?_
      refine .drawn (ms := [0,1,0,4,12,28,60,127,255,511]) (W := [6,7,9]) (items := [.op 0, .op 1, .op 2, .op 3, .op 4, .op 5, .op 6, .ck 1, .op 7, .op 8, .op 9]) rfl zz0 zz0 zz0 ?_
      refine .rd rfl rfl (by decide) rfl (by decide) zz1 ?_   -- 0
      refine .rd rfl rfl (by decide) rfl (by decide) zz1 ?_   -- 1
      refine .rd rfl rfl (by decide) rfl (by decide) zz1 ?_   -- 2
      refine .rd rfl rfl (by decide) rfl (by decide) zz1 ?_   -- 3
      refine .rd rfl rfl (by decide) rfl (by decide) zz1 ?_   -- 4
      refine .rd rfl rfl (by decide) rfl (by decide) zz1 ?_   -- 5
      refine .wr rfl rfl (by decide) (.vop zz1 (by decide) ?_)   -- 6
      refine .ck rfl zz0 ?_   -- 1
      refine .wr rfl rfl (by decide) (.vop zz1 (by decide) ?_)   -- 7
      refine .rd rfl rfl (by decide) rfl (by decide) zz1 ?_   -- 8
      refine .wr rfl rfl (by decide) (.vop zz1 (by decide) ?_)   -- 9
      refine .done ?_
      refine .rn ?_
      refine .rn ?_
      refine ⟨k + 1, c21,zz5,(.mk [] [(3,6)] zz14 zz15 rfl rfl rfl)⟩
    · try simp at c21
      have : k = (chL s).length := by omega
      subst this
      have hbl : (bestP s).length = (chL s).length := by simp [bestP]
      refine .exit ?_
      refine .seq ?_
      refine .rn ?_
      refine .ret ?_
      refine ⟨_, _, zz4,(by simp [hbl] <;> rfl), ?_⟩
      have e3 : List.take (chL s).length (List.map (PV.int .i64) (bestP s)) = List.map (PV.int .i64) (bestP s) := List.take_of_length_le (by simp [hbl])
      rw [c15]
      show Soft _ _
      rw [e3]
      exact soft_rfl rfl
end Go.Am.Ds
end
section
namespace Go.Am.Ds
open Go Go.Am Go.Proofs
set_option maxRecDepth 100000
set_option maxHeartbeats 4000000
set_option linter.unusedSimpArgs false
set_option linter.unusedVariables false
attribute [local simp] vrun vwanted vyielded vop vopA vputAll VHeap.back hidI hidF backL bm Nat.testBit_eq_decide_div_mod_eq veval vevals vparts vO vbuiltin vlen vappend velems vcopy vmakeSlice vbuildSlice valloc vbox vmakeMap vload vpartT vpart vstore vfieldAddr vfield vindexAddr vindex vextract vslice vsliceZ vbounds vbnd zeroO vidx vlookup vmget vmapUpdate vdelete vclear vnilq vnilp vnils vbin vsc vsc1 vscs vscl abinOp aint ashift aunOp aconvert amaxs amax2 pvcV pvc pvcs tput tget vargs VHeap.get VHeap.alloc VHeap.put VHeap.drop VHeap.empty vlook vput vdrop psplice pfill preps chunk List.range List.range.loop vresults vresult vresultV frz frzL PV.isF PV.allF PV.scal PV.allS retP subT allFT PV.one PV.ids PV.idsL dropL beq_eq ble_dec blt_dec
theorem p63' (s : List Wit) (hl : s.length < 65536) : VPure Tryz.prog 63 [encS s] fun r => r = .tup [.agg [ints (bestP s), .int .i64 (bestS s (chL s).length)], .int .i64 (chE s)] := VPure.soft (p63 s hl) rfl
def cbR (s : List Wit) (l : List Int) (m : Int) : Int := if checkS s = 0 then (if (desR s l).2 = true ∧ chE s = 0 ∧ (desR s l).1 = m ∧ (desR s l).1 = bestS s (chL s).length then 0 else 8) else checkS s
theorem p55 (s : List Wit) (hl : s.length < 65536) : VPure Tryz.prog 55 [encS s] fun r => r = .tup [.int .i64 (bestS s (chL s).length), .int .i64 (chE s)] := by
  refine .of_body Tryz.func55 rfl rfl ?_
  refine .seq ?_
  refine .rn ?_
  refine .seq ?_
  refine .regionL [0,1,2,3,4,5,6,7] rfl zz0 ?_
  refine .rn [0] [1,2,3,4,5,6,7] ?_
  refine .step rfl rfl (.pure rfl rfl rfl Tryz.call63 (by decide) (p63' s hl) (by first | rfl | simp [*]) ?_)
  rintro _ rfl
  refine .rn [2,3,4,5,6,7] [] ?_
  refine .done ?_
  refine .seq ?_
  refine .rn ?_
  refine .ret ?_
  refine ⟨_, _, zz4,zz4, ?_⟩
  first | rfl | (simp [*]; done) | (simp_all; done)
theorem p56 (s : List Wit) (l : List Int) (m : Int) (hl : s.length < 65536) (hlL : l.length < 4611686018427387904) : VPure Tryz.prog 56 [encS s, .agg [ints l, .int .i64 m]] fun r => r = .int .i64 (cbR s l m) := by
  refine .of_body Tryz.func56 rfl rfl ?_
  refine .seq ?_
  refine .rn ?_
  refine .seq ?_
  refine .seq ?_
  refine .regionL [0,1,2] rfl zz0 ?_
  refine .rn [0] [1,2] ?_
  refine .step rfl rfl (.pure rfl rfl rfl Tryz.call35 (by decide) (p35 s (by omega)) (by first | rfl | simp [*]) ?_)
  rintro _ rfl
  refine .rn [2] [] ?_
  refine .done ?_
  refine .seq ?_
  refine .rn ?_
  refine .condS rfl (fun c13 => ?_) (fun c13 => ?_)
  · try simp at c13
    refine .seq ?_
    refine .rn ?_
    refine .ret ?_
    refine ⟨_, _, zz4,zz4, ?_⟩
    simp_all [cbR]
  · try simp at c13
    refine .skip ?_
    refine .seq ?_
    refine .regionL [0,1,2,3,4,5,6,7,8] rfl zz0 ?_
    refine .rn [0,1,2] [3,4,5,6,7,8] ?_
    refine .step rfl rfl (.pure rfl rfl rfl Tryz.call132 (by decide) (p132 s l hl hlL (checkS_lens c13)) (by first | rfl | simp [*]) ?_)
    rintro _ rfl
    refine .rn [4,5,6,7,8] [] ?_
    refine .done ?_
    refine .seq ?_
    refine .regionL [0,1,2,3,4,5,6] rfl zz0 ?_
    refine .rn [0] [1,2,3,4,5,6] ?_
    refine .step rfl rfl (.pure rfl rfl rfl Tryz.call55 (by decide) (p55 s hl) (by first | rfl | simp [*]) ?_)
    rintro _ rfl
    refine .rn [2,3,4,5,6] [] ?_
    refine .done ?_
    refine .seq ?_
    refine .seq ?_
    refine .regionL [0,1,2,3,4,5,6,7,8,9,10,11,12,13,14,15,16] rfl zz0 ?_
    refine .rn [0,1,2] [3,4,5,6,7,8,9,10,11,12,13,14,15,16] ?_
    refine .split (t := 29) rfl (fun c29 => ?_) (fun c29 => ?_)
    · try rw [c29]
      try simp at c29
      refine .rn [3,4,5,6,7,8,9,10,11,12,13,14,15,16] [] ?_
      refine .done ?_
      refine .condT rfl ?_
      refine .seq ?_
      refine .rn ?_
      refine .ret ?_
      refine ⟨_, _, zz4,zz4, ?_⟩
      simp_all [cbR]
    · try rw [c29]
      try simp at c29
      refine .rn [3,4,5,6] [7,8,9,10,11,12,13,14,15,16] ?_
      refine .split (t := 33) rfl (fun c33 => ?_) (fun c33 => ?_)
      · try rw [c33]
        try simp at c33
        refine .rn [7,8,9,10,11,12,13,14,15,16] [] ?_
        refine .done ?_
        refine .condT rfl ?_
        refine .seq ?_
        refine .rn ?_
        refine .ret ?_
        refine ⟨_, _, zz4,zz4, ?_⟩
        simp_all [cbR]
      · try rw [c33]
        try simp at c33
        refine .rn [7,8,9,10,11,12] [13,14,15,16] ?_
        refine .split (t := 39) rfl (fun c39 => ?_) (fun c39 => ?_)
        · try rw [c39]
          try simp at c39
          refine .rn [13,14,15,16] [] ?_
          refine .done ?_
          refine .condT rfl ?_
          refine .seq ?_
          refine .rn ?_
          refine .ret ?_
          refine ⟨_, _, zz4,zz4, ?_⟩
          simp_all [cbR]
        · try rw [c39]
          try simp at c39
          refine .rn [13,14,15,16] [] ?_
          refine .done ?_
          refine .condS rfl (fun c43 => ?_) (fun c43 => ?_)
          · try simp at c43
            refine .seq ?_
            refine .rn ?_
            refine .ret ?_
            refine ⟨_, _, zz4,zz4, ?_⟩
            simp_all [cbR]
          · try simp at c43
            refine .skip ?_
            refine .seq ?_
            refine .rn ?_
            refine .ret ?_
            refine ⟨_, _, zz4,zz4, ?_⟩
            simp_all [cbR]
end Go.Am.Ds
end
section
namespace Go.Am.Ds
open Go Go.Am Go.Proofs
set_option maxRecDepth 100000
set_option maxHeartbeats 4000000
set_option linter.unusedSimpArgs false
set_option linter.unusedVariables false
attribute [local simp] vrun vwanted vyielded vop vopA vputAll VHeap.back hidI hidF backL bm Nat.testBit_eq_decide_div_mod_eq veval vevals vparts vO vbuiltin vlen vappend velems vcopy vmakeSlice vbuildSlice valloc vbox vmakeMap vload vpartT vpart vstore vfieldAddr vfield vindexAddr vindex vextract vslice vsliceZ vbounds vbnd zeroO vidx vlookup vmget vmapUpdate vdelete vclear vnilq vnilp vnils vbin vsc vsc1 vscs vscl abinOp aint ashift aunOp aconvert amaxs amax2 pvcV pvc pvcs tput tget vargs VHeap.get VHeap.alloc VHeap.put VHeap.drop VHeap.empty vlook vput vdrop psplice pfill preps chunk List.range List.range.loop vresults vresult vresultV frz frzL PV.isF PV.allF PV.scal PV.allS retP subT allFT PV.one PV.ids PV.idsL dropL beq_eq ble_dec blt_dec
def orpW (s : List Wit) (c : Wit) : Bool := (parS s c).isEmpty
theorem orpW_head {s : List Wit} {c : Wit} (h : lastS c 0 = 0) : orpW s c = false := by unfold orpW parS headP; rw [if_pos h]; rfl
theorem orpW_step {s : List Wit} {c : Wit} {k : Nat} (hk : k < (idsS s).length) (h : (stepP s c (idsS s)[k]).isSome = true) : orpW s c = false := by
  unfold orpW
  cases hp : parS s c with
  | nil =>
    unfold parS at hp
    have h1 := (List.append_eq_nil_iff.1 hp).2
    rw [List.filterMap_eq_nil_iff] at h1
    rw [h1 _ (List.getElem_mem hk)] at h; cases h
  | cons a r => rfl
theorem orpW_all {s : List Wit} {c : Wit} (h : lastS c 0 ≠ 0) (h2 : ∀ k, ∀ hk : k < (idsS s).length, stepP s c (idsS s)[k] = none) : orpW s c = true := by
  unfold orpW parS headP
  rw [if_neg h, List.nil_append, List.isEmpty_iff, List.filterMap_eq_nil_iff]
  intro a ha
  obtain ⟨k, hk, rfl⟩ := List.getElem_of_mem ha
  exact h2 k hk
theorem p141 (s : List Wit) (id : Int) (i : Nat) (hi : i < s.length) (hie : findI s id = (i : Int)) (hl : s.length < 4294967296) (hck : ∀ w ∈ s, w.slips.length < 4294967296 ∧ w.mended.length < 4294967296 ∧ w.models.length < 4294967296) : VPure Tryz.prog 141 [.int .i64 id, .vp (encS s).cells] fun r => r = .bool (!(orpW s s[i])) := by
  obtain ⟨hw1, hw2, hw3⟩ := hck s[i] (List.getElem_mem hi)
  have hE : encW s[i] = .agg [.int .i64 s[i].id, .int .i64 s[i].known, ints s[i].slips, ints s[i].mended, ints s[i].models, .int .i64 s[i].lo, .int .i64 s[i].hi] := rfl
  refine .of_body Tryz.func141 rfl rfl ?_
  refine .seq ?_
  refine .rn ?_
  refine .seq ?_
  refine .seq ?_
  refine .drawn (ms := [0,0,2,0,0,24,62,126,255]) (W := [5,8]) (items := [.op 0, .op 1, .op 2, .op 3, .op 4, .op 5, .ck 2, .ck 0, .op 6, .op 7, .op 8]) rfl zz0 zz0 zz0 ?_
  refine .rd rfl rfl (by decide) rfl (by decide) zz1 ?_   -- 0
  refine .rd rfl rfl (by decide) rfl (by decide) zz1 ?_   -- 1
  refine .rd rfl rfl (by decide) rfl (by decide) zz1 ?_   -- 2
  refine .rd rfl rfl (by decide) rfl (by decide) zz1 ?_   -- 3
  refine .rd rfl rfl (by decide) rfl (by decide) zz1 ?_   -- 4
  refine .wr rfl rfl (by decide) (.pure rfl rfl rfl Tryz.call105 (by decide) (p105' s id hl) (by first | rfl | simp [*]) ?_)
  rintro _ rfl
  refine .ck rfl zz0 ?_   -- 2
  refine .ck rfl zz0 ?_   -- 0
  refine .rd rfl rfl (by decide) rfl (by decide) zz1 ?_   -- 6
  refine .rd rfl rfl (by decide) rfl (by decide) zz1 ?_   -- 7
  refine .wr rfl rfl (by decide) (.pure rfl rfl rfl Tryz.call106 (by decide) (p106 s s[i]) (by first | rfl | simp [*]) ?_)
  rintro _ rfl
  refine .done ?_
  refine .block ?_
  refine .rangeFunc rfl Tryz.call166 Tryz.func166 rfl rfl rfl ?_
  refine .seq ?_
  refine .seq ?_
  refine .regionL [0,1,2,3,4,5,6] rfl zz0 ?_
  refine .rn [0] [1,2,3,4,5,6] ?_
  refine .step rfl rfl (.pure rfl rfl rfl Tryz.call101 (by decide) (p101a s[i] hw3) (by first | rfl | simp [*]) ?_)
  rintro _ rfl
  refine .rn [2,3,4,5,6] [] ?_
  refine .done ?_
  refine .seq ?_
  refine .regionL [0,1,2,3,4,5,6,7,8,9] rfl zz0 ?_
  refine .rn [0,1,2] [3,4,5,6,7,8,9] ?_
  refine .split (t := 18) rfl (fun c18 => ?_) (fun c18 => ?_)
  · try rw [c18]
    try simp at c18
    refine .rn [3,4,5,6] [7,8,9] ?_
    refine .step rfl rfl (.yield rfl rfl rfl rfl rfl (by decide) rfl ?_)
    refine .skip ?_
    refine .block ?_
    refine .seq ?_
    refine .rn ?_
    refine .ret ?_
    change VOps _ _ _ _ _ _ _ _
    refine .rn [8,9] [] ?_
    refine .done ?_
    refine .condT rfl ?_
    refine .ret ?_
    change rfEnd _ _ _ _
    refine rf_ret rfl ?_
    refine ⟨_, _, zz4,zz4, ?_⟩
    rw [orpW_head c18]; rfl
  · try rw [c18]
    try simp at c18
    refine .rn [3,4,5,6,7,8,9] [] ?_
    refine .done ?_
    refine .condF rfl ?_
    refine .skip ?_
    refine .seq ?_
    refine .regionL [0,1,2,3] rfl zz0 ?_
    refine .rn [0] [1,2,3] ?_
    refine .step rfl rfl (.pure rfl rfl rfl Tryz.call99 (by decide) (p99' s hl) (by first | rfl | simp [*]) ?_)
    rintro _ rfl
    refine .rn [2,3] [] ?_
    refine .done ?_
    refine .block ?_
    refine .loopS (fun k : Nat => ([(0, .yld 1),(1, .vp (encW s[i]).cells),(2, .vp (encS s).cells),(27, ints (idsS s)),(28, .int .i64 (idsS s).length),(29, .int .i64 k)], ⟨2,[(1, .loop _ #[13,14] _ _ [(3, .ptr 0 0)] none),(0, .box [.bool false])]⟩)) (fun k => k ≤ (idsS s).length ∧ ∀ j, ∀ hj : j < (idsS s).length, j < k → stepP s s[i] (idsS s)[j] = none) (fun k => (idsS s).length - k) 0 (by simp) (.mk [] [] zz14 zz15 rfl rfl rfl) ?_
    rintro k ⟨hk, hno⟩
    simp only at hk hno ⊢
    refine .seq ?_
    refine .rn ?_
    refine .seq ?_
    refine .condS rfl (fun c30 => ?_) (fun c30 => ?_)
    · try simp at c30
      have hw2' : IntKind.i64.wrap ((k : Int) + 1) = (k : Int) + 1 := by have := idsS_len s; exact wrap64 (by omega) (by omega)
      have hmem := find_ids (List.getElem_mem c30)
      obtain ⟨j, hj, hje, hgb⟩ := getW_some hmem
      obtain ⟨hv1, hv2, hv3⟩ := hck s[j] (List.getElem_mem hj)
      have hE2 : encW s[j] = .agg [.int .i64 s[j].id, .int .i64 s[j].known, ints s[j].slips, ints s[j].mended, ints s[j].models, .int .i64 s[j].lo, .int .i64 s[j].hi] := rfl
      refine .skip ?_
      refine .seq ?_
      refine .block ?_
      refine .seq ?_
      refine .rn ?_
      refine .seq ?_
      refine .drawnF (ms := [0,1,0,0,12,31,63,0,255]) (W := [4,8]) (As := [7]) (items := [.op 0, .op 1, .op 2, .op 3, .op 7, .op 4, .ck 1, .op 5, .op 6, .op 8]) rfl zz0 zz0 zz0 zz0 (by decide) ?_
      refine .rd rfl rfl (by decide) (by decide) (by decide) rfl (by decide) zz1 ?_   -- 0
      refine .rd rfl rfl (by decide) (by decide) (by decide) rfl (by decide) zz1 ?_   -- 1
      refine .rd rfl rfl (by decide) (by decide) (by decide) rfl (by decide) zz1 ?_   -- 2
      refine .rd rfl rfl (by decide) (by decide) (by decide) rfl (by decide) zz1 ?_   -- 3
      refine .al rfl rfl (by decide) (by decide) (by decide) (by decide) zz1 ?_   -- 7
      refine .wr rfl rfl (by decide) (.pure rfl rfl rfl Tryz.call105 (by decide) (p105' s _ hl) (by first | rfl | simp [*]) ?_)
      rintro _ rfl
      refine .ck rfl zz0 ?_   -- 1
      refine .rd rfl rfl (by decide) (by decide) (by decide) rfl (by decide) zz1 ?_   -- 5
      refine .rd rfl rfl (by decide) (by decide) (by decide) rfl (by decide) zz1 ?_   -- 6
      refine .wr rfl rfl (by decide) (.vop zz1 (by decide) ?_)   -- 8
      refine .done ?_
      refine .seq ?_
      refine .seq ?_
      refine .regionL [0,1,2,3,4,5,6] rfl zz0 ?_
      refine .rn [0] [1,2,3,4,5,6] ?_
      refine .step rfl rfl (.borrow rfl rfl rfl Tryz.call101 (by decide) (by first | (simp <;> rfl) | (simp [*] <;> rfl) | (simp [*]; done)) (p101b s[i] s[j] hw1 hw2 hw3 hv1) (by rintro _ rfl <;> first | (simp; done) | rfl) ?_)
      rintro _ rfl
      refine .rn [2,3,4,5,6] [] ?_
      refine .done ?_
      refine .seq ?_
      refine .rn ?_
      refine .condS rfl (fun c46 => ?_) (fun c46 => ?_)
      · try simp at c46
        have hN : stepP s s[i] (idsS s)[k] = none := by rw [stepP, hgb]; simp [c46]
        refine .exit ?_
        refine .rn ?_
        refine ⟨k + 1, ⟨c30, fun j' hj' h => ?_⟩, zz5,(.mk [] [] zz14 zz15 rfl rfl rfl)⟩
        rcases Nat.lt_succ_iff_lt_or_eq.1 h with h | h
        · exact hno j' hj' h
        · subst h; exact hN
      · try simp at c46
        have hN : (stepP s s[i] (idsS s)[k]).isSome = true := by rw [stepP, hgb]; simp [c46]
        refine .skip ?_
        refine .seq ?_
        refine .regionL [0,1,2,3,4,5,6] rfl zz0 ?_
        refine .rn [0,1,2] [3,4,5,6] ?_
        refine .step rfl rfl (.take rfl rfl rfl Tryz.call109 (by decide) (by first | (simp <;> rfl) | (simp [*] <;> rfl) | (simp [*]; done)) (p109 s[i] s[j] hw1 hv1) ?_)
        rintro _ rfl
        refine .rn [4] [5,6] ?_
        refine .step rfl rfl (.yield rfl rfl rfl rfl rfl (by decide) rfl ?_)
        refine .skip ?_
        refine .block ?_
        refine .seq ?_
        refine .rn ?_
        refine .ret ?_
        change VOps _ _ _ _ _ _ _ _
        refine .rn [6] [] ?_
        refine .done ?_
        refine .condT rfl ?_
        refine .ret ?_
        change rfEnd _ _ _ _
        refine rf_ret rfl ?_
        refine ⟨_, _, zz4,zz4, ?_⟩
        rw [orpW_step c30 hN]; rfl
    · try simp at c30
      have hkn : k = (idsS s).length := by omega
      refine .exit ?_
      change rfEnd _ _ _ _
      refine rf_none rfl ?_
      refine .seq ?_
      refine .rn ?_
      refine .ret ?_
      refine ⟨_, _, zz4,zz4, ?_⟩
      rw [orpW_all c18 (fun j' hj' => hno j' hj' (by omega))]; rfl
theorem p99g (s : List Wit) (hl : s.length < 4294967296) (hne : 0 < s.length) : VCall Tryz.prog 99 [encS s] VHeap.empty fun v vh' => ∃ i nl, v = .grow i (idsS s).length nl ∧ vh'.get i = some (.grow 1 ((idsS s).map (.int .i64))) := by
  refine .of_body Tryz.func99 rfl rfl ?_
  refine .seq ?_
  refine .rn ?_
  refine .seq ?_
  refine .rn ?_
  refine .seq ?_
  refine .seq ?_
  refine .rn ?_
  refine .block ?_
  refine .loopS (fun i : Nat => ([(3, .grow 1 i true),(7, .vec (s.map encW)),(8, .int .i64 s.length),(9, .int .i64 i)], ⟨2,[(1, .grow 1 (((s.take i).map Wit.id).map (.int .i64)))]⟩)) (fun i => i ≤ s.length) (fun i => s.length - i) 0 (by simp) (.mk [] [] zz14 zz15 rfl rfl rfl) ?_
  rintro i hi
  simp only at hi ⊢
  refine .seq ?_
  refine .rn ?_
  refine .seq ?_
  refine .condS rfl (fun c10 => ?_) (fun c10 => ?_)
  · try simp at c10
    have hw2 : IntKind.i64.wrap ((i : Int) + 1) = (i : Int) + 1 := wrap64 (by omega) (by omega)
    have hT := take_succ_map Wit.id s i c10
    have hb : i + 1 ≤ 4294967296 := by omega
    have hE : encW s[i] = .agg [.int .i64 s[i].id, .int .i64 s[i].known, ints s[i].slips, ints s[i].mended, ints s[i].models, .int .i64 s[i].lo, .int .i64 s[i].hi] := rfl
    refine .skip ?_
    refine .seq ?_
    refine .block ?_
    refine .seq ?_
    refine .rn ?_
    refine .rn ?_
    refine .rn ?_
    refine ⟨i + 1,zz5,zz5,(.mk [] [(1,4)] zz14 zz15 rfl rfl rfl)⟩
  · try simp at c10
    have : i = s.length := by omega
    subst this
    have hil := idsS_len s
    refine .exit ?_
    refine .seq ?_
    refine .regionL [0,1] rfl zz0 ?_
    refine .rn [0] [1] ?_
    refine .step rfl rfl (.call rfl rfl rfl Tryz.call159 (by decide) (((VCall.sortGrow (zs := s.map Wit.id) lsort (by simp [List.take_of_length_le]) (by simp))).mono ?_))
    rintro _ _ ⟨rfl, rfl⟩
    refine .done ?_
    refine .seq ?_
    refine .rn ?_
    refine .ret ?_
    exact ⟨_, zz4,1, true, (by rw [hil]; rfl), by simp [idsS]⟩
def orpI (s : List Wit) (id : Int) : Bool := match getW s id with
  | some c => orpW s c
  | none => false
def orpL (s : List Wit) : List Int := if checkS s = 0 then (idsS s).filter (orpI s) else []
theorem orp_call {s : List Wit} (hl : s.length < 4294967296) (h : checkS s = 0) : ∀ a ∈ idsS s, VPure Tryz.prog 141 ([] ++ [.int .i64 a] ++ [.vp (encS s).cells]) fun r => r = .bool (!(orpI s a)) := by
  intro a ha
  obtain ⟨j, hj, hje, hg⟩ := getW_some (find_ids ha)
  have := p141 s a j hj hje hl (checkS_lens h)
  rw [orpI, hg]; exact this
theorem p69a (s : List Wit) (hl : s.length < 4294967296) (hne : 0 < s.length) : VPure Tryz.prog 69 [encS s] fun r => Soft r (.tup [ints (orpL s), .int .i64 (checkS s)]) := by
  have hl2 : (idsS s).length < 4294967296 := by have := idsS_len s; omega
  have hne2 : 0 < (idsS s).length := by have := idsS_len s; omega
  refine .of_body Tryz.func69 rfl rfl ?_
  refine .seq ?_
  refine .rn ?_
  refine .seq ?_
  refine .seq ?_
  refine .regionL [0,1,2] rfl zz0 ?_
  refine .rn [0] [1,2] ?_
  refine .step rfl rfl (.pure rfl rfl rfl Tryz.call35 (by decide) (p35 s hl) (by first | rfl | simp [*]) ?_)
  rintro _ rfl
  refine .rn [2] [] ?_
  refine .done ?_
  refine .seq ?_
  refine .rn ?_
  refine .condS rfl (fun c8 => ?_) (fun c8 => ?_)
  · try simp at c8
    refine .seq ?_
    refine .rn ?_
    refine .ret ?_
    refine ⟨_, _, zz4,zz4, ?_⟩
    have e1 : orpL s = [] := by unfold orpL; rw [if_neg c8]
    rw [e1]
    exact soft_tup (AltL.cons .sl0v (AltL.cons (.same _ rfl) AltL.nil))
  · try simp at c8
    refine .rec (vts2 := [(1, .vp (encS s).cells)]) (vh2 := ⟨1,[]⟩) (.mk [0] [] (by repeat' (first | exact trivial | refine And.intro (Exists.intro _ (And.intro rfl ?_)) ?_ | exact Alt.fptr 0 0 _ rfl rfl rfl (Nat.zero_le _))) zz15 rfl rfl rfl) ?_
    refine .skip ?_
    refine .seq ?_
    refine .regionL [0,1,2,3,4,5] rfl zz0 ?_
    refine .rn [0] [1,2,3,4,5] ?_
    refine .step rfl rfl (.call rfl rfl rfl Tryz.call99 (by decide) (((VCall.fresh' (by simp) (p99g s hl hne) rfl hne2)).mono ?_))
    rintro _ _ ⟨rfl, rfl⟩
    refine .rn [2] [3,4,5] ?_
    refine .step rfl rfl (.call rfl rfl rfl Tryz.call134 (by decide) (((give134 (idsS s) (fun a => !(orpI s a)) 141 [] [.vp (encS s).cells] hl2 hne2 rfl rfl Tryz.call141 (orp_call hl c8) 1 false rfl)).mono ?_))
    rintro _ _ ⟨rfl, rfl⟩
    refine .rn [4,5] [] ?_
    refine .done ?_
    refine .ret ?_
    refine ⟨_, _, zz4,zz4, ?_⟩
    have e1 : orpL s = (idsS s).filter fun a => orpI s a := by unfold orpL; rw [if_pos c8]
    rw [e1, c8]
    show Soft _ _
    exact soft_rfl rfl
theorem orpL_len (s : List Wit) : (orpL s).length ≤ s.length := by
  unfold orpL
  split
  · exact Nat.le_trans (List.length_filter_le _ _) (by rw [idsS_len]; exact Nat.le_refl _)
  · exact Nat.zero_le _
theorem p69n (s : List Wit) (hl : s.length < 4294967296) (hne : 0 < s.length) : VPure Tryz.prog 69 [encS s] fun r => r = .tup [ints (orpL s), .int .i64 (checkS s)] := VPure.soft (p69a s hl hne) rfl
theorem p69e (hl : ([] : List Wit).length < 4294967296) : VPure Tryz.prog 69 [encS []] fun r => Soft r (.tup [ints (orpL []), .int .i64 (checkS [])]) := by
  refine .of_body Tryz.func69 rfl rfl ?_
  refine .seq ?_
  refine .rn ?_
  refine .seq ?_
  refine .seq ?_
  refine .regionL [0,1,2] rfl zz0 ?_
  refine .rn [0] [1,2] ?_
  refine .step rfl rfl (.pure rfl rfl rfl Tryz.call35 (by decide) (p35 [] hl) (by first | rfl | simp [*]) ?_)
  rintro _ rfl
  refine .rn [2] [] ?_
  refine .done ?_
  refine .seq ?_
  refine .rn ?_
  refine .condS rfl (fun c8 => ?_) (fun c8 => ?_)
  · try simp at c8
    refine .seq ?_
    refine .rn ?_
    refine .ret ?_
    refine ⟨_, _, zz4,zz4, ?_⟩
    have e1 : orpL [] = [] := by unfold orpL; rw [if_neg c8]
    rw [e1]
    exact soft_tup (AltL.cons .sl0v (AltL.cons (.same _ rfl) AltL.nil))
  · try simp at c8
    refine .rec (vts2 := [(1, .vp (encS []).cells)]) (vh2 := ⟨1,[]⟩) (.mk [0] [] (by repeat' (first | exact trivial | refine And.intro (Exists.intro _ (And.intro rfl ?_)) ?_ | exact Alt.fptr 0 0 _ rfl rfl rfl (Nat.zero_le _))) zz15 rfl rfl rfl) ?_
    refine .skip ?_
    refine .seq ?_
    refine .regionL [0,1,2,3,4,5] rfl zz0 ?_
    refine .rn [0] [1,2,3,4,5] ?_
    refine .step rfl rfl (.pure rfl rfl rfl Tryz.call99 (by decide) ((by have h := p99' [] hl; rw [show idsS [] = [] by simp [idsS]] at h; exact h)) (by first | rfl | simp [*]) ?_)
    rintro _ rfl
    refine .rn [2] [3,4,5] ?_
    refine .step rfl rfl (.pure rfl rfl rfl Tryz.call134 (by decide) (p134e 141 [] [.vp (encS []).cells] rfl rfl Tryz.call141) (by first | rfl | simp [*]) ?_)
    rintro _ rfl
    refine .rn [4,5] [] ?_
    refine .done ?_
    refine .ret ?_
    refine ⟨_, _, zz4,zz4, ?_⟩
    have e1 : orpL [] = [] := by unfold orpL; rw [if_pos c8]; simp [idsS]
    rw [e1, c8]
    show Soft _ _
    exact soft_rfl rfl
theorem p69 (s : List Wit) (hl : s.length < 4294967296) : VPure Tryz.prog 69 [encS s] fun r => r = .tup [ints (orpL s), .int .i64 (checkS s)] := by
  cases s with
  | nil => exact VPure.soft (p69e hl) rfl
  | cons a r => exact p69n (a :: r) hl (by simp)
end Go.Am.Ds
end
section
namespace Go.Am.Ds
open Go Go.Am Go.Proofs
theorem fold_mem : ∀ (l d : List (Int × Int)) (x : List Int × Int),(∀ b ∈ x.1,(b, x.2) ∈ d) → ∀ b ∈ (l.foldl stepC x).1,(b, (l.foldl stepC x).2) ∈ d ++ l
  | [], d, x, h => by simpa using h
  | y :: r, d, x, h => by
    have ih := fold_mem r (d ++ [y]) (stepC x y) (by
      unfold stepC
      split
      · intro b hb; exact List.mem_append_left _ (h b hb)
      · rename_i h1
        split
        · intro b hb
          rw [List.mem_singleton] at hb
          subst hb; simp
        · rename_i h2
          intro b hb
          have h3 : x.1 ≠ [] := fun h4 => h2 (.inl h4)
          have h4 : ¬ y.2 < x.2 := fun h4 => h2 (.inr h4)
          have h5 : ¬ x.2 < y.2 := fun h5 => h1 ⟨h3, h5⟩
          rcases List.mem_append.1 hb with hb | hb
          · exact List.mem_append_left _ (h b hb)
          · rw [List.mem_singleton] at hb
            subst hb
            have h6 : x.2 = y.2 := by omega
            simp [h6])
    rw [List.append_assoc, List.singleton_append] at ih
    rw [List.foldl_cons]
    exact ih
theorem choF_mem {s : List Wit} {c : Wit} {b : Int} (h : b ∈ (choF s c).1) : (b, (choF s c).2) ∈ parS s c := by
  have := fold_mem (parS s c) [] ([],0) (by simp) b h
  rw [List.nil_append] at this
  exact this
theorem stepD_par {s : List Wit} (h : checkS s = 0) {c : Wit} {b d : Int} (hb : (b, d) ∈ parS s c) : stepD s c b = some d := by
  rcases parS_mem.1 hb with ⟨he, h1⟩ | ⟨p, _, h2, h3, h4⟩
  · injection he with e1 e2
    subst e1; subst e2
    have hg : getW s 0 = none := by
      cases hg : getW s 0 with
      | none => rfl
      | some p =>
        obtain ⟨hp, h0⟩ := getW_mem hg
        have := checkS_pos h p hp
        omega
    simp only [stepD, hg]
    rw [if_pos ⟨trivial, h1⟩]
  · simp only at h2 h4
    simp only [stepD, h2]
    rw [if_pos h3, h4]
theorem head_mem {l : List Int} (h : l ≠ []) : l.headD 0 ∈ l := by
  cases l with
  | nil => exact absurd rfl h
  | cons a r => simp
theorem desL_best {s : List Wit} (h : chE s = 0) : desL s (bestP s) = (chL s).map fun c => some c.2 := by
  obtain ⟨h0, h1⟩ := chE_ok h
  have hb : bestP s = s.map fun c => (choF s c).1.headD 0 := by unfold bestP; rw [chL_ok h, List.map_map]; rfl
  rw [chL_ok h, hb]
  unfold desL
  rw [List.zip_map_right, List.map_map, List.map_map]
  apply List.ext_getElem
  · simp
  · intro i h2 h3
    simp only [List.getElem_map, List.getElem_zip, Function.comp, Prod.map, id]
    exact stepD_par h0 (choF_mem (head_mem (h1 _ (List.getElem_mem _))))
theorem cbR_best {s : List Wit} (h : chE s = 0) : cbR s (bestP s) (bestS s (chL s).length) = 0 := by
  obtain ⟨h0, h1⟩ := chE_ok h
  have hlen := chL_len h
  have hd : desR s (bestP s) = (bestS s (chL s).length, true) := by
    unfold desR
    rw [if_pos ⟨by simp [bestP, hlen], by rw [desL_best h]; simp⟩]
    congr 1
    unfold desP bestS
    rw [desL_best h, ← hlen, List.take_of_length_le (by simp), List.take_of_length_le (by simp), List.map_map]
    rfl
  unfold cbR
  rw [if_pos h0, hd, if_pos ⟨rfl, h, rfl, rfl⟩]
theorem checkL_sub : ∀ {l' l : List Wit}, l'.Sublist l → ∀ {seen seen' : List Int},(∀ x ∈ seen', x ∈ seen) → checkL l seen = 0 → checkL l' seen' = 0
  | _, _, .slnil, _, _, _, _ => rfl
  | _, _, .cons (l₂ := r) w hs, seen, seen', hm, h => by
    simp only [checkL] at h
    split at h
    · split at h
      · cases h
      · exact checkL_sub hs (fun x hx => (mem_insU _ _ _).2 (.inl (hm x hx))) h
    · rename_i h0; exact absurd h h0
  | _, _, .cons_cons (l₁ := r') (l₂ := r) w hs, seen, seen', hm, h => by
    simp only [checkL] at h ⊢
    split at h
    · rename_i h0
      rw [if_pos h0]
      split at h
      · cases h
      · rename_i hn
        rw [if_neg (fun h1 => hn (hm _ h1))]
        refine checkL_sub hs (fun x hx => ?_) h
        rcases (mem_insU _ _ _).1 hx with h1 | h1
        · exact (mem_insU _ _ _).2 (.inl (hm x h1))
        · exact (mem_insU _ _ _).2 (.inr h1)
    · rename_i h0; exact absurd h h0
theorem checkS_filter {s : List Wit} (h : checkS s = 0) (p : Wit → Bool) : checkS (s.filter p) = 0 := by
  unfold checkS at h ⊢
  split at h
  · cases h
  · have := List.length_filter_le p s
    rw [if_neg (by omega)]
    exact checkL_sub List.filter_sublist (fun x hx => hx) h
theorem getW_own : ∀ {s : List Wit},(s.map Wit.id).Nodup → ∀ {w : Wit}, w ∈ s → getW s w.id = some w
  | a :: r, hn, w, hw => by
    rw [List.map_cons, List.nodup_cons] at hn
    unfold getW
    rw [List.find?_cons]
    rcases List.mem_cons.1 hw with rfl | hw
    · simp
    · have : a.id ≠ w.id := fun h => hn.1 (h ▸ List.mem_map_of_mem hw)
      rw [show decide (a.id = w.id) = false from decide_eq_false this]
      exact getW_own hn.2 hw
theorem orpI_own {s : List Wit} (h : checkS s = 0) {w : Wit} (hw : w ∈ s) : orpI s w.id = orpW s w := by
  unfold orpI; rw [getW_own (checkS_nodup h) hw]
theorem orpL_mem {s : List Wit} (h : checkS s = 0) {w : Wit} (hw : w ∈ s) : w.id ∈ orpL s ↔ orpW s w = true := by
  unfold orpL
  rw [if_pos h, List.mem_filter, orpI_own h hw]
  exact ⟨fun h1 => h1.2, fun h1 => ⟨idsS_mem.2 ⟨w, hw, rfl⟩, h1⟩⟩
theorem orpL_len_eq {s : List Wit} (h : checkS s = 0) : (orpL s).length = (s.filter (orpW s)).length := by
  unfold orpL
  rw [if_pos h]
  have hp : (idsS s).Perm (s.map Wit.id) := List.mergeSort_perm _ _
  rw [(hp.filter (orpI s)).length_eq, List.filter_map, List.length_map]
  congr 1
  exact List.filter_congr fun w hw => orpI_own h hw
theorem orp_count {s : List Wit} (h : checkS s = 0) : (s.filter fun w => !decide (w.id ∈ orpL s)).length + (orpL s).length = s.length := by
  rw [orpL_len_eq h]
  have e : (s.filter fun w => !decide (w.id ∈ orpL s)) = s.filter fun w => !(orpW s w) := List.filter_congr fun w hw => by
    have := orpL_mem h hw
    by_cases h1 : orpW s w = true
    · simp [h1, this.2 h1]
    · have h2 : w.id ∉ orpL s := fun h2 => h1 (this.1 h2)
      simp [h1, h2]
  rw [e]
  have : ∀ l : List Wit, (l.filter fun w => !(orpW s w)).length + (l.filter (orpW s)).length = l.length := by
    intro l
    induction l with
    | nil => rfl
    | cons a r ih =>
      simp only [List.filter_cons]
      cases orpW s a <;> simp <;> omega
  exact this s
theorem orpW_iff {s : List Wit} {c : Wit} : orpW s c = true ↔ (choF s c).1 = [] := by
  unfold orpW
  rw [List.isEmpty_iff]
  rcases choF_spec s c with ⟨h1, h2⟩ | ⟨h1, _, y, h2, _⟩
  · simp [h1, h2]
  · exact ⟨fun h3 => by (rw [h3] at h2; cases h2), fun h3 => absurd h3 h1⟩
theorem orpL_nil {s : List Wit} (h : checkS s = 0) : orpL s = [] ↔ chE s = 0 := by
  have h1 : orpL s = [] ↔ ¬ ∃ c ∈ s, (choF s c).1 = [] := by
    constructor
    · rintro h2 ⟨c, hc, h3⟩
      have := (orpL_mem h hc).2 (orpW_iff.2 h3)
      rw [h2] at this; cases this
    · intro h2
      rw [List.eq_nil_iff_forall_not_mem]
      intro a ha
      have hb := ha
      unfold orpL at hb
      rw [if_pos h] at hb
      obtain ⟨w, hw, rfl⟩ := idsS_mem.1 (List.mem_filter.1 hb).1
      exact h2 ⟨w, hw, orpW_iff.1 ((orpL_mem h hw).1 ha)⟩
  rw [h1]
  unfold chE
  rw [if_pos h]
  by_cases h2 : ∃ c ∈ s, (choF s c).1 = [] <;> simp [h2]
theorem chE_9 {s : List Wit} (h : checkS s = 0) (h2 : chE s ≠ 0) : chE s = 9 := by
  unfold chE at h2 ⊢
  rw [if_pos h] at h2 ⊢
  split at h2
  · rename_i h3; rw [if_pos h3]
  · exact absurd rfl h2
theorem orpL_mod {s : List Wit} (h : checkS s = 0) {a : Int} (ha : a ∈ orpL s) : modL s a = [] ∧ modE s a = 0 := by
  have hb := ha
  unfold orpL at hb
  rw [if_pos h] at hb
  obtain ⟨w, hw, rfl⟩ := idsS_mem.1 (List.mem_filter.1 hb).1
  have h1 := (orpL_mem h hw).1 ha
  unfold orpW at h1
  rw [List.isEmpty_iff] at h1
  unfold modL modE
  rw [if_pos h, if_pos h, getW_own (checkS_nodup h) hw]
  simp [h1]
end Go.Am.Ds
end
section
namespace Go.Am.Ds
open Go Go.Am Go.Proofs
set_option maxRecDepth 100000
set_option maxHeartbeats 4000000
set_option linter.unusedSimpArgs false
set_option linter.unusedVariables false
attribute [local simp] vrun vwanted vyielded vop vopA vputAll VHeap.back hidI hidF backL bm Nat.testBit_eq_decide_div_mod_eq veval vevals vparts vO vbuiltin vlen vappend velems vcopy vmakeSlice vbuildSlice valloc vbox vmakeMap vload vpartT vpart vstore vfieldAddr vfield vindexAddr vindex vextract vslice vsliceZ vbounds vbnd zeroO vidx vlookup vmget vmapUpdate vdelete vclear vnilq vnilp vnils vbin vsc vsc1 vscs vscl abinOp aint ashift aunOp aconvert amaxs amax2 pvcV pvc pvcs tput tget vargs VHeap.get VHeap.alloc VHeap.put VHeap.drop VHeap.empty vlook vput vdrop psplice pfill preps chunk List.range List.range.loop vresults vresult vresultV frz frzL PV.isF PV.allF PV.scal PV.allS retP subT allFT PV.one PV.ids PV.idsL dropL beq_eq ble_dec blt_dec
def nextS (s : List Wit) : List Wit := s.filter fun w => !decide (w.id ∈ orpL s)
theorem nextS_set (s : List Wit) : (s.filter fun w => !decide (w.id ∈ setK [orpL s])) = nextS s := by
  unfold nextS; congr 1; funext w; congr 1; rw [decide_eq_decide]; exact mem_setK1 _ _
theorem p36o (s : List Wit) (h : checkS s = 0) (hl : s.length < 4294967296) : VPure Tryz.prog 36 [encS s, ints (orpL s)] fun r => r = .tup [encS (nextS s), .int .i64 0] := by
  have := p36 s (orpL s) hl (by have := orpL_len s; omega)
  rw [if_pos h, nextS_set, h] at this
  exact this
theorem p69o (s : List Wit) (h : checkS s = 0) (hl : s.length < 4294967296) : VPure Tryz.prog 69 [encS s] fun r => r = .tup [ints (orpL s), .int .i64 0] := by
  have := p69 s hl; rw [h] at this; exact this
theorem p30o (s : List Wit) (h : checkS s = 0) (a : Int) (ha : a ∈ orpL s) (hl : s.length < 4294967296) : VPure Tryz.prog 30 [encS s, .int .i64 a] fun r => r = .tup [.vec [], .int .i64 0] := by
  have := p30' s a hl
  rw [(orpL_mod h ha).1,(orpL_mod h ha).2] at this
  exact this
theorem p56o (s : List Wit) (h : chE s = 0) (hl : s.length < 65536) : VPure Tryz.prog 56 [encS s, .agg [ints (bestP s), .int .i64 (bestS s (chL s).length)]] fun r => r = .int .i64 0 := by
  have := p56 s (bestP s) (bestS s (chL s).length) hl (by simp [bestP]; have := chL_len h; omega)
  rw [cbR_best h] at this
  exact this
theorem smallS_len {s : List Wit} (h : smallS s = true) : s.length ≤ 12 := by
  unfold smallS at h
  simp only [Bool.and_eq_true, decide_eq_true_eq] at h
  exact h.2
theorem p13 (s : List Wit) (hl : s.length < 4611686018427387904) (sanB : Bool) (hsan : VPure Tryz.prog 22 [] fun r => r = .bool sanB) (hsb : sanB = true) : VPure Tryz.prog 13 [encS s] fun r => r = .bool true := by
  refine .of_body Tryz.func13 rfl rfl ?_
  refine .seq ?_
  refine .rn ?_
  refine .seq ?_
  refine .seq ?_
  refine .regionL [0,1,2,3,4,5,6,7] rfl zz0 ?_
  refine .rn [0] [1,2,3,4,5,6,7] ?_
  refine .step rfl rfl (.pure rfl rfl rfl Tryz.call21 (by decide) (p21 s hl) (by first | rfl | simp [*]) ?_)
  rintro _ rfl
  refine .rn [2,3] [4,5,6,7] ?_
  refine .split (t := 17) rfl (fun c17 => ?_) (fun c17 => ?_)
  · try rw [c17]
    try simp at c17
    refine .rn [4,5,6,7] [] ?_
    refine .done ?_
    refine .condT rfl ?_
    refine .seq ?_
    refine .regionL [0,1] rfl zz0 ?_
    refine .step rfl rfl (.pure rfl rfl rfl Tryz.call22 (by decide) (hsan) (by first | rfl | simp [*]) ?_)
    rintro _ rfl
    refine .rn [1] [] ?_
    refine .done ?_
    refine .ret ?_
    refine ⟨_, _, zz4,zz4, ?_⟩
    first | rfl | (simp [*]; done) | (simp_all; done)
  · try rw [c17]
    try simp at c17
    have hl2 := smallS_len c17
    refine .rn [4] [5,6,7] ?_
    refine .step rfl rfl (.pure rfl rfl rfl Tryz.call35 (by decide) (p35 s (by omega)) (by first | rfl | simp [*]) ?_)
    rintro _ rfl
    refine .rn [6,7] [] ?_
    refine .done ?_
    refine .condS rfl (fun c21 => ?_) (fun c21 => ?_)
    · try simp at c21
      refine .seq ?_
      refine .regionL [0,1] rfl zz0 ?_
      refine .step rfl rfl (.pure rfl rfl rfl Tryz.call22 (by decide) (hsan) (by first | rfl | simp [*]) ?_)
      rintro _ rfl
      refine .rn [1] [] ?_
      refine .done ?_
      refine .ret ?_
      refine ⟨_, _, zz4,zz4, ?_⟩
      first | rfl | (simp [*]; done) | (simp_all; done)
    · try simp at c21
      refine .skip ?_
      refine .seq ?_
      refine .rn ?_
      refine .seq ?_
      refine .seq ?_
      refine .rn ?_
      refine .block ?_
      refine .loopS (fun st : Nat × List Wit => ([(1, .ptr 0 0),(3, .ptr 1 0),(4, .int .i64 st.1)], ⟨2,[(1, .box [.vec (st.2.map encW)]),(0, .box [.vec (s.map encW)])]⟩)) (fun st => st.1 + st.2.length ≤ s.length ∧ checkS st.2 = 0) (fun st => s.length - st.1) (0, s) (by simp [c21]) (.mk [] [] zz14 zz15 rfl rfl rfl) ?_
      rintro ⟨n, t⟩ ⟨hn, ht⟩
      simp only at hn ht ⊢
      refine .seq ?_
      refine .seq ?_
      refine .rn ?_
      refine .condS rfl (fun c28 => ?_) (fun c28 => ?_)
      · try simp at c28
        have hw2 : IntKind.i64.wrap ((n : Int) + 1) = (n : Int) + 1 := wrap64 (by omega) (by omega)
        have hnil := orpL_nil ht
        have htl : t.length < 65536 := by omega
        have hol := orpL_len t
        have hq : (((orpL t).length : Int) == 0) = (chE t == 0) := by rw [Bool.eq_iff_iff]; simp [hnil]
        refine .skip ?_
        refine .seq ?_
        refine .block ?_
        refine .seq ?_
        refine .regionL [0,1,2,3,4,5,6] rfl zz0 ?_
        refine .rn [0] [1,2,3,4,5,6] ?_
        refine .step rfl rfl (.pure rfl rfl rfl Tryz.call69 (by decide) (p69o t ht (by omega)) (by first | rfl | simp [*]) ?_)
        rintro _ rfl
        refine .rn [2,3,4,5,6] [] ?_
        refine .done ?_
        refine .seq ?_
        refine .regionL [0,1,2,3,4,5,6,7] rfl zz0 ?_
        refine .rn [0] [1,2,3,4,5,6,7] ?_
        refine .step rfl rfl (.pure rfl rfl rfl Tryz.call63 (by decide) (p63' t htl) (by first | rfl | simp [*]) ?_)
        rintro _ rfl
        refine .rn [2,3,4,5,6,7] [] ?_
        refine .done ?_
        refine .seq ?_
        refine .seq ?_
        refine .regionL [0,1,2,3,4,5,6,7,8,9,10,11,12,13,14,15,16,17] rfl zz0 ?_
        refine .rn [0,1,2] [3,4,5,6,7,8,9,10,11,12,13,14,15,16,17] ?_
        refine .split (t := 43) rfl (fun c43 => ?_) (fun c43 => ?_)
        · try rw [c43]
          try simp at c43
        · try rw [c43]
          try simp at c43
          refine .rn [3,4,5,6,7,8,9,10] [11,12,13,14,15,16,17] ?_
          refine .split (t := 51) rfl (fun c51 => ?_) (fun c51 => ?_)
          · try rw [c51]
            try simp at c51
          · try rw [c51]
            try simp at c51
            refine .rn [11,12,13] [14,15,16,17] ?_
            refine .split (t := 54) rfl (fun c54 => ?_) (fun c54 => ?_)
            · try rw [c54]
              try simp at c54
              have hnn : orpL t ≠ [] := fun h => c54 (hnil.1 h)
              have hpos : 0 < (orpL t).length := List.length_pos_iff.2 hnn
              refine .rn [14,15,16,17] [] ?_
              refine .done ?_
              refine .condS rfl (fun c58 => ?_) (fun c58 => ?_)
              · try simp at c58
                exact absurd (chE_9 ht c54) c58
              · try simp at c58
                refine .skip ?_
                refine .seq ?_
                refine .seq ?_
                refine .rn ?_
                refine .condS rfl (fun c61 => ?_) (fun c61 => ?_)
                · try simp at c61
                · try simp at c61
                  refine .skip ?_
                  refine .seq ?_
                  refine .seq ?_
                  refine .rn ?_
                  refine .block ?_
                  refine .loopS (fun i : Nat => ([(1, .ptr 0 0),(3, .ptr 1 0),(4, .int .i64 n),(5, ints (orpL t)),(9, .int .i64 i)], ⟨2,[(1, .box [.vec (t.map encW)]),(0, .box [.vec (s.map encW)])]⟩)) (fun i => i ≤ (orpL t).length) (fun i => (orpL t).length - i) 0 (by simp) (.mk [] [] zz14 zz15 rfl rfl rfl) ?_
                  rintro i hi
                  simp only at hi ⊢
                  refine .seq ?_
                  refine .seq ?_
                  refine .rn ?_
                  refine .condS rfl (fun c72 => ?_) (fun c72 => ?_)
                  · try simp at c72
                    have hw3 : IntKind.i64.wrap ((i : Int) + 1) = (i : Int) + 1 := wrap64 (by omega) (by omega)
                    have ha : (orpL t)[i] ∈ orpL t := List.getElem_mem c72
                    refine .skip ?_
                    refine .seq ?_
                    refine .block ?_
                    refine .seq ?_
                    refine .drawn (ms := [0,0,0,6,14,31,63,127,127,255,1023]) (W := [5]) (items := [.op 0, .op 1, .op 2, .op 3, .op 4, .op 5, .op 6, .op 7, .op 8, .op 9, .op 10]) rfl zz0 zz0 zz0 ?_
                    refine .rd rfl rfl (by decide) rfl (by decide) zz1 ?_   -- 0
                    refine .rd rfl rfl (by decide) rfl (by decide) zz1 ?_   -- 1
                    refine .rd rfl rfl (by decide) rfl (by decide) zz1 ?_   -- 2
                    refine .rd rfl rfl (by decide) rfl (by decide) zz1 ?_   -- 3
                    refine .rd rfl rfl (by decide) rfl (by decide) zz1 ?_   -- 4
                    refine .wr rfl rfl (by decide) (.pure rfl rfl rfl Tryz.call30 (by decide) (p30o t ht _ ha (by omega)) (by first | rfl | simp [*]) ?_)
                    rintro _ rfl
                    refine .rd rfl rfl (by decide) rfl (by decide) zz1 ?_   -- 6
                    refine .rd rfl rfl (by decide) rfl (by decide) zz1 ?_   -- 7
                    refine .rd rfl rfl (by decide) rfl (by decide) zz1 ?_   -- 8
                    refine .rd rfl rfl (by decide) rfl (by decide) zz1 ?_   -- 9
                    refine .rd rfl rfl (by decide) rfl (by decide) zz1 ?_   -- 10
                    refine .done ?_
                    refine .seq ?_
                    refine .regionL [0,1,2,3,4,5,6] rfl zz0 ?_
                    refine .rn [0,1,2] [3,4,5,6] ?_
                    refine .split (t := 86) rfl (fun c86 => ?_) (fun c86 => ?_)
                    · try rw [c86]
                      try simp at c86
                    · try rw [c86]
                      try simp at c86
                      refine .rn [3,4,5,6] [] ?_
                      refine .done ?_
                      refine .condS rfl (fun c90 => ?_) (fun c90 => ?_)
                      · try simp at c90
                      · try simp at c90
                        refine .skip ?_
                        refine .rn ?_
                        refine ⟨i + 1, c72,zz5,(.mk [] [] zz14 zz15 rfl rfl rfl)⟩
                  · try simp at c72
                    have hcnt : (nextS t).length + (orpL t).length = t.length := orp_count ht
                    have hW5 : IntKind.i64.wrap (((nextS t).length : Int) + ((orpL t).length : Int)) = (t.length : Int) := by rw [wrap64 (by omega) (by omega)]; omega
                    refine .exit ?_
                    refine .seq ?_
                    refine .regionL [0,1,2,3,4,5,6,7,8] rfl zz0 ?_
                    refine .rn [0,1] [2,3,4,5,6,7,8] ?_
                    refine .step rfl rfl (.pure rfl rfl rfl Tryz.call36 (by decide) (p36o t ht (by omega)) (by first | rfl | simp [*]) ?_)
                    rintro _ rfl
                    refine .rn [3,4,5,6,7,8] [] ?_
                    refine .done ?_
                    refine .seq ?_
                    refine .seq ?_
                    refine .regionL [0,1,2,3,4,5,6,7,8,9,10,11,12,13] rfl zz0 ?_
                    refine .rn [0,1,2] [3,4,5,6,7,8,9,10,11,12,13] ?_
                    refine .split (t := 99) rfl (fun c99 => ?_) (fun c99 => ?_)
                    · try rw [c99]
                      try simp at c99
                    · try rw [c99]
                      try simp at c99
                      refine .rn [3,4,5,6,7,8,9,10,11,12,13] [] ?_
                      refine .done ?_
                      refine .condS rfl (fun c110 => ?_) (fun c110 => ?_)
                      · try simp at c110
                      · try simp at c110
                        refine .skip ?_
                        refine .rn ?_
                        refine .rn ?_
                        refine ⟨(n + 1, nextS t), ⟨by simp only; omega, checkS_filter ht _⟩, (by simp only; omega),(.mk [] [] zz14 zz15 rfl rfl rfl)⟩
            · try rw [c54]
              try simp at c54
              refine .rn [14,15,16,17] [] ?_
              refine .done ?_
              refine .condF rfl ?_
              refine .skip ?_
              refine .seq ?_
              refine .seq ?_
              refine .rn ?_
              refine .condS rfl (fun c61 => ?_) (fun c61 => ?_)
              · try simp at c61
                refine .seq ?_
                refine .regionL [0,1,2,3,4,5,6,7] rfl zz0 ?_
                refine .step rfl rfl (.pure rfl rfl rfl Tryz.call22 (by decide) (hsan) (by first | rfl | simp [*]) ?_)
                rintro _ rfl
                refine .rn [1] [2,3,4,5,6,7] ?_
                refine .split (t := 63) rfl (fun c63 => ?_) (fun c63 => ?_)
                · try rw [c63]
                  try simp at c63
                  refine .rn [2,3] [4,5,6,7] ?_
                  refine .step rfl rfl (.pure rfl rfl rfl Tryz.call56 (by decide) (p56o t c54 htl) (by first | rfl | simp [*]) ?_)
                  rintro _ rfl
                  refine .rn [5,6,7] [] ?_
                  refine .done ?_
                  refine .ret ?_
                  refine ⟨_, _, zz4,zz4, ?_⟩
                  first | rfl | (simp [*]; done) | (simp_all; done)
                · try rw [c63]
                  try simp at c63
              · try simp at c61
      · try simp at c28
        exfalso; omega
end Go.Am.Ds
end
