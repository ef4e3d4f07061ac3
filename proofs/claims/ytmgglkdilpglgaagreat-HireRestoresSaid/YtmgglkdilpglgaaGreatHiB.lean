/-
  What is used in the proof of a statement (part HiB); no condition.
-/
import Derived.Test.YtmgglkdilpglgaaGreatHiZ
import Derived.Test.YtmgglkdilpglgaaGreatVm2
import Derived.Test.YtmgglkdilpglgaaGreatHiT
import Derived.Test.YtmgglkdilpglgaaGreatHiA
set_option linter.all false
section
namespace Go.Am.Hi
open Go Go.Am Go.Proofs
set_option maxRecDepth 100000
set_option maxHeartbeats 4000000
set_option linter.unusedSimpArgs false
set_option linter.unusedVariables false
attribute [local simp] vrun vwanted vyielded vop vopA vputAll VHeap.back hidI hidF backL bm Nat.testBit_eq_decide_div_mod_eq veval vevals vparts vO vbuiltin vlen vappend velems vcopy vmakeSlice vbuildSlice valloc vbox vmakeMap vload vpartT vpart vstore vfieldAddr vfield vindexAddr vindex vextract vslice vsliceZ vbounds vbnd zeroO vidx vlookup vmget vmapUpdate vdelete vclear vnilq vnilp vnils vbin vsc vsc1 vscs vscl abinOp aint ashift aunOp aconvert amaxs amax2 pvcV pvc pvcs tput tget vargs VHeap.get VHeap.alloc VHeap.put VHeap.drop VHeap.empty vlook vput vdrop psplice pfill preps chunk List.range List.range.loop vresults vresult vresultV frz frzL PV.isF PV.allF PV.scal PV.allS retP subT allFT PV.one PV.ids PV.idsL dropL beq_eq ble_dec blt_dec
def excL (row : List Int) (l : List (Int × Int)) : List Int := if exE row l = 0 then exch row l else []
theorem exE_zero {row : List Int} {l : List (Int × Int)} (h : exE row l = 0) : rowB row = true ∧ l.length ≤ 120 ∧ okX row.length l := by
  unfold exE at h
  split at h
  · rename_i h1
    split at h
    · cases h
    · rename_i h2
      split at h
      · rename_i h3
        refine ⟨h1, by omega, fun x hx => ?_⟩
        have := goodX_iff.1 (List.all_eq_true.1 h3 x hx)
        exact ⟨this.1, this.2.1⟩
      · cases h
  · cases h
theorem set_put2 (r : List Int) (a : Nat) (y : Int) (b : Nat) (z : Int) (h : b < r.length) : ((r.map (PV.int .i64)).set a (.int .i64 y)).take b ++ PV.int .i64 z :: ((r.map (PV.int .i64)).set a (.int .i64 y)).drop (b + 1) = ((r.set a y).set b z).map (PV.int .i64) := by
  have := set_put (r.set a y) b z (by simpa using h)
  rw [List.map_set] at this
  exact this
theorem grow_arr (row : List Int) (h : 0 < row.length) (vh : VHeap) (n2 : Nat) (D : Nat → Bool) (ρ : Nat → Nat) : AltO vh n2 D ρ (.grow 1 (row.map (PV.int .i64))) (.arr false 1 (row.map (PV.int .i64))) := by
  cases row with
  | nil => simp at h
  | cons a r => exact ⟨rfl, ⟨_, _, rfl⟩, flat_int _ _⟩
theorem frz_sub_agg (vh : VHeap) (i : Nat) (R : List Int) (e : Int) (hn : 0 < R.length) (hg : vh.get i = some (.arr false 1 (R.map (PV.int .i64)))) : frz vh (.agg [.sub i 0 R.length, .int .i64 e]) = some (.agg [ints R, .int .i64 e]) := by
  have h1 : Nat.beq R.length 0 = false := by rw [beq_eq]; simp; intro h; rw [h] at hn; simp at hn
  have h2 : (R.map (PV.int .i64)).take R.length = R.map (PV.int .i64) := by
    have := List.take_length (l := R.map (PV.int .i64)); simpa using this
  simp only [frz, frzL, h1, cond_false, hg, velems, all_one_int, beq_eq, ble_dec, List.drop_zero, chunk, h2, List.length_map]
  simp
theorem p44 (row : List Int) (l : List (Int × Int)) (hn : row.length < 4294967296) (hl : l.length < 4294967296) : VPure Tryz.prog 44 [ints row, .vec (l.map encX)] fun r => Soft r (.tup [ints (excL row l), .int .i64 (exE row l)]) := by
  refine .of_body Tryz.func44 rfl rfl ?_
  refine .seq ?_
  refine .rn ?_
  refine .seq ?_
  refine .seq ?_
  refine .regionL [0,1,2,3] rfl zz0 ?_
  refine .rn [0,1] [2,3] ?_
  refine .step rfl rfl (.pure rfl rfl rfl Tryz.call112 (by decide) (p112 row l hn hl) (by first | rfl | simp [*]) ?_)
  rintro _ rfl
  refine .rn [3] [] ?_
  refine .done ?_
  refine .seq ?_
  refine .rn ?_
  refine .condS rfl (fun c11 => ?_) (fun c11 => ?_)
  · try simp at c11
    refine .seq ?_
    refine .rn ?_
    refine .ret ?_
    refine ⟨_, _, zz2,zz2, ?_⟩
    simp [excL, c11]
    exact soft_tup (AltL.cons .sl0v (AltL.cons (.same _ rfl) AltL.nil))
  · try simp at c11
    obtain ⟨hb, hln, hok⟩ := exE_zero c11
    have hR := (rowB_iff.1 hb).2.2
    refine .skip ?_
    refine .seq ?_
    refine .regionL [0,1,2,3,4] rfl zz0 ?_
    refine .rn [0,1] [2,3,4] ?_
    refine .step rfl rfl (.pure rfl rfl rfl Tryz.call113 (by decide) (p113 row l hR hl hok) (by first | rfl | simp [*]) ?_)
    rintro _ rfl
    refine .rn [3,4] [] ?_
    refine .done ?_
    refine .ret ?_
    refine ⟨_, _, zz2,zz2, ?_⟩
    simp [excL, c11]
    exact soft_rfl rfl
theorem p45 (row : List Int) (l : List (Int × Int)) (hn : row.length < 4294967296) (hl : l.length < 4294967296) : VPure Tryz.prog 45 [ints row, .vec (l.map encX)] fun r => Soft r (.agg [ints (excL row l), .int .i64 (exE row l)]) := by
  refine .of_body Tryz.func45 rfl rfl ?_
  refine .seq ?_
  refine .rn ?_
  refine .seq ?_
  refine .regionL [0,1,2,3] rfl zz0 ?_
  refine .rn [0,1] [2,3] ?_
  refine .step rfl rfl (.pure rfl rfl rfl Tryz.call114 (by decide) (p114 row l hn hl) (by first | rfl | simp [*]) ?_)
  rintro _ rfl
  refine .rn [3] [] ?_
  refine .done ?_
  refine .seq ?_
  refine .seq ?_
  refine .rn ?_
  refine .condS rfl (fun c13 => ?_) (fun c13 => ?_)
  · try simp at c13
    refine .seq ?_
    refine .rn ?_
    refine .ret ?_
    refine ⟨_, _, zz2,zz2, ?_⟩
    simp [excL, c13]
    exact soft_agg (AltL.cons .sl0v (AltL.cons (.same _ rfl) AltL.nil))
  · try simp at c13
    obtain ⟨hb, hln, hok⟩ := exE_zero c13
    have hR := (rowB_iff.1 hb).2.2
    have hl2 : ((row.length : Nat) : Int) ≤ 4294967296 := by omega
    have hl3 : row.length ≤ 4294967296 := by omega
    have hn1 : 0 < row.length := (rowB_iff.1 hb).2.1
    have hO := grow_arr row hn1
    refine .skip ?_
    refine .seq ?_
    refine .rn ?_
    refine .seq ?_
    refine .rn ?_
    refine .seq ?_
    refine .seq ?_
    refine .rn ?_
    refine .block ?_
    refine .loopS (fun k : Nat => ([(1, .vec (l.map encX)),(4, .ptr 0 0),(6, .sub 1 0 row.length),(7, .int .i64 k)], ⟨2,[(1, .arr false 1 ((exch row (l.take k)).map (.int .i64))),(0, .box [.sl0, .int .i64 0])]⟩)) (fun k => k ≤ l.length) (fun k => l.length - k) 0 (by simp) (.mk [] [] (by repeat' (first | exact trivial | refine And.intro (Exists.intro _ (And.intro rfl ?_)) ?_ | exact Alt.growS 1 1 _ true 1 _ (Nat.le_of_ble_eq_true rfl) rfl rfl (by simp) hn1 | exact Alt.ptr _ _ _ (Nat.le_of_ble_eq_true rfl) rfl | (refine Alt.same _ ?_; first | rfl | (simp [*]; done)))) (by repeat' (first | exact trivial | refine And.intro (And.intro (Nat.le_of_ble_eq_true rfl) (Or.inr (And.intro rfl (Exists.intro _ (And.intro rfl ?_))))) ?_ | exact hO _ _ _ _ | rfl | refine AltL.cons ?_ ?_ | exact AltL.nil | (refine Alt.same _ ?_; first | rfl | (simp [*]; done)))) rfl rfl rfl) ?_
    rintro k hk
    simp only at hk ⊢
    obtain ⟨R, hRR⟩ : ∃ R, exch row (l.take k) = R := ⟨_, rfl⟩
    have hRl : R.length = row.length := by rw [← hRR, exch_len]
    rw [hRR]
    refine .seq ?_
    refine .seq ?_
    refine .rn ?_
    refine .condS rfl (fun c22 => ?_) (fun c22 => ?_)
    · try simp at c22
      have hw2 : IntKind.i64.wrap ((k : Int) + 1) = (k : Int) + 1 := wrap64 (by omega) (by omega)
      obtain ⟨a, b, hx, ha, hb⟩ := okX_at hok c22
      have haR : a < R.length := by omega
      have hbR : b < R.length := by omega
      have ha2 : a + 1 ≤ row.length := by omega
      have hb2 : b + 1 ≤ row.length := by omega
      have hE : encX l[k] = .agg [.int .i64 a, .int .i64 b] := by rw [hx]; rfl
      have hS : exch row (l.take (k + 1)) = (R.set a R[b]).set b R[a] := by rw [exch_succ _ _ _ c22, hRR, hx, swp_nat _ _ _ haR hbR]
      have hp1 := set_put R a R[b] haR
      have hp2 := set_put2 R a R[b] b R[a] hbR
      refine .skip ?_
      refine .seq ?_
      refine .block ?_
      refine .seq ?_
      refine .rn ?_
      refine .seq ?_
      refine .drawn (ms := [0,0,0,6,14,30,0,0,0,384,896,1920,4032,8128,16383,32767]) (W := [15]) (items := [.op 0, .op 1, .op 2, .op 3, .op 4, .op 5, .op 6, .op 7, .op 8, .op 9, .op 10, .op 11, .op 12, .op 13, .op 14, .op 15]) rfl zz0 zz0 zz0 ?_
      refine .rd rfl rfl (by decide) rfl (by decide) zz1 ?_   -- 0
      refine .rd rfl rfl (by decide) rfl (by decide) zz1 ?_   -- 1
      refine .rd rfl rfl (by decide) rfl (by decide) zz1 ?_   -- 2
      refine .rd rfl rfl (by decide) rfl (by decide) zz1 ?_   -- 3
      refine .rd rfl rfl (by decide) rfl (by decide) zz1 ?_   -- 4
      refine .rd rfl rfl (by decide) rfl (by decide) zz1 ?_   -- 5
      refine .rd rfl rfl (by decide) rfl (by decide) zz1 ?_   -- 6
      refine .rd rfl rfl (by decide) rfl (by decide) zz1 ?_   -- 7
      refine .rd rfl rfl (by decide) rfl (by decide) zz1 ?_   -- 8
      refine .rd rfl rfl (by decide) rfl (by decide) zz1 ?_   -- 9
      refine .rd rfl rfl (by decide) rfl (by decide) zz1 ?_   -- 10
      refine .rd rfl rfl (by decide) rfl (by decide) zz1 ?_   -- 11
      refine .rd rfl rfl (by decide) rfl (by decide) zz1 ?_   -- 12
      refine .rd rfl rfl (by decide) rfl (by decide) zz1 ?_   -- 13
      refine .rd rfl rfl (by decide) rfl (by decide) zz1 ?_   -- 14
      refine .wr rfl rfl (by decide) (.vop zz1 (by decide) ?_)   -- 15
      refine .done ?_
      refine .rn ?_
      refine .rn ?_
      refine ⟨k + 1, c22,zz3,(.mk [] [] zz4 zz5 rfl rfl rfl)⟩
    · try simp at c22
      refine .exit ?_
      refine .seq ?_
      refine .rn ?_
      refine .ret ?_
      have hkn : k = l.length := by omega
      refine ⟨_, .agg [ints R, .int .i64 0],zz2, ?_, ?_⟩
      · rw [← hRl]
        exact frz_sub_agg _ _ _ _ (by omega) rfl
      · rw [excL, if_pos c13, c13, ← hRR, hkn, List.take_length]
        exact soft_rfl rfl
theorem p44' (row : List Int) (l : List (Int × Int)) (hn : row.length < 4294967296) (hl : l.length < 4294967296) : VPure Tryz.prog 44 [ints row, .vec (l.map encX)] fun r => r = .tup [ints (excL row l), .int .i64 (exE row l)] := VPure.soft (p44 row l hn hl) rfl
theorem p45' (row : List Int) (l : List (Int × Int)) (hn : row.length < 4294967296) (hl : l.length < 4294967296) : VPure Tryz.prog 45 [ints row, .vec (l.map encX)] fun r => r = .agg [ints (excL row l), .int .i64 (exE row l)] := VPure.soft (p45 row l hn hl) rfl
theorem same_stepL {a b : List (List Int)} {i : Nat} (ha : i < a.length) (hb : i < b.length) : decide (a.drop i = b.drop i) = (decide (a[i] = b[i]) && decide (a.drop (i + 1) = b.drop (i + 1))) := by
  rw [List.drop_eq_getElem_cons ha, List.drop_eq_getElem_cons hb, Bool.eq_iff_iff]
  simp only [decide_eq_true_eq, Bool.and_eq_true, List.cons.injEq]
theorem p50 (a b : List (List Int)) (ha : a.length < 4294967296) (hb : b.length < 4294967296) (hla : ∀ l ∈ a, l.length < 4294967296) (hlb : ∀ l ∈ b, l.length < 4294967296) : VPure Tryz.prog 50 [.vec (a.map ints), .vec (b.map ints)] fun r => r = .bool (decide (a = b)) := by
  refine .of_body Tryz.func50 rfl rfl ?_
  refine .seq ?_
  refine .rn ?_
  refine .seq ?_
  refine .seq ?_
  refine .rn ?_
  refine .condS rfl (fun c11 => ?_) (fun c11 => ?_)
  · try simp at c11
    refine .seq ?_
    refine .rn ?_
    refine .ret ?_
    refine ⟨_, _, zz2,zz2, ?_⟩
    rw [decide_eq_false fun h => c11 (by rw [h])]
  · try simp at c11
    refine .skip ?_
    refine .seq ?_
    refine .seq ?_
    refine .rn ?_
    refine .block ?_
    refine .loopS (fun s : Nat => ([(0, .vec (a.map ints)),(1, .vec (b.map ints)),(5, .int .i64 s)], VHeap.empty)) (fun s => s ≤ a.length ∧ decide (a.drop s = b.drop s) = decide (a = b)) (fun s => a.length - s) 0 ⟨by simp, by simp⟩ (.pure (by simp [*]) (by simp)) ?_
    rintro i ⟨hi, hr⟩
    simp only at hi hr ⊢
    refine .seq ?_
    refine .seq ?_
    refine .rn ?_
    refine .condS rfl (fun c15 => ?_) (fun c15 => ?_)
    · try simp at c15
      have hw2 : IntKind.i64.wrap ((i : Int) + 1) = (i : Int) + 1 := wrap64 (by omega) (by omega)
      have hib : i < b.length := by omega
      have hia : i < a.length := by omega
      rw [same_stepL hia hib] at hr
      have h1 := hla a[i] (List.getElem_mem hia)
      have h2 := hlb b[i] (List.getElem_mem hib)
      refine .skip ?_
      refine .seq ?_
      refine .block ?_
      refine .seq ?_
      refine .drawn (ms := [0,0,3,7,0,0,48,112,255,511]) (W := [8]) (items := [.op 0, .op 1, .op 2, .op 3, .op 4, .op 5, .op 6, .op 7, .op 8, .op 9]) rfl zz0 zz0 zz0 ?_
      refine .rd rfl rfl (by decide) rfl (by decide) zz1 ?_   -- 0
      refine .rd rfl rfl (by decide) rfl (by decide) zz1 ?_   -- 1
      refine .rd rfl rfl (by decide) rfl (by decide) zz1 ?_   -- 2
      refine .rd rfl rfl (by decide) rfl (by decide) zz1 ?_   -- 3
      refine .rd rfl rfl (by decide) rfl (by decide) zz1 ?_   -- 4
      refine .rd rfl rfl (by decide) rfl (by decide) zz1 ?_   -- 5
      refine .rd rfl rfl (by decide) rfl (by decide) zz1 ?_   -- 6
      refine .rd rfl rfl (by decide) rfl (by decide) zz1 ?_   -- 7
      refine .wr rfl rfl (by decide) (.pure rfl rfl rfl Tryz.call27 (by decide) (p27 a[i] b[i] h1 h2) (by first | rfl | simp [*]) ?_)
      rintro _ rfl
      refine .rd rfl rfl (by decide) rfl (by decide) zz1 ?_   -- 9
      refine .done ?_
      refine .seq ?_
      refine .rn ?_
      refine .condS rfl (fun c28 => ?_) (fun c28 => ?_)
      · try simp at c28
        refine .seq ?_
        refine .rn ?_
        refine .ret ?_
        refine ⟨_, _, zz2,zz2, ?_⟩
        rw [← hr]; simp [c28]
      · try simp at c28
        refine .skip ?_
        refine .rn ?_
        refine ⟨i + 1, ⟨zz3, ?_⟩, zz3, .pure (by simp [*]) (by simp)⟩
        rw [← hr, c28]; simp
    · try simp at c15
      have : i = a.length := by omega
      refine .exit ?_
      refine .seq ?_
      refine .rn ?_
      refine .ret ?_
      refine ⟨_, _, zz2,zz2, ?_⟩
      rw [← hr, this, List.drop_length, List.drop_eq_nil_of_le (by omega)]; rfl
end Go.Am.Hi
end

section
namespace Go.Am.Hi
open Go Go.Am Go.Proofs
set_option maxRecDepth 100000
set_option maxHeartbeats 4000000
set_option linter.unusedSimpArgs false
set_option linter.unusedVariables false
attribute [local simp] vrun vwanted vyielded vop vopA vputAll VHeap.back hidI hidF backL bm Nat.testBit_eq_decide_div_mod_eq veval vevals vparts vO vbuiltin vlen vappend velems vcopy vmakeSlice vbuildSlice valloc vbox vmakeMap vload vpartT vpart vstore vfieldAddr vfield vindexAddr vindex vextract vslice vsliceZ vbounds vbnd zeroO vidx vlookup vmget vmapUpdate vdelete vclear vnilq vnilp vnils vbin vsc vsc1 vscs vscl abinOp aint ashift aunOp aconvert amaxs amax2 pvcV pvc pvcs tput tget vargs VHeap.get VHeap.alloc VHeap.put VHeap.drop VHeap.empty vlook vput vdrop psplice pfill preps chunk List.range List.range.loop vresults vresult vresultV frz frzL PV.isF PV.allF PV.scal PV.allS retP subT allFT PV.one PV.ids PV.idsL dropL beq_eq ble_dec blt_dec
def wrF : Nat → List Int → Int
  | _, [] => -1
  | i, a :: r => if (i : Int) = a then wrF (i + 1) r else i
theorem wrF_drop (l : List Int) (i : Nat) (h : i < l.length) : wrF i (l.drop i) = if (i : Int) = l[i] then wrF (i + 1) (l.drop (i + 1)) else i := by
  rw [List.drop_eq_getElem_cons h]; rfl
def chkS (lp : Nat) (row : List Int) (l : List (Int × Int)) : Int := if exE row l = 0 then (if wrF 0 (exch row l) < 0 ∧ (l.length : Int) = row.length - lp then 0 else 8) else exE row l
theorem p116 (i p : Int) : VPure Tryz.prog 116 [.int .i64 i, .int .i64 p] fun r => r = .bool (!decide (i = p)) := by
  refine .of_body Tryz.func116 rfl rfl ?_
  refine .seq ?_
  refine .rn ?_
  refine .seq ?_
  refine .rn ?_
  refine .ret ?_
  refine ⟨_, _, zz2,zz2, ?_⟩
  first | rfl | (simp [*]; done) | (simp_all; done)
theorem p117 (i p : Int) : VPure Tryz.prog 117 [.int .i64 i, .int .i64 p] fun r => r = .bool (!decide (i = p)) := by
  refine .of_body Tryz.func117 rfl rfl ?_
  refine .seq ?_
  refine .rn ?_
  refine .seq ?_
  refine .rn ?_
  refine .ret ?_
  refine ⟨_, _, zz2,zz2, ?_⟩
  first | rfl | (simp [*]; done) | (simp_all; done)
theorem p115 (l : List Int) (f : FuncId) (hl : l.length < 4294967296) (hcf : ∀ cs w, (callFunc f cs).run Tryz.prog w = .ok (.enter f cs) w) (hp : ∀ i p : Int, VPure Tryz.prog f [.int .i64 i, .int .i64 p] fun r => r = .bool (!decide (i = p))) : VPure Tryz.prog 115 [ints l, .func f [] []] fun r => r = .int .i64 (wrF 0 l) := by
  refine .of_body Tryz.func115 rfl rfl ?_
  refine .seq ?_
  refine .rn ?_
  refine .seq ?_
  refine .seq ?_
  refine .rn ?_
  refine .block ?_
  refine .loopS (fun s : Nat => ([(1, .func f [] []),(7, ints l),(8, .int .i64 l.length),(9, .int .i64 s)], VHeap.empty)) (fun s => s ≤ l.length ∧ wrF s (l.drop s) = wrF 0 l) (fun s => l.length - s) 0 ⟨by simp, by simp⟩ (.pure (by simp [*]) (by simp)) ?_
  rintro i ⟨hi, hr⟩
  simp only at hi hr ⊢
  refine .seq ?_
  refine .rn ?_
  refine .seq ?_
  refine .condS rfl (fun c10 => ?_) (fun c10 => ?_)
  · try simp at c10
    have hw2 : IntKind.i64.wrap ((i : Int) + 1) = (i : Int) + 1 := wrap64 (by omega) (by omega)
    rw [wrF_drop l i c10] at hr
    refine .skip ?_
    refine .seq ?_
    refine .block ?_
    refine .seq ?_
    refine .rn ?_
    refine .seq ?_
    refine .regionL [0,1,2,3] rfl zz0 ?_
    refine .rn [0,1,2] [3] ?_
    refine .step rfl rfl (.pure rfl rfl rfl hcf (by decide) (hp i l[i]) (by first | rfl | simp [*]) ?_)
    rintro _ rfl
    refine .done ?_
    refine .condS rfl (fun c17 => ?_) (fun c17 => ?_)
    · try simp at c17
      refine .seq ?_
      refine .rn ?_
      refine .ret ?_
      refine ⟨_, _, zz2,zz2, ?_⟩
      rw [← hr, if_neg c17]
    · try simp at c17
      replace c17 : l[i] = (i : Int) := c17.symm
      refine .skip ?_
      refine .rn ?_
      refine ⟨i + 1, ⟨zz3, ?_⟩, zz3, .pure (by simp [*]) (by simp)⟩
      rw [← hr, if_pos c17.symm]
  · try simp at c10
    have : i = l.length := by omega
    refine .exit ?_
    refine .seq ?_
    refine .rn ?_
    refine .ret ?_
    refine ⟨_, _, zz2,zz2, ?_⟩
    rw [← hr, this, List.drop_length]; rfl
theorem p94 (l : List Int) (hl : l.length < 4294967296) (h0 : 0 < l.length) : VPure Tryz.prog 94 [ints l] fun r => r = ints l := by
  obtain ⟨a, r, rfl⟩ : ∃ a r, l = a :: r := by cases l with | nil => simp at h0 | cons a r => exact ⟨a, r, rfl⟩
  have hl3 : r.length + 1 ≤ 4294967296 := by simp at hl; omega
  have h1 : allSz 1 (PV.int .i64 a :: r.map (PV.int .i64)) = true := allSz_map (f := PV.int .i64) (n := 1) (fun _ => rfl) (a :: r)
  have h2 : allOne (PV.int .i64 a :: r.map (PV.int .i64)) = true := allOne_map (f := PV.int .i64) (fun _ => rfl) (a :: r)
  refine .of_body Tryz.func94 rfl rfl ?_
  refine .seq ?_
  refine .rn ?_
  refine .seq ?_
  refine .seq ?_
  refine .rn ?_
  refine .condS rfl (fun c4 => ?_) (fun c4 => ?_)
  · try simp at c4
  · try simp at c4
    refine .skip ?_
    refine .seq ?_
    refine .rn ?_
    refine .ret ?_
    refine ⟨_, _, zz2,zz2, ?_⟩
    first | rfl | (simp [*]; done) | (simp_all; done)
theorem p51 (row : List Int) (l : List (Int × Int)) (hn : row.length < 4294967296) (hl : l.length < 4294967296) : VPure Tryz.prog 51 [ints row, .vec (l.map encX)] fun r => r = .int .i64 (chkS (lpH row row.length).length row l) := by
  refine .of_body Tryz.func51 rfl rfl ?_
  refine .seq ?_
  refine .rn ?_
  refine .seq ?_
  refine .seq ?_
  refine .regionL [0,1,2,3] rfl zz0 ?_
  refine .rn [0,1] [2,3] ?_
  refine .step rfl rfl (.pure rfl rfl rfl Tryz.call112 (by decide) (p112 row l hn hl) (by first | rfl | simp [*]) ?_)
  rintro _ rfl
  refine .rn [3] [] ?_
  refine .done ?_
  refine .seq ?_
  refine .rn ?_
  refine .condS rfl (fun c10 => ?_) (fun c10 => ?_)
  · try simp at c10
    refine .seq ?_
    refine .rn ?_
    refine .ret ?_
    refine ⟨_, _, zz2,zz2, ?_⟩
    simp [chkS, c10]
  · try simp at c10
    obtain ⟨hb, hln, hok⟩ := exE_zero c10
    have hR := (rowB_iff.1 hb).2.2
    have hel : (exch row l).length < 4294967296 := by rw [exch_len]; omega
    have hlp := lpH_len row row.length
    have hw : IntKind.i64.wrap ((row.length : Int) - (lpH row row.length).length) = (row.length : Int) - (lpH row row.length).length := wrap64 (by omega) (by omega)
    refine .skip ?_
    refine .seq ?_
    refine .seq ?_
    refine .regionL [0,1,2,3,4,5,6,7,8,9,10,11,12,13,14,15] rfl zz0 ?_
    refine .rn [0,1] [2,3,4,5,6,7,8,9,10,11,12,13,14,15] ?_
    refine .step rfl rfl (.pure rfl rfl rfl Tryz.call113 (by decide) (p113 row l hR hl hok) (by first | rfl | simp [*]) ?_)
    rintro _ rfl
    refine .step rfl rfl (.pure rfl rfl rfl Tryz.call115 (by decide) (p115 (exch row l) 117 hel Tryz.call117 p117) (by first | rfl | simp [*]) ?_)
    rintro _ rfl
    refine .rn [4,5] [6,7,8,9,10,11,12,13,14,15] ?_
    refine .split (t := 17) rfl (fun c17 => ?_) (fun c17 => ?_)
    · try rw [c17]
      try simp at c17
      refine .rn [6,7,8,9,10,11,12,13,14,15] [] ?_
      refine .done ?_
      refine .condT rfl ?_
      refine .seq ?_
      refine .rn ?_
      refine .ret ?_
      refine ⟨_, _, zz2,zz2, ?_⟩
      have : ¬ wrF 0 (exch row l) < 0 := by omega
      simp [chkS, c10, this]
    · try rw [c17]
      try simp at c17
      refine .rn [6,7,8,9,10] [11,12,13,14,15] ?_
      refine .step rfl rfl (.pure rfl rfl rfl Tryz.call110 (by decide) (p110 row hb) (by first | rfl | simp [*]) ?_)
      rintro _ rfl
      refine .rn [12,13,14,15] [] ?_
      refine .done ?_
      refine .condS rfl (fun c27 => ?_) (fun c27 => ?_)
      · try simp at c27
        refine .seq ?_
        refine .rn ?_
        refine .ret ?_
        refine ⟨_, _, zz2,zz2, ?_⟩
        simp [chkS, c10, c17, c27]
      · try simp at c27
        refine .skip ?_
        refine .seq ?_
        refine .rn ?_
        refine .ret ?_
        refine ⟨_, _, zz2,zz2, ?_⟩
        simp [chkS, c10, c17, c27]
theorem p49 (row : List Int) (l : List (Int × Int)) (hn : row.length < 4294967296) (hl : l.length < 4294967296) : VPure Tryz.prog 49 [ints row, .vec (l.map encX)] fun r => r = .int .i64 (chkS (lpsR row).length row l) := by
  refine .of_body Tryz.func49 rfl rfl ?_
  refine .seq ?_
  refine .rn ?_
  refine .seq ?_
  refine .regionL [0,1,2,3,4] rfl zz0 ?_
  refine .rn [0,1] [2,3,4] ?_
  refine .step rfl rfl (.pure rfl rfl rfl Tryz.call45 (by decide) (p45' row l hn hl) (by first | rfl | simp [*]) ?_)
  rintro _ rfl
  refine .rn [3,4] [] ?_
  refine .done ?_
  refine .seq ?_
  refine .seq ?_
  refine .rn ?_
  refine .condS rfl (fun c13 => ?_) (fun c13 => ?_)
  · try simp at c13
    refine .seq ?_
    refine .rn ?_
    refine .ret ?_
    refine ⟨_, _, zz2,zz2, ?_⟩
    simp [chkS, c13]
  · try simp at c13
    obtain ⟨hb, hln, hok⟩ := exE_zero c13
    have hR := (rowB_iff.1 hb).2.2
    have heL : excL row l = exch row l := by rw [excL, if_pos c13]
    have hel : (exch row l).length = row.length := exch_len _ _
    have hlp := lpR_len row row.length
    have hlR : lpsR row = lpR row row.length := by rw [lpsR, if_pos hb]
    have hw : IntKind.i64.wrap ((row.length : Int) - (lpsR row).length) = (row.length : Int) - (lpsR row).length := by rw [hlR]; exact wrap64 (by omega) (by omega)
    have hwR : IntKind.i64.wrap ((row.length : Int) - (lpR row row.length).length) = (row.length : Int) - (lpR row row.length).length := wrap64 (by omega) (by omega)
    refine .skip ?_
    refine .seq ?_
    refine .seq ?_
    refine .rn ?_
    refine .block ?_
    refine .loopS (fun k : Nat => ([(0, ints row),(1, .vec (l.map encX)),(5, .ptr 0 0),(6, .int .i64 k)], ⟨1,[(0, .box [ints (exch row l), .int .i64 0])]⟩)) (fun k => k ≤ row.length ∧ wrF k ((exch row l).drop k) = wrF 0 (exch row l)) (fun k => row.length - k) 0 ⟨by simp, by simp⟩ (.mk [] [] zz4 zz5 rfl rfl rfl) ?_
    rintro k ⟨hk, hr⟩
    simp only at hk hr ⊢
    refine .seq ?_
    refine .seq ?_
    refine .rn ?_
    refine .condS rfl (fun c20 => ?_) (fun c20 => ?_)
    · try simp at c20
      have hw2 : IntKind.i64.wrap ((k : Int) + 1) = (k : Int) + 1 := wrap64 (by omega) (by omega)
      have hke : k < (exch row l).length := by omega
      rw [wrF_drop _ k hke] at hr
      refine .skip ?_
      refine .seq ?_
      refine .block ?_
      refine .seq ?_
      refine .rn ?_
      refine .condS rfl (fun c29 => ?_) (fun c29 => ?_)
      · try simp at c29
        refine .seq ?_
        refine .rn ?_
        refine .ret ?_
        refine ⟨_, _, zz2,zz2, ?_⟩
        have h1 : ¬ wrF 0 (exch row l) < 0 := by rw [← hr, if_neg (fun h => c29 h.symm)]; omega
        simp [chkS, c13, h1]
      · try simp at c29
        refine .skip ?_
        refine .rn ?_
        refine ⟨k + 1, ⟨zz3, ?_⟩, zz3,(.mk [] [] zz4 zz5 rfl rfl rfl)⟩
        rw [← hr, if_pos c29.symm]
    · try simp at c20
      have hkn : k = row.length := by omega
      have h2 : wrF 0 (exch row l) = -1 := by rw [← hr, hkn, ← hel, List.drop_length]; rfl
      refine .exit ?_
      refine .seq ?_
      refine .regionL [0,1,2,3] rfl zz0 ?_
      refine .rn [0] [1,2,3] ?_
      refine .step rfl rfl (.pure rfl rfl rfl Tryz.call43 (by decide) (p43' row hn) (by first | rfl | simp [*]) ?_)
      rintro _ rfl
      refine .rn [2,3] [] ?_
      refine .done ?_
      refine .seq ?_
      refine .seq ?_
      refine .rn ?_
      refine .condS rfl (fun c40 => ?_) (fun c40 => ?_)
      · try simp at c40
        refine .seq ?_
        refine .rn ?_
        refine .ret ?_
        refine ⟨_, _, zz2,zz2, ?_⟩
        simp [chkS, c13, h2, hlR, c40]
      · try simp at c40
        refine .skip ?_
        refine .seq ?_
        refine .rn ?_
        refine .ret ?_
        refine ⟨_, _, zz2,zz2, ?_⟩
        simp [chkS, c13, h2, hlR, c40]
end Go.Am.Hi
end

section
namespace Go.Am.Hi
open Go Go.Am Go.Proofs
set_option maxRecDepth 100000
set_option maxHeartbeats 4000000
set_option linter.unusedSimpArgs false
set_option linter.unusedVariables false
attribute [local simp] vrun vwanted vyielded vop vopA vputAll VHeap.back hidI hidF backL bm Nat.testBit_eq_decide_div_mod_eq veval vevals vparts vO vbuiltin vlen vappend velems vcopy vmakeSlice vbuildSlice valloc vbox vmakeMap vload vpartT vpart vstore vfieldAddr vfield vindexAddr vindex vextract vslice vsliceZ vbounds vbnd zeroO vidx vlookup vmget vmapUpdate vdelete vclear vnilq vnilp vnils vbin vsc vsc1 vscs vscl abinOp aint ashift aunOp aconvert amaxs amax2 pvcV pvc pvcs tput tget vargs VHeap.get VHeap.alloc VHeap.put VHeap.drop VHeap.empty vlook vput vdrop psplice pfill preps chunk List.range List.range.loop vresults vresult vresultV frz frzL PV.isF PV.allF PV.scal PV.allS retP subT allFT PV.one PV.ids PV.idsL dropL beq_eq ble_dec blt_dec
def RS (row : List Int) (r : List (Int × Int)) : Prop := (∀ (i : Nat) (h : i < r.length), wrF 0 (exch row (r.take i)) = r[i].1 ∧ nx (exch row (r.take i)) r[i].1 = r[i].2 ∧ goodX row.length r[i] = true) ∧ wrF 0 (exch row r) = -1 ∧ r.length ≤ 120
@[simp] theorem allSz_encX (l : List (Int × Int)) : allSz 2 (l.map encX) = true := allSz_map (f := encX) (n := 2) (fun _ => rfl) l
@[simp] theorem allOne_encX (l : List (Int × Int)) : allOne (l.map encX) = true := allOne_map (f := encX) (fun _ => rfl) l
theorem p48 (row : List Int) (q : List (Int × Int)) (hn : row.length < 4294967296) (hr : rowB row = true → RS row q) (hr0 : rowB row = false → q = []) : VPure Tryz.prog 48 [ints row] fun r => Soft r (.tup [.vec (q.map encX), .int .i64 (lpsE row)]) := by
  refine .of_body Tryz.func48 rfl rfl ?_
  refine .seq ?_
  refine .rn ?_
  refine .seq ?_
  refine .seq ?_
  refine .regionL [0,1,2] rfl zz0 ?_
  refine .rn [0] [1,2] ?_
  refine .step rfl rfl (.pure rfl rfl rfl Tryz.call109 (by decide) (p109 row hn) (by first | rfl | simp [*]) ?_)
  rintro _ rfl
  refine .rn [2] [] ?_
  refine .done ?_
  refine .seq ?_
  refine .rn ?_
  refine .condS rfl (fun c12 => ?_) (fun c12 => ?_)
  · try simp at c12
    refine .seq ?_
    refine .rn ?_
    refine .ret ?_
    refine ⟨_, _, zz2,zz2, ?_⟩
    rw [hr0 c12, lpsE, c12]
    exact soft_tup (AltL.cons .sl0v (AltL.cons (.same _ rfl) AltL.nil))
  · try simp at c12
    obtain ⟨hr1, hr2, hr3⟩ := hr c12
    have hR := (rowB_iff.1 c12).2
    have hlE : lpsE row = 0 := by rw [lpsE, if_pos c12]
    refine .skip ?_
    refine .seq ?_
    refine .rn ?_
    refine .seq ?_
    refine .regionL [0,1,2] rfl zz0 ?_
    refine .rn [0] [1,2] ?_
    refine .step rfl rfl (.pure rfl rfl rfl Tryz.call94 (by decide) (p94 row hn hR.1) (by first | rfl | simp [*]) ?_)
    rintro _ rfl
    refine .rn [2] [] ?_
    refine .done ?_
    refine .block ?_
    refine .loopS (fun i : Nat => ([(5, .grow 0 i true),(6, ints (exch row (q.take i)))], ⟨1,[(0, .grow 2 ((q.take i).map encX))]⟩)) (fun i => i ≤ q.length) (fun i => q.length - i) 0 (by simp) (.mk [] [] zz4 zz5 rfl rfl rfl) ?_
    rintro i hi
    simp only at hi ⊢
    obtain ⟨R, hRR⟩ : ∃ R, exch row (q.take i) = R := ⟨_, rfl⟩
    have hRl : R.length = row.length := by rw [← hRR, exch_len]
    have hRn : R.length < 4294967296 := by omega
    have htl : (q.take i).length = i := by rw [List.length_take]; omega
    rw [hRR]
    refine .block ?_
    refine .seq ?_
    refine .regionL [0,1,2] rfl zz0 ?_
    refine .rn [0] [1,2] ?_
    refine .step rfl rfl (.pure rfl rfl rfl Tryz.call115 (by decide) (p115 R 116 hRn Tryz.call116 p116) (by first | rfl | simp [*]) ?_)
    rintro _ rfl
    refine .rn [2] [] ?_
    refine .done ?_
    refine .seq ?_
    refine .seq ?_
    refine .rn ?_
    refine .condS rfl (fun c19 => ?_) (fun c19 => ?_)
    · try simp at c19
      have hie : i = q.length := Nat.le_antisymm hi (Nat.not_lt.1 fun h => by
        have := (hr1 i h).1
        have hg := (goodX_iff.1 (hr1 i h).2.2).1.1
        rw [hRR] at this; omega)
      refine .seq ?_
      refine .rn ?_
      refine .ret ?_
      subst hie
      refine ⟨_, _, zz2,zz2, ?_⟩
      have e : List.take q.length (q.map encX) = q.map encX := by rw [← List.map_take, List.take_length]
      rw [e, hlE]
      exact soft_rfl (by simp [PV.isF])
    · try simp at c19
      have hil : i < q.length := Nat.lt_of_le_of_ne hi fun h => by
        rw [← hRR, h, List.take_length, hr2] at c19; omega
      obtain ⟨h1, h2, h3⟩ := hr1 i hil
      have hg := goodX_iff.1 h3
      obtain ⟨a, b, hx, ha, hb, hab⟩ : ∃ a b : Nat, q[i] = ((a : Int),(b : Int)) ∧ a < R.length ∧ b < R.length ∧ a ≠ b := ⟨(q[i]).1.toNat, (q[i]).2.toNat, by rw [Int.toNat_of_nonneg hg.1.1, Int.toNat_of_nonneg hg.2.1.1], by omega, by omega, by omega⟩
      rw [hRR, hx] at h1
      rw [hRR, hx] at h2
      have h4 : R[a] = (b : Int) := by
        unfold nx at h2
        rw [Int.toNat_natCast, List.getD_eq_getElem?_getD, List.getElem?_eq_getElem ha, Option.getD_some] at h2
        exact h2
      have ha2 : a < row.length := by omega
      have h5 : R[a]? = some (b : Int) := by rw [List.getElem?_eq_getElem ha, h4]
      have hok : okX R.length [((a : Int),(b : Int))] := fun x hx => by
        rw [List.mem_singleton] at hx; subst hx; exact ⟨⟨by simp, by simp; omega⟩, by simp, by simp; omega⟩
      have hb3 : i + 1 ≤ 4294967296 := by omega
      have hS : exch row (q.take (i + 1)) = exch R [((a : Int),(b : Int))] := by rw [exch_succ _ _ _ hil, hRR, hx]; rfl
      have hT : q.take (i + 1) = q.take i ++ [((a : Int),(b : Int))] := by rw [List.take_succ_eq_append_getElem hil, hx]
      have hT2 : (q.map encX).take (i + 1) = (q.map encX).take i ++ [.agg [.int .i64 a, .int .i64 b]] := by rw [← List.map_take, hT, List.map_append, List.map_take]; rfl
      clear hT
      refine .skip ?_
      refine .seq ?_
      refine .rn ?_
      refine .seq ?_
      refine .rn ?_
      refine .regionL [0,1,2,3,4] rfl zz0 ?_
      refine .rn [0,1,2] [3,4] ?_
      refine .step rfl rfl (.take rfl rfl rfl Tryz.call113 (by decide) (by first | (simp <;> rfl) | (simp [*] <;> rfl) | (simp [*]; done)) (p113 R [((a : Int),(b : Int))] (by omega) (by simp) hok) ?_)
      rintro _ rfl
      refine .rn [4] [] ?_
      refine .done ?_
      refine ⟨i + 1, hil, zz3,(.mk [] [(0,3)] zz4 zz5 rfl rfl rfl)⟩
end Go.Am.Hi
end

section
namespace Go.Am.Hi
open Go Go.Am Go.Proofs
set_option maxRecDepth 100000
set_option maxHeartbeats 4000000
set_option linter.unusedSimpArgs false
set_option linter.unusedVariables false
attribute [local simp] vrun vwanted vyielded vop vopA vputAll VHeap.back hidI hidF backL bm Nat.testBit_eq_decide_div_mod_eq veval vevals vparts vO vbuiltin vlen vappend velems vcopy vmakeSlice vbuildSlice valloc vbox vmakeMap vload vpartT vpart vstore vfieldAddr vfield vindexAddr vindex vextract vslice vsliceZ vbounds vbnd zeroO vidx vlookup vmget vmapUpdate vdelete vclear vnilq vnilp vnils vbin vsc vsc1 vscs vscl abinOp aint ashift aunOp aconvert amaxs amax2 pvcV pvc pvcs tput tget vargs VHeap.get VHeap.alloc VHeap.put VHeap.drop VHeap.empty vlook vput vdrop psplice pfill preps chunk List.range List.range.loop vresults vresult vresultV frz frzL PV.isF PV.allF PV.scal PV.allS retP subT allFT PV.one PV.ids PV.idsL dropL beq_eq ble_dec blt_dec
def lk (F : List (Int × Int)) (c : Int) : Option Int := (F.find? fun p => decide (p.1 = c)).map (·.2)
def sw (F : List (Int × Int)) : List (Int × Int) := F.map fun p => (p.2, p.1)
def mpI (F : List (Int × Int)) : List (PV × PV) := F.map fun p => (.int .i64 p.1, .int .i64 p.2)
theorem pfind_mpI (n : Int) : ∀ F : List (Int × Int), pfind .i64 n (mpI F) = some ((lk F n).map (PV.int .i64))
  | [] => rfl
  | (a, v) :: r => by
    have ih := pfind_mpI n r
    simp only [mpI, List.map_cons, pfind] at ih ⊢
    rw [ih]
    unfold lk
    by_cases h : a = n
    · subst h; simp
    · simp [h]
theorem pmset_mpI (n v : Int) (F : List (Int × Int)) (h : lk F n = none) : pmset .i64 n (.int .i64 v) (mpI F) = some (mpI (F ++ [(n, v)])) := by
  unfold pmset
  rw [pfind_mpI, h]
  simp [mpI]
def inF (n : Int) (x : Int × Int) : Bool := (decide (0 ≤ x.1) && decide (x.1 ≤ n - 1)) && (decide (0 ≤ x.2) && decide (x.2 ≤ n - 1))
theorem inF_iff {n : Int} {x : Int × Int} : inF n x = true ↔ (0 ≤ x.1 ∧ x.1 ≤ n - 1) ∧ 0 ≤ x.2 ∧ x.2 ≤ n - 1 := by simp [inF]
theorem inF_no {n : Int} {x : Int × Int} (h : ¬((0 ≤ x.1 ∧ x.1 ≤ n - 1) ∧ 0 ≤ x.2 ∧ x.2 ≤ n - 1)) : inF n x = false := Bool.eq_false_iff.2 fun h2 => h (inF_iff.1 h2)
def clF (F : List (Int × Int)) (x : Int × Int) : Bool := F.any fun y => decide (y.1 = x.1) || decide (y.2 = x.2)
def fndE (n : Int) : List (Int × Int) → List (Int × Int) → Int
  | _, [] => 0
  | F, x :: r => if inF n x then (if clF F x then 9 else fndE n (F ++ [x]) r) else 1
theorem fndE_drop {n : Int} {F : List (Int × Int)} {k : Nat} (h : k < F.length) : fndE n (F.take k) (F.drop k) = if inF n F[k] then (if clF (F.take k) F[k] then 9 else fndE n (F.take (k + 1)) (F.drop (k + 1))) else 1 := by
  rw [List.drop_eq_getElem_cons h, fndE, List.take_succ_eq_append_getElem h]
theorem lk_none {F : List (Int × Int)} {c : Int} : lk F c = none ↔ ∀ y ∈ F, ¬y.1 = c := by
  unfold lk
  rw [Option.map_eq_none_iff, List.find?_eq_none]
  simp
theorem lk_sw_none {F : List (Int × Int)} {c : Int} : lk (sw F) c = none ↔ ∀ y ∈ F, ¬y.2 = c := by
  rw [lk_none]
  unfold sw
  constructor
  · intro h y hy; exact h (y.2, y.1) (List.mem_map.2 ⟨y, hy, rfl⟩)
  · intro h z hz
    obtain ⟨y, hy, rfl⟩ := List.mem_map.1 hz
    exact h y hy
theorem clF_no {F : List (Int × Int)} {x : Int × Int} (h1 : lk F x.1 = none) (h2 : lk (sw F) x.2 = none) : clF F x = false := by
  rw [lk_none] at h1
  rw [lk_sw_none] at h2
  unfold clF
  rw [List.any_eq_false]
  intro y hy
  simp [h1 y hy, h2 y hy]
theorem lk_some {F : List (Int × Int)} {c v : Int} (h : lk F c = some v) : (c, v) ∈ F := by
  unfold lk at h
  obtain ⟨p, hp, rfl⟩ := Option.map_eq_some_iff.1 h
  have h1 := List.find?_some hp
  have h2 := List.mem_of_find?_eq_some hp
  simp at h1
  subst h1
  exact h2
theorem lk_sw_some {F : List (Int × Int)} {c v : Int} (h : lk (sw F) c = some v) : (v, c) ∈ F := by
  have := lk_some h
  unfold sw at this
  obtain ⟨p, hp, he⟩ := List.mem_map.1 this
  injection he with h1 h2
  rw [← h1, ← h2]; exact hp
theorem clF_yes1 {F : List (Int × Int)} {x : Int × Int} {v : Int} (h : lk F x.1 = some v) : clF F x = true := by
  unfold clF
  rw [List.any_eq_true]
  exact ⟨_, lk_some h, by simp⟩
theorem clF_yes2 {F : List (Int × Int)} {x : Int × Int} {v : Int} (h : lk (sw F) x.2 = some v) : clF F x = true := by
  unfold clF
  rw [List.any_eq_true]
  exact ⟨_, lk_sw_some h, by simp⟩
def FOK (n : Nat) (F : List (Int × Int)) : Prop := (∀ x ∈ F, (0 ≤ x.1 ∧ x.1 < (n : Int)) ∧ 0 ≤ x.2 ∧ x.2 < (n : Int)) ∧ (∀ x ∈ F, ∀ y ∈ F, x.1 = y.1 → x = y) ∧ ∀ x ∈ F, ∀ y ∈ F, x.2 = y.2 → x = y
theorem FOK.nil (n : Nat) : FOK n [] := ⟨by simp, by simp, by simp⟩
theorem FOK.snoc {n : Nat} {F : List (Int × Int)} {x : Int × Int} (h : FOK n F) (h1 : (0 ≤ x.1 ∧ x.1 < (n : Int)) ∧ 0 ≤ x.2 ∧ x.2 < (n : Int)) (h2 : lk F x.1 = none) (h3 : lk (sw F) x.2 = none) : FOK n (F ++ [x]) := by
  rw [lk_none] at h2
  rw [lk_sw_none] at h3
  refine ⟨fun y hy => ?_, fun y hy z hz he => ?_, fun y hy z hz he => ?_⟩
  · rcases List.mem_append.1 hy with hy | hy
    · exact h.1 y hy
    · rw [List.mem_singleton] at hy; subst hy; exact h1
  · rcases List.mem_append.1 hy with hy1 | hy1 <;> rcases List.mem_append.1 hz with hz1 | hz1
    · exact h.2.1 y hy1 z hz1 he
    · rw [List.mem_singleton] at hz1; rw [hz1] at he; exact absurd he (h2 y hy1)
    · rw [List.mem_singleton] at hy1; rw [hy1] at he; exact absurd he.symm (h2 z hz1)
    · rw [List.mem_singleton] at hy1 hz1; rw [hy1, hz1]
  · rcases List.mem_append.1 hy with hy1 | hy1 <;> rcases List.mem_append.1 hz with hz1 | hz1
    · exact h.2.2 y hy1 z hz1 he
    · rw [List.mem_singleton] at hz1; rw [hz1] at he; exact absurd he (h3 y hy1)
    · rw [List.mem_singleton] at hy1; rw [hy1] at he; exact absurd he.symm (h3 z hz1)
    · rw [List.mem_singleton] at hy1 hz1; rw [hy1, hz1]
def bck (F : List (Int × Int)) : Nat → Int → Int
  | 0, c => c
  | k + 1, c => match lk (sw F) c with
    | some f => bck F k f
    | none => c
def cellX (n : Nat) (F : List (Int × Int)) (c : Int) : Int := match lk F c with
  | some p => p
  | none => bck F (n + 1) c
def rowX (n : Nat) (F : List (Int × Int)) : List Int := (List.range n).map fun (c : Nat) => cellX n F c
def cutX (n : Nat) (F : List (Int × Int)) (k : Nat) : List Int := (List.range n).map fun (c : Nat) => if c < k then cellX n F c else 0
theorem cutX_len (n : Nat) (F : List (Int × Int)) (k : Nat) : (cutX n F k).length = n := by simp [cutX, -List.range, -List.range.loop]
theorem cutX_zero (n : Nat) (F : List (Int × Int)) : List.replicate n (PV.int .i64 0) = (cutX n F 0).map (PV.int .i64) := by
  simp [cutX, -List.range, -List.range.loop, Function.comp_def, List.map_const']
theorem cutX_all (n : Nat) (F : List (Int × Int)) : cutX n F n = rowX n F := by
  unfold cutX rowX
  apply List.map_congr_left
  intro c hc
  rw [if_pos (List.mem_range.1 hc)]
theorem cutX_put (n : Nat) (F : List (Int × Int)) (k : Nat) (h : k < n) : (cutX n F k).set k (cellX n F k) = cutX n F (k + 1) := by
  apply List.ext_getElem?
  intro i
  by_cases hi : i < n
  · have e : ∀ j, (cutX n F j)[i]? = some (if i < j then cellX n F i else 0) := fun j => by
      simp [cutX, hi, -List.range, -List.range.loop]
    rw [List.getElem?_set, e, e, cutX_len]
    by_cases h1 : k = i
    · subst h1; simp [h]
    · rw [if_neg h1]
      by_cases h2 : i < k
      · rw [if_pos h2, if_pos (by omega)]
      · rw [if_neg h2, if_neg (by omega)]
  · rw [List.getElem?_eq_none (by simp [cutX_len]; omega), List.getElem?_eq_none (by rw [cutX_len]; omega)]
def CH (F : List (Int × Int)) (c : Int) : List Int → Prop
  | [] => False
  | [a] => a = c
  | a :: b :: r => (a, b) ∈ F ∧ CH F c (b :: r)
theorem CH.fresh {n : Nat} {F : List (Int × Int)} (hF : FOK n F) {c : Int} (hc : lk F c = none) : ∀ {l : List Int} {f a : Int}, CH F c l → (f, a) ∈ F → (∀ b ∈ l.tail, a ≠ b) → f ∉ l
  | [], _, _, h, _, _ => h.elim
  | [x], f, a, h, hf, _ => fun hm => by
    rw [List.mem_singleton] at hm
    have : x = c := h
    subst this; subst hm
    exact (lk_none.1 hc _ hf) rfl
  | x :: y :: r, f, a, h, hf, ha => fun hm => by
    rcases List.mem_cons.1 hm with rfl | hm
    · have := hF.2.1 _ h.1 _ hf rfl
      injection this with _ h2
      exact ha y (by simp) h2.symm
    · exact CH.fresh hF hc h.2 hf (fun b hb => ha b (by simp at hb ⊢; exact .inr hb)) hm
def WB (n : Nat) (F : List (Int × Int)) (c : Int) (a : Nat) (l : List Int) : Prop := a < n ∧ CH F c ((a : Int) :: l) ∧ ((a : Int) :: l).Nodup ∧ (∀ x ∈ (a : Int) :: l, 0 ≤ x ∧ x < (n : Int)) ∧ bck F (n + 1 - l.length) a = bck F (n + 1) c
theorem WB.zero {n : Nat} {F : List (Int × Int)} {c : Nat} (h : c < n) : WB n F c c [] := ⟨h, rfl, by simp, by simp; omega, rfl⟩
theorem WB.len {n : Nat} {F : List (Int × Int)} {c : Int} {a : Nat} {l : List Int} (h : WB n F c a l) : l.length < n := by
  have := in_len h.2.2.1 h.2.2.2.1
  rw [List.length_cons] at this
  omega
theorem WB.stop {n : Nat} {F : List (Int × Int)} {c : Int} {a : Nat} {l : List Int} (h : WB n F c a l) (hn : lk (sw F) a = none) : bck F (n + 1) c = a := by
  have hl := h.len
  rw [← h.2.2.2.2, show n + 1 - l.length = (n - l.length) + 1 by omega, bck, hn]
theorem WB.next {n : Nat} {F : List (Int × Int)} (hF : FOK n F) {c : Int} (hc : lk F c = none) {a : Nat} {l : List Int} {f : Int} (h : WB n F c a l) (hn : lk (sw F) a = some f) : 0 ≤ f ∧ WB n F c f.toNat ((a : Int) :: l) := by
  have hl := h.len
  obtain ⟨h1, h2, h3, h4, h5⟩ := h
  have hm := lk_sw_some hn
  have hr := (hF.1 _ hm).1
  have hft : ((f.toNat : Nat) : Int) = f := Int.toNat_of_nonneg hr.1
  simp only at hr
  refine ⟨hr.1, by omega, ?_, ?_, ?_, ?_⟩
  · rw [hft]; exact ⟨hm, h2⟩
  · rw [hft, List.nodup_cons]
    exact ⟨CH.fresh hF hc h2 hm (fun b hb he => (List.nodup_cons.1 h3).1 (by rw [he]; exact hb)), h3⟩
  · intro x hx
    rcases List.mem_cons.1 hx with rfl | hx
    · omega
    · exact h4 x hx
  · rw [← h5, show n + 1 - l.length = (n - l.length) + 1 by omega, bck, hn, hft]
    congr 1
    rw [List.length_cons]; omega
end Go.Am.Hi
end
